import Derived.Test.YtodmafgmdlkhoaaSM4
section
namespace Go.Proofs.Ytodmafgmdlkhoaa.Vs
set_option linter.all false
/-! what a command does -/
theorem zw4(B:Nat)(l:List (List UInt8))(h:∀x∈l,x.length≤B):(spc l).length≤l.length*(B+1):=by
 have key:∀l:List (List UInt8),(∀x∈l,x.length≤B)→(l.flatMap λt=>(32:UInt8) :: t).length≤l.length*(B+1):=by
  intro l
  induction l with
  | nil=>intro _;simp
  | cons y l ih =>
   intro h
   have h1:=h y (by simp)
   have h2:=ih λx hx=>h x (by simp [hx])
   simp only [List.flatMap_cons,List.length_append,List.length_cons,Nat.add_mul,Nat.one_mul] at h2 ⊢
   omega
 cases l with
 | nil=>simp [spc]
 | cons y l =>
  have h1:=h y (by simp)
  have h2:=key l λx hx=>h x (by simp [hx])
  simp only [spc,List.length_append,List.length_cons,Nat.add_mul,Nat.one_mul] at h2 ⊢
  omega
theorem catP_bd{c:DtCatalog}(h:CatP c):c.fSets.length≤5∧(∀k (hk:k<c.fSets.length),c.fSets[k].fSnaps.length≤5)∧(spc (namL c.fSets)).length≤1073741824∧∀k (hk:k<c.fSets.length),(spc (tldL c.fSets[k])).length≤1073741824:=by
 obtain ⟨h1,h2⟩:=h
 have hs:∀k (hk:k<c.fSets.length),SetP c.fSets[k]:=λk hk=>(h2 k _ (List.getElem?_eq_getElem hk)).1
 refine ⟨h1,λk hk=>(hs k hk).2.1,?_,λk hk=>?_⟩
 ·have := zw4 8 (namL c.fSets) fun x hx => by
   obtain ⟨s,hs',rfl⟩:=List.mem_map.1 hx
   obtain ⟨k,hk,rfl⟩:=List.getElem_of_mem hs'
   exact (hs k hk).1.2.1
  rw [zfo] at this
  omega
 ·have := zw4 17 (tldL c.fSets[k]) fun x hx => by
   obtain ⟨p,hp,rfl⟩:=List.mem_map.1 hx
   obtain ⟨j,hj,rfl⟩:=List.getElem_of_mem hp
   have h3:=((hs k hk).2.2 j _ (List.getElem?_eq_getElem hj)).1
   have ha:(c.fSets[k].fSnaps[j]).fName.length≤8:=by grind [SnapP,Word]
   have hb:(c.fSets[k].fSnaps[j]).fTag.length≤8:=by grind [SnapP,Word]
   simp only [List.length_append,List.length_cons]
   omega
  have h4:=(hs k hk).2.1
  have h5:(tldL c.fSets[k]).length=c.fSets[k].fSnaps.length:=by simp [tldL]
  rw [h5] at this
  omega
noncomputable def setS(l:List DtCSet)(k:Nat)(m:DtCmd):List DtCSet:=if m.fKind=2 then l.take k++l.drop (k+1) else if h:k<l.length then (if m.fKind=3 then l.set k (comS l[k] m) else if m.fKind=4 then l.set k (tagS l[k] m) else if m.fKind=5 then l.set k (pruS l[k] m.fN) else l) else l
noncomputable def setR(l:List DtCSet)(k:Nat)(m:DtCmd):List UInt8:=if m.fKind=2 then bOk else if h:k<l.length then (if m.fKind=3 then comR l[k] m else if m.fKind=4 then tagR l[k] m else if m.fKind=5 then digN (goneN l[k].fSnaps m.fN).toNat else spc (tldL l[k])) else []
section
variable {l:List DtCSet}{k:Nat}{m:DtCmd}
theorem zzs(h:m.fKind=2):setS l k m=l.take k++l.drop (k+1)∧setR l k m=bOk:=by unfold setS setR;rw [if_pos h,if_pos h];exact ⟨rfl,rfl⟩
theorem zsi(hk:k<l.length)(h:m.fKind=3):setS l k m=l.set k (comS l[k] m)∧setR l k m=comR l[k] m:=by unfold setS setR;rw [if_neg (by omega),dif_pos hk,if_pos h,if_neg (by omega),dif_pos hk,if_pos h];exact ⟨rfl,rfl⟩
theorem zvr(hk:k<l.length)(h:m.fKind=4):setS l k m=l.set k (tagS l[k] m)∧setR l k m=tagR l[k] m:=by unfold setS setR;rw [if_neg (by omega),dif_pos hk,if_neg (by omega),if_pos h,if_neg (by omega),dif_pos hk,if_neg (by omega),if_pos h];exact ⟨rfl,rfl⟩
theorem zzt(hk:k<l.length)(h:m.fKind=5):setS l k m=l.set k (pruS l[k] m.fN)∧setR l k m=digN (goneN l[k].fSnaps m.fN).toNat:=by unfold setS setR;rw [if_neg (by omega),dif_pos hk,if_neg (by omega),if_neg (by omega),if_pos h,if_neg (by omega),dif_pos hk,if_neg (by omega),if_neg (by omega),if_pos h];exact ⟨rfl,rfl⟩
theorem zzu(hk:k<l.length)(h2:¬m.fKind=2)(h3:¬m.fKind=3)(h4:¬m.fKind=4)(h5:¬m.fKind=5):setS l k m=l∧setR l k m=spc (tldL l[k]):=by unfold setS setR;rw [if_neg h2,dif_pos hk,if_neg h3,if_neg h4,if_neg h5,if_neg h2,dif_pos hk,if_neg h3,if_neg h4,if_neg h5];exact ⟨rfl,rfl⟩
end
noncomputable def catS(c:DtCatalog)(m:DtCmd):List DtCSet:=if decB (CatP c)=true then (if decB (CmdP m)=true then (if m.fKind=0 then c.fSets else if m.fKind=1 then creS c.fSets m.fSet else if m.fKind=7 then c.fSets else if findS c.fSets m.fSet<0 then c.fSets else setS c.fSets (findS c.fSets m.fSet).toNat m) else c.fSets) else []
noncomputable def catR(c:DtCatalog)(m:DtCmd):List UInt8:=if decB (CatP c)=true then (if decB (CmdP m)=true then (if m.fKind=0 then [] else if m.fKind=1 then creR c.fSets m.fSet else if m.fKind=7 then spc (namL c.fSets) else if findS c.fSets m.fSet<0 then bNone else setR c.fSets (findS c.fSets m.fSet).toNat m) else []) else []
section
variable {c:DtCatalog}{m:DtCmd}
theorem zmw(h:¬CatP c):catS c m=[]∧catR c m=[]:=by unfold catS catR;rw [if_neg (by rw [zba];exact h),if_neg (by rw [zba];exact h)];exact ⟨rfl,rfl⟩
theorem zmx(h:CatP c)(hm:¬CmdP m):catS c m=c.fSets∧catR c m=[]:=by unfold catS catR;rw [if_pos (zce h),if_pos (zce h),if_neg (by rw [zba];exact hm),if_neg (by rw [zba];exact hm)];exact ⟨rfl,rfl⟩
theorem zmy(h:CatP c)(hm:CmdP m)(h0:m.fKind=0):catS c m=c.fSets∧catR c m=[]:=by unfold catS catR;rw [if_pos (zce h),if_pos (zce h),if_pos (zce hm),if_pos (zce hm),if_pos h0,if_pos h0];exact ⟨rfl,rfl⟩
theorem zmz(h:CatP c)(hm:CmdP m)(h1:m.fKind=1):catS c m=creS c.fSets m.fSet∧catR c m=creR c.fSets m.fSet:=by unfold catS catR;rw [if_pos (zce h),if_pos (zce h),if_pos (zce hm),if_pos (zce hm),if_neg (by omega),if_pos h1,if_neg (by omega),if_pos h1];exact ⟨rfl,rfl⟩
theorem zm0(h:CatP c)(hm:CmdP m)(h7:m.fKind=7):catS c m=c.fSets∧catR c m=spc (namL c.fSets):=by unfold catS catR;rw [if_pos (zce h),if_pos (zce h),if_pos (zce hm),if_pos (zce hm),if_neg (by omega),if_neg (by omega),if_pos h7,if_neg (by omega),if_neg (by omega),if_pos h7];exact ⟨rfl,rfl⟩
theorem zm1(h:CatP c)(hm:CmdP m)(h0:¬m.fKind=0)(h1:¬m.fKind=1)(h7:¬m.fKind=7)(hf:findS c.fSets m.fSet<0):catS c m=c.fSets∧catR c m=bNone:=by unfold catS catR;rw [if_pos (zce h),if_pos (zce h),if_pos (zce hm),if_pos (zce hm),if_neg h0,if_neg h1,if_neg h7,if_pos hf,if_neg h0,if_neg h1,if_neg h7,if_pos hf];exact ⟨rfl,rfl⟩
theorem zzv(h:CatP c)(hm:CmdP m)(h0:¬m.fKind=0)(h1:¬m.fKind=1)(h7:¬m.fKind=7){k:Nat}(hf:findS c.fSets m.fSet=k):catS c m=setS c.fSets k m∧catR c m=setR c.fSets k m:=by unfold catS catR;rw [if_pos (zce h),if_pos (zce h),if_pos (zce hm),if_pos (zce hm),if_neg h0,if_neg h1,if_neg h7,if_neg (by omega),if_neg h0,if_neg h1,if_neg h7,if_neg (by omega),hf];exact ⟨rfl,rfl⟩
theorem zjq{l:List DtCSet}{n:List UInt8}{k:Nat}(hf:findS l n=k):k<l.length:=by
 have h:=zmt (λp:DtCSet=>eqB p.fName n) l (by show 0≤findS l n;omega)
 change (findS l n).toNat<_ at h
 rw [hf] at h
 exact h
end
end Go.Proofs.Ytodmafgmdlkhoaa.Vs
end
section
namespace Go.Proofs.Ytodmafgmdlkhoaa.Vs
set_option linter.all false
set_option maxRecDepth 100000
attribute [local simp] zbe zcl
theorem prn_gone(l:List DtCSnap)(n:Int)(hn:0≤n):(l.length:Int)-(prn ((bareN l:Int)-n) 0 l).length=goneN l n:=by
 have h:=prn_len ((bareN l:Int)-n) l 0
 unfold goneN
 omega
def zG9:=And.intro @zbx (And.intro @zbq @zbz)
def zG10:=And.intro @zba @zbf
theorem l15PruneX(l:List DtCSnap)(hl:l.length≤1048576)(n:Int)(hn:0≤n)(hn2:n≤1048576):XCall Try.prog 96 [.arr 8 0 l.length,(.g (.int .i64 (n)))] [.own 3 (l.map DtCSnap.cells)] (.tup [.arr 16 0 (prn ((bareN l:Int)-n) 0 l).length,(.g (.int .i64 (goneN l n)))]) [.dead] [.own 3 ((prn ((bareN l:Int)-n) 0 l).map DtCSnap.cells)]:=by
 refine zbt Try.func96 (by rfl) (by rfl) (by rw [Try.ntmps96];exact Nat.le_of_ble_eq_true rfl) rfl (by simp) rfl rfl ?_
 rw [Try.ntmps96]
 refine zh1 (.own 3 (l.map DtCSnap.cells)) (by simp [cvO]<;>assumption) ?_
 refine AW_k [(0,_),(1,_)] ⟨rfl,rfl,trivial⟩ ?_
 refine zf9 (us:=l) 8 903 (by simp [zG9]) (by simp [zG9]) λys hys hone=>?_
 have hyl:ys.length=l.length:=by rw [←hys];simp
 refine AW_x rfl rfl λK hK=>?_
 simp (disch:=omega)
 repeat' first|(refine ⟨by omega,?_⟩)|(intro _)
 refine hK _ ?_;clear hK K
 refine AW_x rfl rfl λK hK=>?_
 simp (disch:=omega)
 repeat' first|(refine ⟨by omega,?_⟩)|(intro _)
 refine hK _ ?_;clear hK K
 refine zbj ?_
 refine AW_x rfl rfl λK hK=>?_
 simp (disch:=omega)
 repeat' first|(refine ⟨by omega,?_⟩)|(intro _)
 refine hK _ ?_;clear hK K
 refine zbn ?_
 refine zbv (λmM sS=>∃(i:Nat),mM=l.length-i∧(i≤l.length)∧sS = { env:=lkE [(0,.arr 8 0 l.length),(1,(.g (.int .i64 (n)))),(6,(.g (.int .i64 ((bareN (l.take i):Nat))))),(7,(.g (.int .i64 ((i:Nat)))))],ob:=lk [(8,.win 3 (ys.map snapV)),(903,.park (ys.flatMap snapP))] }) ?_ ?_
 ·refine ⟨_,LeS.kx [(8,8),(903,903)] [(0,.arr 8 0 l.length),(1,(.g (.int .i64 (n)))),(6,(.g (.int .i64 ((bareN (l.take (0)):Nat))))),(7,(.g (.int .i64 (((0):Nat)))))] [(8,.win 3 (ys.map snapV)),(903,.park (ys.flatMap snapP))] (by simp [zG9,KpR,renV2,renV,zbl,zcb,zcl];try (simp [bareN];done)) (by simp [zG9,KpOX,renO,plO,cvO,renV,pl1,zcb,zcl];try rfl) (by rfl) (by simp) (by simp) (by rfl) (by simp [formsX,List.range_succ,zbq,zbz]),_,0,rfl,?_,rfl⟩
  ·simp
 ·rintro mM sS ⟨i,rfl,hi,rfl⟩
  refine zbj ?_
  refine AW_x rfl rfl λK hK=>?_
  simp (disch:=omega)
  repeat' first|(refine ⟨by omega,?_⟩)|(simp (disch:=omega))|(intro _)
  refine hK _ ?_;clear hK K
  refine zbi rfl (λhc1=>?_) (λhc1=>?_)
  ·try simp [zG10,zbd,zbc] at hc1
   all_goals
    have hbl:bareN (l.take i)≤1048576:=by have h:=zld (l.take i);rw [List.length_take] at h;omega
    have hyi:=zw3 hys i (by omega) (by omega)
    have hv1:(ys[i].2 2).oneCell'=true:=hone _ (List.getElem_mem _) 2
    simp only [Value.oneCell'] at hv1
    have hbt:=zjp l i (by omega)
    rw [←hyi] at hbt
    refine zbk ?_
    refine zbo ?_
    refine zbj ?_
    refine zbn ?_
    refine AW_x rfl rfl λK hK=>?_
    simp (disch:=omega) [hv1]
    repeat' first|(exfalso;omega)|(refine ⟨λ_=>?_,λ_=>?_⟩)|(refine ⟨by omega,?_⟩)|(simp (disch:=omega) [hv1])|(intro _)
    all_goals (refine hK _ ?_;clear hK K)
    all_goals
     refine zbi rfl (λhc2=>?_) (λhc2=>?_)
     ·try simp [zG10,zbd,zbc] at hc2
      all_goals
       refine zb6 rfl rfl λK hK=>?_
       simp (disch:=omega) [hv1]
       repeat' first|(exfalso;omega)|(refine ⟨λ_=>?_,λ_=>?_⟩)|(refine ⟨by omega,?_⟩)|(simp (disch:=omega) [hv1])|(intro _)
       all_goals (refine hK _ ?_;clear hK K)
       all_goals
        refine zbo ?_
        refine zb6 rfl rfl λK hK=>?_
        simp (disch:=omega) [hv1]
        repeat' first|(refine ⟨by omega,?_⟩)|(intro _)
        refine hK _ ?_;clear hK K
        refine ⟨_,LeS.kx [(8,8),(903,903)] [(0,.arr 8 0 l.length),(1,(.g (.int .i64 (n)))),(6,(.g (.int .i64 ((bareN (l.take (i+1)):Nat))))),(7,(.g (.int .i64 (((i+1):Nat)))))] [(8,.win 3 (ys.map snapV)),(903,.park (ys.flatMap snapP))] (by simp [zG9,KpR,renV2,renV,zbl,zcb,zcl];try (first | omega|(rw [hbt];split<;>first | omega|(exfalso;simp_all;done)))) (by simp [zG9,KpOX,renO,plO,cvO,renV,pl1,zcb,zcl];try rfl) (by rfl) (by simp) (by simp) (by rfl) (by simp [formsX,List.range_succ,zbq,zbz]),_,?_,i+1,rfl,?_,rfl⟩
        ·omega
        ·omega
     try simp [zG10,zbd,zbc] at hc2
     refine zbk ?_
     refine zbo ?_
     refine zb6 rfl rfl λK hK=>?_
     simp (disch:=omega) [hv1]
     repeat' first|(exfalso;omega)|(refine ⟨λ_=>?_,λ_=>?_⟩)|(refine ⟨by omega,?_⟩)|(simp (disch:=omega) [hv1])|(intro _)
     all_goals (refine hK _ ?_;clear hK K)
     all_goals
      refine ⟨_,LeS.kx [(8,8),(903,903)] [(0,.arr 8 0 l.length),(1,(.g (.int .i64 (n)))),(6,(.g (.int .i64 ((bareN (l.take (i+1)):Nat))))),(7,(.g (.int .i64 (((i+1):Nat)))))] [(8,.win 3 (ys.map snapV)),(903,.park (ys.flatMap snapP))] (by simp [zG9,KpR,renV2,renV,zbl,zcb,zcl];try (first | omega|(rw [hbt];split<;>first | omega|(exfalso;simp_all;done)))) (by simp [zG9,KpOX,renO,plO,cvO,renV,pl1,zcb,zcl];try rfl) (by rfl) (by simp) (by simp) (by rfl) (by simp [formsX,List.range_succ,zbq,zbz]),_,?_,i+1,rfl,?_,rfl⟩
      ·omega
      ·omega
  try simp [zG10,zbd,zbc] at hc1
  have hti:l.take i=l:=List.take_of_length_le (by omega)
  refine zb0 ?_
  refine zbo ?_
  refine AW_x rfl rfl λK hK=>?_
  simp (disch:=omega)
  repeat' first|(exfalso;omega)|(refine ⟨λ_=>?_,λ_=>?_⟩)|(refine ⟨by omega,?_⟩)|(simp (disch:=omega))|(intro _)
  all_goals (refine hK _ ?_;clear hK K)
  all_goals
   refine zbj ?_
   refine AW_x rfl rfl λK hK=>?_
   simp (disch:=omega)
   repeat' first|(refine ⟨by omega,?_⟩)|(intro _)
   refine hK _ ?_;clear hK K
   refine zbn ?_
   refine zbv (λmM sS=>∃(i:Nat) (ks:List SnapV) (b:Int),mM=l.length-i∧(i≤l.length∧ks=prV ((bareN l:Int)-n) 0 (ys.take i)∧b=(bareN l:Int)-(bareN (l.take i):Nat))∧sS = { env:=lkE [(0,.arr 8 0 l.length),(1,(.g (.int .i64 (n)))),(6,(.g (.int .i64 (b)))),(8,.arr 904 0 ks.length),(9,(.g (.int .i64 ((i:Nat)))))],ob:=lk [(8,.win 3 (ys.map snapV)),(903,.park (ys.flatMap snapP)),(904,.win 3 (ks.map snapV))] }) ?_ ?_
   ·refine ⟨_,LeS.kx [(8,8),(903,903),(904,400)] [(0,.arr 8 0 l.length),(1,(.g (.int .i64 (n)))),(6,(.g (.int .i64 (((bareN l:Int)))))),(8,.arr 904 0 ([]).length),(9,(.g (.int .i64 (((0):Nat)))))] [(8,.win 3 (ys.map snapV)),(903,.park (ys.flatMap snapP)),(904,.win 3 (([]).map snapV))] (by simp [zG9,KpR,renV2,renV,zbl,zcb,zcl];try (first | omega | rw [hti])) (by simp [zG9,KpOX,renO,plO,cvO,renV,pl1,zcb,zcl];try rfl) (by rfl) (by simp) (by simp) (by rfl) (by simp [formsX,List.range_succ,zbq,zbz]),_,0,[],(bareN l:Int),rfl,?_,rfl⟩
    ·exact ⟨by omega,rfl,by simp [bareN]⟩
   ·rintro mM sS ⟨i,ks,b,rfl,⟨hi,hks,hb⟩,rfl⟩
    have hkl:ks.length≤l.length:=by rw [hks];have h1:=(zh5 ((bareN l:Int)-n) (ys.take i) 0).length_le;rw [List.length_take] at h1;omega
    have hbm:=zse l i
    have hbl:=zld l
    refine zbj ?_
    refine AW_x rfl rfl λK hK=>?_
    simp (disch:=omega)
    repeat' first|(refine ⟨by omega,?_⟩)|(simp (disch:=omega))|(intro _)
    refine hK _ ?_;clear hK K
    refine zbi rfl (λhc3=>?_) (λhc3=>?_)
    ·try simp [zG10,zbd,zbc] at hc3
     all_goals
      have hpt:=zw2 ((bareN l:Int)-n) ys i (by omega)
      have hyi:=zw3 hys i (by omega) (by omega)
      have hv1:(ys[i].2 2).oneCell'=true:=hone _ (List.getElem_mem _) 2
      simp only [Value.oneCell'] at hv1
      have hbt:=zjp l i (by omega)
      have hbm2:=zse l (i+1)
      rw [←hyi] at hbt
      refine zbk ?_
      refine zbo ?_
      refine zbj ?_
      refine zbn ?_
      refine zbj ?_
      refine AW_x rfl rfl λK hK=>?_
      simp (disch:=omega) [hv1]
      repeat' first|(exfalso;omega)|(refine ⟨λ_=>?_,λ_=>?_⟩)|(refine ⟨by omega,?_⟩)|(simp (disch:=omega) [hv1])|(intro _)
      all_goals (refine hK _ ?_;clear hK K)
      all_goals
       refine zbi rfl (λhc4=>?_) (λhc4=>?_)
       ·try simp [zG10,zbd,zbc] at hc4
        all_goals
         refine AW_x rfl rfl λK hK=>?_
         simp (disch:=omega) [hv1]
         repeat' first|(exfalso;omega)|(refine ⟨λ_=>?_,λ_=>?_⟩)|(refine ⟨by omega,?_⟩)|(simp (disch:=omega) [hv1])|(intro _)
         all_goals (refine hK _ ?_;clear hK K)
         all_goals
          refine AW_x rfl rfl λK hK=>?_
          simp (disch:=omega) [hv1]
          repeat' first|(refine ⟨by omega,?_⟩)|(intro _)
          refine hK _ ?_;clear hK K
          refine zbi rfl (λhc5=>?_) (λhc5=>?_)
          ·try simp [zG10,zbd,zbc] at hc5
           all_goals
            refine zb0 ?_
            refine zbo ?_
            refine zb6 rfl rfl λK hK=>?_
            simp (disch:=omega) [hv1]
            repeat' first|(exfalso;omega)|(refine ⟨λ_=>?_,λ_=>?_⟩)|(refine ⟨by omega,?_⟩)|(simp (disch:=omega) [hv1])|(intro _)
            all_goals (refine hK _ ?_;clear hK K)
            all_goals
             refine ⟨_,LeS.kx [(8,8),(903,903),(904,904)] [(0,.arr 8 0 l.length),(1,(.g (.int .i64 (n)))),(6,(.g (.int .i64 ((b-1))))),(8,.arr 904 0 (ks).length),(9,(.g (.int .i64 (((i+1):Nat)))))] [(8,.win 3 (ys.map snapV)),(903,.park (ys.flatMap snapP)),(904,.win 3 ((ks).map snapV))] (by simp [zG9,KpR,renV2,renV,zbl,zcb,zcl];try (first | omega|(simp_all;done))) (by simp [zG9,KpOX,renO,plO,cvO,renV,pl1,zcb,zcl];try rfl) (by rfl) (by simp) (by simp) (by rfl) (by simp [formsX,List.range_succ,zbq,zbz]),_,?_,i+1,ks,b-1,rfl,?_,rfl⟩
             ·omega
             ·refine ⟨by omega,?_,?_⟩
              ·rw [hys] at hpt;rw [hpt,hks];split<;>rename_i h<;>first|(simp;done)|(exfalso;obtain ⟨h1,h2⟩:=h;first | omega|(simp_all;done))|(exfalso;exact h ⟨by assumption,by omega⟩) | trace_state
              ·rw [hbt];by_cases ht:ys[i].1.fTag=[]<;>first|(simp [ht];omega)|(exfalso;simp_all;done) | trace_state
          try simp [zG10,zbd,zbc] at hc5
          refine zbk ?_
          refine zbo ?_
          refine zb6 rfl rfl λK hK=>?_
          simp (disch:=omega) [hv1]
          repeat' first|(exfalso;omega)|(refine ⟨λ_=>?_,λ_=>?_⟩)|(refine ⟨by omega,?_⟩)|(simp (disch:=omega) [hv1])|(intro _)
          all_goals (refine hK _ ?_;clear hK K)
          all_goals
           refine zbo ?_
           refine zb6 rfl rfl λK hK=>?_
           simp (disch:=omega) [hv1]
           repeat' first|(refine ⟨by omega,?_⟩)|(intro _)
           refine hK _ ?_;clear hK K
           refine ⟨_,LeS.kx [(8,8),(903,903),(904,784)] [(0,.arr 8 0 l.length),(1,(.g (.int .i64 (n)))),(6,(.g (.int .i64 (((if ys[i].1.fTag=[] then b-1 else b)))))),(8,.arr 904 0 (ks++[ys[i]]).length),(9,(.g (.int .i64 (((i+1):Nat)))))] [(8,.win 3 (ys.map snapV)),(903,.park (ys.flatMap snapP)),(904,.win 3 ((ks++[ys[i]]).map snapV))] (by simp [zG9,KpR,renV2,renV,zbl,zcb,zcl];try (first | omega|(simp_all;done))) (by simp [zG9,KpOX,renO,plO,cvO,renV,pl1,zcb,zcl];try rfl) (by rfl) (by simp) (by simp) (by rfl) (by simp [formsX,List.range_succ,zbq,zbz]),_,?_,i+1,ks++[ys[i]],(if ys[i].1.fTag=[] then b-1 else b),rfl,?_,rfl⟩
           ·omega
           ·refine ⟨by omega,?_,?_⟩
            ·rw [hys] at hpt;rw [hpt,hks];split<;>rename_i h<;>first|(simp;done)|(exfalso;obtain ⟨h1,h2⟩:=h;first | omega|(simp_all;done))|(exfalso;exact h ⟨by assumption,by omega⟩) | trace_state
            ·rw [hbt];by_cases ht:ys[i].1.fTag=[]<;>first|(simp [ht];omega)|(exfalso;simp_all;done) | trace_state
       try simp [zG10,zbd,zbc] at hc4
       refine zbk ?_
       refine zbo ?_
       refine zb6 rfl rfl λK hK=>?_
       simp (disch:=omega) [hv1]
       repeat' first|(exfalso;omega)|(refine ⟨λ_=>?_,λ_=>?_⟩)|(refine ⟨by omega,?_⟩)|(simp (disch:=omega) [hv1])|(intro _)
       all_goals (refine hK _ ?_;clear hK K)
       all_goals
        refine zbo ?_
        refine zb6 rfl rfl λK hK=>?_
        simp (disch:=omega) [hv1]
        repeat' first|(refine ⟨by omega,?_⟩)|(intro _)
        refine hK _ ?_;clear hK K
        refine ⟨_,LeS.kx [(8,8),(903,903),(904,784)] [(0,.arr 8 0 l.length),(1,(.g (.int .i64 (n)))),(6,(.g (.int .i64 (((if ys[i].1.fTag=[] then b-1 else b)))))),(8,.arr 904 0 (ks++[ys[i]]).length),(9,(.g (.int .i64 (((i+1):Nat)))))] [(8,.win 3 (ys.map snapV)),(903,.park (ys.flatMap snapP)),(904,.win 3 ((ks++[ys[i]]).map snapV))] (by simp [zG9,KpR,renV2,renV,zbl,zcb,zcl];try (first | omega|(simp_all;done))) (by simp [zG9,KpOX,renO,plO,cvO,renV,pl1,zcb,zcl];try rfl) (by rfl) (by simp) (by simp) (by rfl) (by simp [formsX,List.range_succ,zbq,zbz]),_,?_,i+1,ks++[ys[i]],(if ys[i].1.fTag=[] then b-1 else b),rfl,?_,rfl⟩
        ·omega
        ·refine ⟨by omega,?_,?_⟩
         ·rw [hys] at hpt;rw [hpt,hks];split<;>rename_i h<;>first|(simp;done)|(exfalso;obtain ⟨h1,h2⟩:=h;first | omega|(simp_all;done))|(exfalso;exact h ⟨by assumption,by omega⟩) | trace_state
         ·rw [hbt];by_cases ht:ys[i].1.fTag=[]<;>first|(simp [ht];omega)|(exfalso;simp_all;done) | trace_state
    try simp [zG10,zbd,zbc] at hc3
    have hti2:ys.take i=ys:=List.take_of_length_le (by omega)
    rw [hti2] at hks
    refine zb0 ?_
    refine zbo ?_
    refine zdp (zlc (ks:=ks) (zs:=ys) 904 903 (by simp [zG9]) (by simp [zG9]) (by rw [hks];exact zh5 _ _ _)) ?_
    have hsn:(ks.map λz=>DtCSnap.cells z.1)=(prn ((bareN l:Int)-n) 0 l).map DtCSnap.cells:=by have h:=zmu ((bareN l:Int)-n) ys 0;rw [hys] at h;rw [←h,List.map_map,hks];rfl
    rw [hsn]
    have hkl2:ks.length=(prn ((bareN l:Int)-n) 0 l).length:=by have h:=congrArg List.length hsn;simpa using h
    have hgo:=prn_gone l n hn
    refine AW_x rfl rfl λK hK=>?_
    simp (disch:=omega)
    repeat' first|(exfalso;omega)|(refine ⟨λ_=>?_,λ_=>?_⟩)|(refine ⟨by omega,?_⟩)|(simp (disch:=omega))|(intro _)
    all_goals (refine hK _ ?_;clear hK K)
    all_goals
     refine zbp (zb5 [904] [] (by simp [zG9,List.range_succ]) (by simp) ?_)
     simp (disch:=omega)
     all_goals first | rfl | exact ⟨rfl,rfl⟩ | omega | trace_state
end Go.Proofs.Ytodmafgmdlkhoaa.Vs
end
section
namespace Go.Proofs.Ytodmafgmdlkhoaa.Vs
set_option linter.all false
set_option maxRecDepth 100000
theorem zvs{zs:List SetV}{l:List DtCSet}(hzl:zs.length=l.length)(k:Nat)(hk:k<l.length)(hl:l.length≤1048576):XCall Try.prog 65 [.arr 8 0 l.length,(.g (.int .i64 ((k:Nat)))),(.g (.int .i64 ((k:Nat)+1)))] [.own 2 (zs.map setV)] (.arr 16 0 (l.length-1)) [.dead] [.own 2 ((zs.map setV).take k++(zs.map setV).drop (k+1))]:=by
 have e:(zs.map setV).length=l.length:=by rw [List.length_map,hzl]
 have h:=zzm (zs.map setV) (zcg zs) k (by omega) (by omega)
 rw [e] at h
 exact h
theorem scR_del(zs:List SetV)(k:Nat):scR ((zs.map setV).take k++(zs.map setV).drop (k+1))=true:=by rw [zd9,zck (zcg zs),zcs (zcg zs)];rfl
theorem zvt{α:Type}(l:List α)(k:Nat):(l.take k++l.drop (k+1)).Sublist l:=by
 have h:(l.drop (k+1)).Sublist (l.drop k):=by
  have:l.drop (k+1)=(l.drop k).drop 1:=by rw [List.drop_drop]
  rw [this];exact List.drop_sublist _ _
 have h2:=(List.Sublist.refl (l.take k)).append h
 rwa [List.take_append_drop] at h2
theorem del_c{zs:List SetV}{l:List DtCSet}(hz:zs.map (·.1)=l)(k:Nat):((zs.take k++zs.drop (k+1)).map λz=>DtCSet.cells z.1)=(l.take k++l.drop (k+1)).map DtCSet.cells:=by subst hz;simp [Function.comp_def]
attribute [local simp] DtCatalog.cells DtCmd.cells zbe and_assoc zcg len0
theorem implCatDo(c:DtCatalog)(m:DtCmd)(hs:DtCatalog.sz c≤1048576)(hm:DtCmd.sz m≤1048576)(hch:m.fChunks.length≤1048576):XCall Try.prog 32 [.agg (DtCatalog.cells c),.agg (DtCmd.cells m)] [] (.tup [.agg [.arr 16 0 (catS c m).length],.s (catR c m)]) [] [.own 2 ((catS c m).map DtCSet.cells)]:=by
 have hB:=zqh c hs
 have hB1:=hB.1
 refine zbt Try.func32 (by rfl) (by rfl) (by rw [Try.ntmps32];exact Nat.le_of_ble_eq_true rfl) rfl (by simp) rfl rfl ?_
 rw [Try.ntmps32]
 refine zhm   ?_
 refine AW_k [(0,_),(1,_)] ⟨rfl,rfl,trivial⟩ ?_
 refine AW_x rfl rfl λK hK=>?_
 simp (disch:=omega)
 repeat' first|(refine ⟨by omega,?_⟩)|(intro _)
 refine hK _ ?_;clear hK K
 refine AW_x rfl rfl λK hK=>?_
 simp (disch:=omega)
 repeat' first|(exfalso;omega)|(refine zc9 [] true [] (zwy c hB) ?_ ?_ ?_;(focus (simp [List.range_succ,nmC];done));(focus (simp (disch:=omega) [zbe];done));simp (disch:=omega))|(refine ⟨by omega,?_⟩)|(simp (disch:=omega))|(intro _)
 refine hK _ ?_;clear hK K
 refine zbj ?_
 refine zbn ?_
 refine AW_x rfl rfl λK hK=>?_
 simp (disch:=omega)
 repeat' first|(exfalso;omega)|(refine zd5 (zbg (zbw rfl) zbm) (zmr c (by omega)) rfl ?_;simp (disch:=omega))|(refine zd6 (zmr c (by omega)) (by rfl) ?_ ?_;(focus (simp (disch:=omega) [zbe];done));simp (disch:=omega))|(refine ⟨by omega,?_⟩)|(simp (disch:=omega))|(intro _)
 refine hK _ ?_;clear hK K
 refine zbi rfl (λhc1=>?_) (λhc1=>?_)
 ·try simp [zG10,zbd,zbc] at hc1
  all_goals
   refine AW_x rfl rfl λK hK=>?_
   simp (disch:=omega)
   repeat' first|(exfalso;omega)|(refine ⟨λ_=>?_,λ_=>?_⟩)|(refine ⟨by omega,?_⟩)|(simp (disch:=omega))|(intro _)
   all_goals (refine hK _ ?_;clear hK K)
   all_goals
    refine zbp (zb5 [1000] [(1000,2)] (by simp [zG9,List.range_succ]) (by simp) ?_)
    simp (disch:=omega)
    have ⟨h1,h2⟩:=zmw hc1 (m:=m);exact ⟨h1,h2,h1⟩
 try simp [zG10,zbd,zbc] at hc1
 obtain ⟨hb1,hb2,hb3,hb4⟩:=catP_bd hc1
 refine AW_x rfl rfl λK hK=>?_
 simp (disch:=omega)
 repeat' first|(exfalso;omega)|(refine zd5 (zbg (zbw rfl) zbm) (zjo m (by omega)) rfl ?_;simp (disch:=omega))|(refine zd6 (zjo m (by omega)) (by rfl) ?_ ?_;(focus (simp (disch:=omega) [zbe];done));simp (disch:=omega))|(refine ⟨λ_=>?_,λ_=>?_⟩)|(refine ⟨by omega,?_⟩)|(simp (disch:=omega))|(intro _)
 all_goals (refine hK _ ?_;clear hK K)
 all_goals
  refine zbi rfl (λhc2=>?_) (λhc2=>?_)
  ·try simp [zG10,zbd,zbc] at hc2
   all_goals
    refine AW_x rfl rfl λK hK=>?_
    simp (disch:=omega)
    repeat' first|(exfalso;omega)|(refine ⟨λ_=>?_,λ_=>?_⟩)|(refine ⟨by omega,?_⟩)|(simp (disch:=omega))|(intro _)
    all_goals (refine hK _ ?_;clear hK K)
    all_goals
     refine zbp (zb5 [192] [] (by simp [zG9,List.range_succ]) (by simp) ?_)
     simp (disch:=omega)
     have ⟨h1,h2⟩:=zmx hc1 hc2;rw [h1,h2];exact ⟨rfl,rfl,rfl⟩
  try simp [zG10,zbd,zbc] at hc2
  refine AW_x rfl rfl λK hK=>?_
  simp (disch:=omega)
  repeat' first|(exfalso;omega)|(refine ⟨λ_=>?_,λ_=>?_⟩)|(refine ⟨by omega,?_⟩)|(simp (disch:=omega))|(intro _)
  all_goals (refine hK _ ?_;clear hK K)
  all_goals
   refine zbi rfl (λhc3=>?_) (λhc3=>?_)
   ·try simp [zG10,zbd,zbc] at hc3
    all_goals
     refine AW_x rfl rfl λK hK=>?_
     simp (disch:=omega)
     repeat' first|(exfalso;omega)|(refine ⟨λ_=>?_,λ_=>?_⟩)|(refine ⟨by omega,?_⟩)|(simp (disch:=omega))|(intro _)
     all_goals (refine hK _ ?_;clear hK K)
     all_goals
      refine zbp (zb5 [192] [] (by simp [zG9,List.range_succ]) (by simp) ?_)
      simp (disch:=omega)
      have ⟨h1,h2⟩:=zmy hc1 hc2 hc3;rw [h1,h2];exact ⟨rfl,rfl,rfl⟩
   try simp [zG10,zbd,zbc] at hc3
   refine AW_x rfl rfl λK hK=>?_
   simp (disch:=omega)
   repeat' first|(exfalso;omega)|(refine ⟨λ_=>?_,λ_=>?_⟩)|(refine ⟨by omega,?_⟩)|(simp (disch:=omega))|(intro _)
   all_goals (refine hK _ ?_;clear hK K)
   all_goals
    refine zbi rfl (λhc4=>?_) (λhc4=>?_)
    ·try simp [zG10,zbd,zbc] at hc4
     all_goals
      refine AW_x rfl rfl λK hK=>?_
      simp (disch:=omega)
      repeat' first|(exfalso;omega)|(refine zc9 [112,192] true [] (createX c.fSets (by omega) m.fSet) ?_ ?_ ?_;(focus (simp [List.range_succ,nmC];done));(focus (simp (disch:=omega) [zbe];done));simp (disch:=omega))|(refine ⟨λ_=>?_,λ_=>?_⟩)|(refine ⟨by omega,?_⟩)|(simp (disch:=omega))|(intro _)
      all_goals (refine hK _ ?_;clear hK K)
      all_goals
       refine AW_x rfl rfl λK hK=>?_
       simp (disch:=omega)
       repeat' first|(refine ⟨by omega,?_⟩)|(simp (disch:=omega))|(intro _)
       refine hK _ ?_;clear hK K
       refine zbp (zb5 [544] [] (by simp [zG9,List.range_succ]) (by simp) ?_)
       simp (disch:=omega)
       have ⟨h1,h2⟩:=zmz hc1 hc2 hc4;rw [h1,h2];exact ⟨rfl,rfl,rfl⟩
    try simp [zG10,zbd,zbc] at hc4
    refine AW_x rfl rfl λK hK=>?_
    simp (disch:=omega)
    repeat' first|(exfalso;omega)|(refine ⟨λ_=>?_,λ_=>?_⟩)|(refine ⟨by omega,?_⟩)|(simp (disch:=omega))|(intro _)
    all_goals (refine hK _ ?_;clear hK K)
    all_goals
     refine zbi rfl (λhc5=>?_) (λhc5=>?_)
     ·try simp [zG10,zbd,zbc] at hc5
      all_goals
       refine AW_d rfl mix (by kernel_rfl) (by kernel_rfl) λK hK=>?_
       simp (disch:=omega)
       repeat' first|(exfalso;omega)|(refine DKd_z [112,192] true (listX c.fSets (by omega) hb3) ?_ (λst' hst=>?_) ?_ ?_;(focus (simp;done));(focus (simp (disch:=omega) [nmC,List.range_succ] at hst;simp (disch:=omega) [hst,zbe,nmC,List.range_succ];done));(focus (simp (disch:=omega) [upsX,zipO,rnO,rn0,rn2,rhoX,List.range_succ];done));simp (disch:=omega))|(refine ⟨λ_=>?_,λ_=>?_⟩)|(refine ⟨by omega,?_⟩)|(simp (disch:=omega))|(intro _)
       all_goals (refine hK _ _ (by kernel_rfl) ?_;clear hK K)
       all_goals
        refine zbp (zb5 [192] [] (by simp [zG9,List.range_succ]) (by simp) ?_)
        simp (disch:=omega)
        have ⟨h1,h2⟩:=zm0 hc1 hc2 hc5;rw [h1,h2];exact ⟨rfl,rfl,rfl⟩
     try simp [zG10,zbd,zbc] at hc5
     refine zbk ?_
     refine zbo ?_
     refine AW_x rfl rfl λK hK=>?_
     simp (disch:=omega)
     repeat' first|(exfalso;omega)|(refine zd5 (zbg (zbw rfl) (zbg zf1 zbm)) (zw0 c m.fSet (by omega)) rfl ?_;simp (disch:=omega))|(refine zd6 (zw0 c m.fSet (by omega)) (by rfl) ?_ ?_;(focus (simp (disch:=omega) [zbe];done));simp (disch:=omega))|(refine ⟨λ_=>?_,λ_=>?_⟩)|(refine ⟨by omega,?_⟩)|(simp (disch:=omega))|(intro _)
     all_goals (refine hK _ ?_;clear hK K)
     all_goals
      refine zbj ?_
      refine AW_x rfl rfl λK hK=>?_
      simp (disch:=omega)
      repeat' first|(refine ⟨by omega,?_⟩)|(intro _)
      refine hK _ ?_;clear hK K
      refine zbi rfl (λhc6=>?_) (λhc6=>?_)
      ·try simp [zG10,zbd,zbc] at hc6
       all_goals
        refine AW_x rfl rfl λK hK=>?_
        simp (disch:=omega)
        repeat' first|(exfalso;omega)|(refine ⟨λ_=>?_,λ_=>?_⟩)|(refine ⟨by omega,?_⟩)|(simp (disch:=omega))|(intro _)
        all_goals (refine hK _ ?_;clear hK K)
        all_goals
         refine zbp (zb5 [192] [] (by simp [zG9,List.range_succ]) (by simp) ?_)
         simp (disch:=omega)
         have ⟨h1,h2⟩:=zm1 hc1 hc2 hc3 hc4 hc5 hc6;rw [h1,h2];exact ⟨rfl,rfl,rfl⟩
      try simp [zG10,zbd,zbc] at hc6
      refine zbk ?_
      refine zbo ?_
      obtain ⟨k,hkz⟩:=Int.eq_ofNat_of_zero_le hc6
      have hk:=zjq hkz
      have ⟨hS,hR⟩:=zzv hc1 hc2 hc3 hc4 hc5 hkz
      simp only [hkz]
      refine AW_x rfl rfl λK hK=>?_
      simp (disch:=omega)
      repeat' first|(exfalso;omega)|(refine ⟨λ_=>?_,λ_=>?_⟩)|(refine ⟨by omega,?_⟩)|(simp (disch:=omega))|(intro _)
      all_goals (refine hK _ ?_;clear hK K)
      all_goals
       refine zbj ?_
       refine AW_x rfl rfl λK hK=>?_
       simp (disch:=omega)
       repeat' first|(refine ⟨by omega,?_⟩)|(intro _)
       refine hK _ ?_;clear hK K
       refine zbn ?_
       refine AW_x rfl rfl λK hK=>?_
       simp (disch:=omega)
       repeat' first|(refine ⟨by omega,?_⟩)|(intro _)
       refine hK _ ?_;clear hK K
       refine zbi rfl (λhc7=>?_) (λhc7=>?_)
       ·try simp [zG10,zbd,zbc] at hc7
        all_goals
         refine zfa (us:=c.fSets) 192 901 (by simp [zG9]) (by simp [zG9]) λzs hz hone=>?_
         have hzl:zs.length=c.fSets.length:=by rw [←hz];simp
         refine zb6 rfl rfl λK hK=>?_
         simp (disch:=omega)
         repeat' first|(exfalso;omega)|(refine zc9 [192] true [] (zvs hzl k hk (by omega)) ?_ ?_ ?_;(focus (simp [List.range_succ,nmC];done));(focus (simp (disch:=omega) [zbe];done));simp (disch:=omega))|(refine ⟨λ_=>?_,λ_=>?_⟩)|(refine ⟨by omega,?_⟩)|(simp (disch:=omega))|(intro _)
         all_goals (refine hK _ ?_;clear hK K)
         all_goals
          refine zbo ?_
          refine AW_ow (sz:=2) 1024 905 (scR_del zs k) (by simp [zG9]) (by simp [zG9]) ?_
          refine zdp (zh4 (ks:=zs.take k++zs.drop (k+1)) (zs:=zs) 1024 901 (by simp [zG9]) (by simp [zG9]) (zvt zs k)) ?_
          rw [del_c hz k]
          refine AW_x rfl rfl λK hK=>?_
          simp (disch:=omega)
          repeat' first|(refine ⟨by omega,?_⟩)|(simp (disch:=omega))|(intro _)
          refine hK _ ?_;clear hK K
          refine zbp (zb5 [1024] [] (by simp [zG9,List.range_succ]) (by simp) ?_)
          simp (disch:=omega)
          have ⟨h1,h2⟩:=@zzs c.fSets k m hc7;rw [hS,hR,h1,h2];exact ⟨by simp;omega,rfl,by simp⟩
       try simp [zG10,zbd,zbc] at hc7
       refine AW_x rfl rfl λK hK=>?_
       simp (disch:=omega)
       repeat' first|(exfalso;omega)|(refine ⟨λ_=>?_,λ_=>?_⟩)|(refine ⟨by omega,?_⟩)|(simp (disch:=omega))|(intro _)
       all_goals (refine hK _ ?_;clear hK K)
       all_goals
        refine zbi rfl (λhc8=>?_) (λhc8=>?_)
        ·try simp [zG10,zbd,zbc] at hc8
         all_goals
          refine zhn rfl mix (by kernel_rfl) (by kernel_rfl) λK hK=>?_
          simp (disch:=omega)
          repeat' first|(exfalso;omega)|(refine zr7 [192] true [] (commitX c.fSets (by omega) k hk (hb2 k hk) m hch) ?_ (λst' hst=>?_) ?_;(focus (simp [List.range_succ,nmC];done));(focus (simp (disch:=omega) [nmC,List.range_succ] at hst;simp (disch:=omega) [hst,zbe,nmC,List.range_succ];done));simp (disch:=omega))|(refine ⟨λ_=>?_,λ_=>?_⟩)|(refine ⟨by omega,?_⟩)|(simp (disch:=omega))|(intro _)
          all_goals (refine hK _ _ (by kernel_rfl) ?_;clear hK K)
          all_goals
           refine zbo ?_
           refine AW_x rfl rfl λK hK=>?_
           simp (disch:=omega)
           repeat' first|(refine ⟨by omega,?_⟩)|(simp (disch:=omega))|(intro _)
           refine hK _ ?_;clear hK K
           refine zbp (zb5 [192] [] (by simp [zG9,List.range_succ]) (by simp) ?_)
           simp (disch:=omega)
           have ⟨h1,h2⟩:=zsi hk hc8;rw [hS,hR,h1,h2];exact ⟨by simp,rfl,by simp⟩
        try simp [zG10,zbd,zbc] at hc8
        refine AW_x rfl rfl λK hK=>?_
        simp (disch:=omega)
        repeat' first|(exfalso;omega)|(refine ⟨λ_=>?_,λ_=>?_⟩)|(refine ⟨by omega,?_⟩)|(simp (disch:=omega))|(intro _)
        all_goals (refine hK _ ?_;clear hK K)
        all_goals
         refine zbi rfl (λhc9=>?_) (λhc9=>?_)
         ·try simp [zG10,zbd,zbc] at hc9
          all_goals
           refine zhn rfl mix (by kernel_rfl) (by kernel_rfl) λK hK=>?_
           simp (disch:=omega)
           repeat' first|(exfalso;omega)|(refine zr7 [192] true [] (tagX c.fSets (by omega) k hk (hb2 k hk) m hch) ?_ (λst' hst=>?_) ?_;(focus (simp [List.range_succ,nmC];done));(focus (simp (disch:=omega) [nmC,List.range_succ] at hst;simp (disch:=omega) [hst,zbe,nmC,List.range_succ];done));simp (disch:=omega))|(refine ⟨λ_=>?_,λ_=>?_⟩)|(refine ⟨by omega,?_⟩)|(simp (disch:=omega))|(intro _)
           all_goals (refine hK _ _ (by kernel_rfl) ?_;clear hK K)
           all_goals
            refine zbo ?_
            refine AW_x rfl rfl λK hK=>?_
            simp (disch:=omega)
            repeat' first|(refine ⟨by omega,?_⟩)|(simp (disch:=omega))|(intro _)
            refine hK _ ?_;clear hK K
            refine zbp (zb5 [192] [] (by simp [zG9,List.range_succ]) (by simp) ?_)
            simp (disch:=omega)
            have ⟨h1,h2⟩:=zvr hk hc9;rw [hS,hR,h1,h2];exact ⟨by simp,rfl,by simp⟩
         try simp [zG10,zbd,zbc] at hc9
         refine AW_x rfl rfl λK hK=>?_
         simp (disch:=omega)
         repeat' first|(exfalso;omega)|(refine ⟨λ_=>?_,λ_=>?_⟩)|(refine ⟨by omega,?_⟩)|(simp (disch:=omega))|(intro _)
         all_goals (refine hK _ ?_;clear hK K)
         all_goals
          refine zbi rfl (λhc10=>?_) (λhc10=>?_)
          ·try simp [zG10,zbd,zbc] at hc10
           all_goals
            have hN:0≤m.fN∧m.fN≤1048576:=by have:=hc2;clear hS hR;simp only [CmdP] at this;by_cases h0:m.fN=0<;>grind
            refine zhn rfl mix (by kernel_rfl) (by kernel_rfl) λK hK=>?_
            simp (disch:=omega)
            repeat' first|(exfalso;omega)|(refine zr7 [192] true [] (pruneX c.fSets (by omega) k hk (hb2 k hk) m.fN hN) ?_ (λst' hst=>?_) ?_;(focus (simp [List.range_succ,nmC];done));(focus (simp (disch:=omega) [nmC,List.range_succ] at hst;simp (disch:=omega) [hst,zbe,nmC,List.range_succ];done));simp (disch:=omega))|(refine ⟨λ_=>?_,λ_=>?_⟩)|(refine ⟨by omega,?_⟩)|(simp (disch:=omega))|(intro _)
            all_goals (refine hK _ _ (by kernel_rfl) ?_;clear hK K)
            all_goals
             refine zbo ?_
             refine AW_x rfl rfl λK hK=>?_
             simp (disch:=omega)
             repeat' first|(refine ⟨by omega,?_⟩)|(simp (disch:=omega))|(intro _)
             refine hK _ ?_;clear hK K
             refine zbp (zb5 [192] [] (by simp [zG9,List.range_succ]) (by simp) ?_)
             simp (disch:=omega)
             have ⟨h1,h2⟩:=zzt hk hc10;rw [hS,hR,h1,h2];exact ⟨by simp,rfl,by simp⟩
          try simp [zG10,zbd,zbc] at hc10
          refine zb6 rfl rfl λK hK=>?_
          simp (disch:=omega)
          repeat' first|(exfalso;omega)|(refine zc9 [192] true [] (toldX c.fSets (by omega) k hk (hb2 k hk) (hb4 k hk)) ?_ ?_ ?_;(focus (simp [List.range_succ,nmC];done));(focus (simp (disch:=omega) [zbe];done));simp (disch:=omega))|(refine ⟨λ_=>?_,λ_=>?_⟩)|(refine ⟨by omega,?_⟩)|(simp (disch:=omega))|(intro _)
          all_goals (refine hK _ ?_;clear hK K)
          all_goals
           refine zbo ?_
           refine AW_x rfl rfl λK hK=>?_
           simp (disch:=omega)
           repeat' first|(refine ⟨by omega,?_⟩)|(simp (disch:=omega))|(intro _)
           refine hK _ ?_;clear hK K
           refine zbp (zb5 [192] [] (by simp [zG9,List.range_succ]) (by simp) ?_)
           simp (disch:=omega)
           have ⟨h1,h2⟩:=zzu hk hc7 hc8 hc9 hc10;rw [hS,hR,h1,h2];exact ⟨rfl,rfl,rfl⟩
end Go.Proofs.Ytodmafgmdlkhoaa.Vs
end
section
namespace Go.Proofs.Ytodmafgmdlkhoaa.Vs
set_option linter.all false
set_option maxRecDepth 100000
set_option maxHeartbeats 1000000
theorem zw5(z:Int)(h0:0≤z)(h:z<10):PCall Try.prog 97 [(.g (.int .i64 (z)))] (.s (digN z.toNat)):=by
 have:=specDec z.toNat (by omega)
 rwa [show ((z.toNat:Nat):Int)=z by omega] at this
theorem take_del{α:Type}(A:List α){n:Nat}(k:Nat)(h:A.length=n):List.take k (List.take k A)++List.take (n-(k+1)) (List.drop (k+1) A)=List.take k A++List.drop (k+1) A:=by rw [List.take_take,Nat.min_self,List.take_of_length_le (l:=List.drop (k+1) A) (by simp;omega)]
theorem zjr(l:List DtCSet)(k:Nat)(hk:k<l.length):l.set k { fName:=l[k].fName,fSnaps:=l[k].fSnaps }=l:=List.set_getElem_self hk
attribute [local simp] DtCatalog.cells DtCmd.cells DtCSet.cells zbe List.set_set List.getD_eq_getElem?_getD and_assoc zcg zcb
theorem l15SetX(l:List DtCSet)(hl:l.length≤1048576)(k:Nat)(hk:k<l.length)(m:DtCmd)(h5:l[k].fSnaps.length≤5)(hrd:(spc (tldL l[k])).length≤1073741824)(hN0:m.fKind=5→0≤m.fN∧m.fN≤9)(hch:m.fChunks.length≤1048576):XCall Try.prog 75 [.agg [.arr 8 0 l.length],(.g (.int .i64 ((k:Nat)))),.agg (DtCmd.cells m)] [.own 2 (l.map DtCSet.cells)] (.tup [.agg [.arr 16 0 (setS l k m).length],.s (setR l k m)]) [.dead] [.own 2 ((setS l k m).map DtCSet.cells)]:=by
 refine zbt Try.func75 (by rfl) (by rfl) (by rw [Try.ntmps75];exact Nat.le_of_ble_eq_true rfl) rfl (by simp) rfl rfl ?_
 rw [Try.ntmps75]
 refine zh1 (.own 2 (l.map DtCSet.cells)) (by simp [cvO]<;>assumption) ?_
 refine AW_k [(0,_),(1,_),(2,_)] ⟨rfl,rfl,rfl,trivial⟩ ?_
 refine zgo 8 901 902 k hk (by simp [zG9]) (by simp [zG9]) (by simp [zG9]) (by decide) (by decide) (by decide) λzs hz=>?_
 have hkz:k<zs.length:=by rw [←hz] at hk;simpa using hk
 have hset:=@zsd zs k hkz
 refine AW_x rfl rfl λK hK=>?_
 simp (disch:=omega) [hset]
 repeat' first|(refine ⟨by omega,?_⟩)|(intro _)
 refine hK _ ?_;clear hK K
 refine AW_x rfl rfl λK hK=>?_
 simp (disch:=omega) [hset]
 repeat' first|(refine ⟨by omega,?_⟩)|(simp (disch:=omega) [hset])|(intro _)
 refine hK _ ?_;clear hK K
 refine AW_x rfl rfl λK hK=>?_
 simp (disch:=omega) [hset]
 repeat' first|(exfalso;omega)|(refine zd5 (zbg (zbw rfl) (zbg zf1 zbm)) (zvn l[k] m.fName (by omega)) rfl ?_;simp (disch:=omega) [hset])|(refine zd6 (zvn l[k] m.fName (by omega)) (by rfl) ?_ ?_;(focus (simp (disch:=omega) [hset,zbe];done));simp (disch:=omega) [hset])|(refine ⟨by omega,?_⟩)|(simp (disch:=omega) [hset])|(intro _)
 refine hK _ ?_;clear hK K
 refine zbj ?_
 refine AW_x rfl rfl λK hK=>?_
 simp (disch:=omega) [hset]
 repeat' first|(refine ⟨by omega,?_⟩)|(intro _)
 refine hK _ ?_;clear hK K
 refine zbn ?_
 refine AW_x rfl rfl λK hK=>?_
 simp (disch:=omega) [hset]
 repeat' first|(refine ⟨by omega,?_⟩)|(intro _)
 refine hK _ ?_;clear hK K
 refine zbi rfl (λhc1=>?_) (λhc1=>?_)
 ·try simp [zG10,zbd,zbc] at hc1
  all_goals
   refine zcp 8 901 902 k hz hk l[k].fName l[k].fSnaps (by simp [zG9]) (by simp [zG9]) (by simp [zG9]) (by decide) (by decide) (by decide) ?_
   rw [zjr l k hk]
   refine zfa (us:=l) 8 903 (by simp [zG9]) (by simp [zG9]) λzs2 hz2 hone=>?_
   have hzl2:zs2.length=l.length:=by rw [←hz2];simp
   refine AW_x rfl rfl λK hK=>?_
   simp (disch:=omega) [hset]
   repeat' first|(exfalso;omega)|(refine ⟨λ_=>?_,λ_=>?_⟩)|(refine ⟨by omega,?_⟩)|(simp (disch:=omega) [hset])|(intro _)
   all_goals (refine hK _ ?_;clear hK K)
   all_goals
    refine AW_x rfl rfl λK hK=>?_
    simp (disch:=omega) [hset]
    repeat' first|(refine ⟨by omega,?_⟩)|(simp (disch:=omega) [hset])|(intro _)
    refine hK _ ?_;clear hK K
    refine zdp (zh4 (ks:=zs2.take k++zs2.drop (k+1)) (zs:=zs2) 640 903 (by simp [zG9];exact take_del _ k (by rw [List.length_map,hzl2])) (by simp [zG9]) (zvt zs2 k)) ?_
    rw [del_c hz2 k]
    refine AW_x rfl rfl λK hK=>?_
    simp (disch:=omega) [hset]
    repeat' first|(refine ⟨by omega,?_⟩)|(simp (disch:=omega) [hset])|(intro _)
    refine hK _ ?_;clear hK K
    refine zbp (zb5 [640] [] (by simp [zG9,List.range_succ]) (by simp) ?_)
    simp (disch:=omega) [hset]
    have ⟨h1,h2⟩:=@zzs l k m hc1;rw [h1,h2];exact ⟨by simp;omega,rfl,by simp⟩
 try simp [zG10,zbd,zbc] at hc1
 refine AW_x rfl rfl λK hK=>?_
 simp (disch:=omega) [hset]
 repeat' first|(exfalso;omega)|(refine ⟨λ_=>?_,λ_=>?_⟩)|(refine ⟨by omega,?_⟩)|(simp (disch:=omega) [hset])|(intro _)
 all_goals (refine hK _ ?_;clear hK K)
 all_goals
  refine zbi rfl (λhc2=>?_) (λhc2=>?_)
  ·try simp [zG10,zbd,zbc] at hc2
   all_goals
    refine zbj ?_
    refine AW_x rfl rfl λK hK=>?_
    simp (disch:=omega) [hset]
    repeat' first|(exfalso;omega)|(refine ⟨λ_=>?_,λ_=>?_⟩)|(refine ⟨by omega,?_⟩)|(simp (disch:=omega) [hset])|(intro _)
    all_goals (refine hK _ ?_;clear hK K)
    all_goals
     refine zbi rfl (λhc3=>?_) (λhc3=>?_)
     ·try simp [zG10,zbd,zbc] at hc3
      all_goals
       refine zcp 8 901 902 k hz hk l[k].fName l[k].fSnaps (by simp [zG9]) (by simp [zG9]) (by simp [zG9]) (by decide) (by decide) (by decide) ?_
       rw [zjr l k hk]
       refine AW_x rfl rfl λK hK=>?_
       simp (disch:=omega) [hset]
       repeat' first|(exfalso;omega)|(refine ⟨λ_=>?_,λ_=>?_⟩)|(refine ⟨by omega,?_⟩)|(simp (disch:=omega) [hset])|(intro _)
       all_goals (refine hK _ ?_;clear hK K)
       all_goals
        refine zbp (zb5 [8] [] (by simp [zG9,List.range_succ]) (by simp) ?_)
        simp (disch:=omega) [hset]
        have ⟨h1,h2⟩:=zsi hk hc2;have ⟨h3,h4⟩:=com_e hc3;rw [h1,h2,h3,h4];exact ⟨by simp,rfl,by rw [List.set_getElem_self]⟩
     try simp [zG10,zbd,zbc] at hc3
     refine zbk ?_
     refine zbo ?_
     refine zbj ?_
     refine AW_x rfl rfl λK hK=>?_
     simp (disch:=omega) [hset]
     repeat' first|(exfalso;omega)|(refine ⟨λ_=>?_,λ_=>?_⟩)|(refine ⟨by omega,?_⟩)|(simp (disch:=omega) [hset])|(intro _)
     all_goals (refine hK _ ?_;clear hK K)
     all_goals
      refine zbi rfl (λhc4=>?_) (λhc4=>?_)
      ·try simp [zG10,zbd,zbc] at hc4
       all_goals
        refine zcp 8 901 902 k hz hk l[k].fName l[k].fSnaps (by simp [zG9]) (by simp [zG9]) (by simp [zG9]) (by decide) (by decide) (by decide) ?_
        rw [zjr l k hk]
        refine AW_x rfl rfl λK hK=>?_
        simp (disch:=omega) [hset]
        repeat' first|(exfalso;omega)|(refine ⟨λ_=>?_,λ_=>?_⟩)|(refine ⟨by omega,?_⟩)|(simp (disch:=omega) [hset])|(intro _)
        all_goals (refine hK _ ?_;clear hK K)
        all_goals
         refine zbp (zb5 [8] [] (by simp [zG9,List.range_succ]) (by simp) ?_)
         simp (disch:=omega) [hset]
         have ⟨h1,h2⟩:=zsi hk hc2;have ⟨h3,h4⟩:=com_f hc3 (by omega);rw [h1,h2,h3,h4];exact ⟨by simp,rfl,by rw [List.set_getElem_self]⟩
      try simp [zG10,zbd,zbc] at hc4
      refine zbk ?_
      refine zbo ?_
      refine zf9 (us:=l[k].fSnaps) 902 903 (by simp [zG9]) (by simp [zG9]) λys hys hone=>?_
      have hyl:ys.length=l[k].fSnaps.length:=by rw [←hys];simp
      refine AW_x rfl rfl λK hK=>?_
      simp (disch:=omega) [hset]
      repeat' first|(exfalso;omega)|(refine ⟨λ_=>?_,λ_=>?_⟩)|(refine ⟨by omega,?_⟩)|(simp (disch:=omega) [hset])|(intro _)
      all_goals (refine hK _ ?_;clear hK K)
      all_goals
       refine zdp (zlc (ks:=ys) (zs:=ys) 896 903 (by simp [zG9,List.take_of_length_le,hyl]) (by simp [zG9]) (List.Sublist.refl _)) ?_
       have hsn:(ys.map λz=>DtCSnap.cells z.1)=l[k].fSnaps.map DtCSnap.cells:=by rw [←hys,List.map_map];rfl
       rw [hsn]
       refine AW_d rfl mix (by kernel_rfl) (by kernel_rfl) λK hK=>?_
       simp (disch:=omega) [hset]
       repeat' first|(refine ⟨by omega,?_⟩)|(simp (disch:=omega) [hset])|(intro _)
       refine hK _ _ (by kernel_rfl) ?_;clear hK K
       refine zcp 8 901 1104 k hz hk l[k].fName (l[k].fSnaps++[{ fName:=m.fName,fTag:=[],fChunks:=m.fChunks }]) (by simp [zG9,hyl]) (by simp [zG9]) (by simp [zG9,DtCSnap.cells]) (by decide) (by decide) (by decide) ?_
       refine AW_x rfl rfl λK hK=>?_
       simp (disch:=omega) [hset]
       repeat' first|(refine ⟨by omega,?_⟩)|(simp (disch:=omega) [hset])|(intro _)
       refine hK _ ?_;clear hK K
       refine zbp (zb5 [8] [] (by simp [zG9,List.range_succ]) (by simp) ?_)
       simp (disch:=omega) [hset]
       have ⟨h1,h2⟩:=zsi hk hc2;have ⟨h3,h4⟩:=com_k hc3 (by omega);rw [h1,h2,h3,h4];exact ⟨by simp,rfl,by simp [DtCSet.cells,DtCSnap.cells]⟩
  try simp [zG10,zbd,zbc] at hc2
  refine AW_x rfl rfl λK hK=>?_
  simp (disch:=omega) [hset]
  repeat' first|(exfalso;omega)|(refine ⟨λ_=>?_,λ_=>?_⟩)|(refine ⟨by omega,?_⟩)|(simp (disch:=omega) [hset])|(intro _)
  all_goals (refine hK _ ?_;clear hK K)
  all_goals
   refine zbi rfl (λhc5=>?_) (λhc5=>?_)
   ·try simp [zG10,zbd,zbc] at hc5
    all_goals
     refine zbj ?_
     refine AW_x rfl rfl λK hK=>?_
     simp (disch:=omega) [hset]
     repeat' first|(exfalso;omega)|(refine ⟨λ_=>?_,λ_=>?_⟩)|(refine ⟨by omega,?_⟩)|(simp (disch:=omega) [hset])|(intro _)
     all_goals (refine hK _ ?_;clear hK K)
     all_goals
      refine zbi rfl (λhc6=>?_) (λhc6=>?_)
      ·try simp [zG10,zbd,zbc] at hc6
       all_goals
        refine zcp 8 901 902 k hz hk l[k].fName l[k].fSnaps (by simp [zG9]) (by simp [zG9]) (by simp [zG9]) (by decide) (by decide) (by decide) ?_
        rw [zjr l k hk]
        refine AW_x rfl rfl λK hK=>?_
        simp (disch:=omega) [hset]
        repeat' first|(exfalso;omega)|(refine ⟨λ_=>?_,λ_=>?_⟩)|(refine ⟨by omega,?_⟩)|(simp (disch:=omega) [hset])|(intro _)
        all_goals (refine hK _ ?_;clear hK K)
        all_goals
         refine zbp (zb5 [8] [] (by simp [zG9,List.range_succ]) (by simp) ?_)
         simp (disch:=omega) [hset]
         have ⟨h1,h2⟩:=zvr hk hc5;have ⟨h3,h4⟩:=tag_n hc6;rw [h1,h2,h3,h4];exact ⟨by simp,rfl,by rw [List.set_getElem_self]⟩
      try simp [zG10,zbd,zbc] at hc6
      refine zbk ?_
      refine zbo ?_
      have hj:=zmt (λp=>eqB p.fName m.fName) l[k].fSnaps (by have h:=hc6;unfold findN at h;omega)
      change (findN l[k].fSnaps m.fName).toNat<l[k].fSnaps.length at hj
      refine AW_d rfl mix (by kernel_rfl) (by kernel_rfl) λK hK=>?_
      simp (disch:=omega) [hset]
      repeat' first|(exfalso;omega)|(refine ⟨λ_=>?_,λ_=>?_⟩)|(refine ⟨by omega,?_⟩)|(simp (disch:=omega) [hset])|(intro _)
      all_goals (refine hK _ _ (by kernel_rfl) ?_;clear hK K)
      all_goals
       refine zcp 8 901 902 k hz hk l[k].fName (l[k].fSnaps.set (findN l[k].fSnaps m.fName).toNat { l[k].fSnaps[(findN l[k].fSnaps m.fName).toNat] with fTag:=m.fTag }) (by simp [zG9,List.length_set]) (by simp [zG9]) (by simp [zG9,DtCSnap.cells]) (by decide) (by decide) (by decide) ?_
       refine AW_x rfl rfl λK hK=>?_
       simp (disch:=omega) [hset]
       repeat' first|(refine ⟨by omega,?_⟩)|(simp (disch:=omega) [hset])|(intro _)
       refine hK _ ?_;clear hK K
       refine zbp (zb5 [8] [] (by simp [zG9,List.range_succ]) (by simp) ?_)
       simp (disch:=omega) [hset]
       have ⟨h1,h2⟩:=zvr hk hc5;have ⟨h3,h4⟩:=tag_k hc6 hj;rw [h1,h2,h3,h4];exact ⟨by simp,rfl,by simp [DtCSet.cells,DtCSnap.cells]⟩
   try simp [zG10,zbd,zbc] at hc5
   refine AW_x rfl rfl λK hK=>?_
   simp (disch:=omega) [hset]
   repeat' first|(exfalso;omega)|(refine ⟨λ_=>?_,λ_=>?_⟩)|(refine ⟨by omega,?_⟩)|(simp (disch:=omega) [hset])|(intro _)
   all_goals (refine hK _ ?_;clear hK K)
   all_goals
    refine zbi rfl (λhc7=>?_) (λhc7=>?_)
    ·try simp [zG10,zbd,zbc] at hc7
     all_goals
      have hN:=hN0 hc7
      refine AW_x rfl rfl λK hK=>?_
      simp (disch:=omega) [hset]
      repeat' first|(exfalso;omega)|(refine zc9 [902] true [] (l15PruneX l[k].fSnaps (by omega) m.fN hN.1 (by omega)) ?_ ?_ ?_;(focus (simp [List.range_succ,nmC];done));(focus (simp (disch:=omega) [hset,zbe];done));simp (disch:=omega) [hset])|(refine ⟨λ_=>?_,λ_=>?_⟩)|(refine ⟨by omega,?_⟩)|(simp (disch:=omega) [hset])|(intro _)
      all_goals (refine hK _ ?_;clear hK K)
      all_goals
       refine AW_x rfl rfl λK hK=>?_
       simp (disch:=omega) [hset]
       repeat' first|(refine ⟨by omega,?_⟩)|(simp (disch:=omega) [hset])|(intro _)
       refine hK _ ?_;clear hK K
       refine zcp 8 901 1552 k hz hk l[k].fName (pruS l[k] m.fN).fSnaps (by simp [zG9,pruS]) (by simp [zG9]) (by simp [zG9,pruS]) (by decide) (by decide) (by decide) ?_
       refine AW_d rfl mix (by kernel_rfl) (by kernel_rfl) λK hK=>?_
       simp (disch:=omega) [hset]
       repeat' first|(exfalso;omega)|(refine zfi (λst'=>(zbg zco zbm)) (zw5 (goneN l[k].fSnaps m.fN) (zmv l[k].fSnaps m.fN h5 hN.1).1 (by have:=(zmv l[k].fSnaps m.fN h5 hN.1).2.1;omega)) rfl ?_;simp (disch:=omega) [hset])|(refine zfj (zw5 (goneN l[k].fSnaps m.fN) (zmv l[k].fSnaps m.fN h5 hN.1).1 (by have:=(zmv l[k].fSnaps m.fN h5 hN.1).2.1;omega)) (by rfl) (λst' hst=>?_) ?_;(focus (simp (disch:=omega) [hset] at hst;simp (disch:=omega) [hset,hst,zbe];done));simp (disch:=omega) [hset])|(refine ⟨by omega,?_⟩)|(simp (disch:=omega) [hset])|(intro _)
       refine hK _ _ (by kernel_rfl) ?_;clear hK K
       refine zbp (zb5 [8] [] (by simp [zG9,List.range_succ]) (by simp) ?_)
       simp (disch:=omega) [hset]
       have ⟨h1,h2⟩:=zzt hk hc7;rw [h1,h2];exact ⟨by simp,rfl,by simp [DtCSet.cells,pruS]⟩
    try simp [zG10,zbd,zbc] at hc7
    refine zbk ?_
    refine zbo ?_
    refine AW_d rfl mix (by kernel_rfl) (by kernel_rfl) λK hK=>?_
    simp (disch:=omega) [hset]
    repeat' first|(exfalso;omega)|(refine zfi (λst'=>(zbg (zbw rfl) zbm)) (l15Read l[k] (by omega) hrd) rfl ?_;simp (disch:=omega) [hset])|(refine zfj (l15Read l[k] (by omega) hrd) (by rfl) (λst' hst=>?_) ?_;(focus (simp (disch:=omega) [hset] at hst;simp (disch:=omega) [hset,hst,zbe];done));simp (disch:=omega) [hset])|(refine ⟨λ_=>?_,λ_=>?_⟩)|(refine ⟨by omega,?_⟩)|(simp (disch:=omega) [hset])|(intro _)
    all_goals (refine hK _ _ (by kernel_rfl) ?_;clear hK K)
    all_goals
     refine zcp 8 901 902 k hz hk l[k].fName l[k].fSnaps (by simp [zG9]) (by simp [zG9]) (by simp [zG9]) (by decide) (by decide) (by decide) ?_
     rw [zjr l k hk]
     refine zbp (zb5 [8] [] (by simp [zG9,List.range_succ]) (by simp) ?_)
     simp (disch:=omega) [hset]
     have ⟨h1,h2⟩:=zzu hk hc1 hc2 hc5 hc7;rw [h1,h2];exact ⟨rfl,rfl,rfl⟩
end Go.Proofs.Ytodmafgmdlkhoaa.Vs
end
section
namespace Go.Proofs.Ytodmafgmdlkhoaa.Vs
set_option linter.all false
set_option maxRecDepth 100000
set_option maxHeartbeats 1000000
def insK(zs:List SetV)(c:Nat)(n:List UInt8)(i:Nat)(p:Bool):List SetV:=if p=true then zs.take c++newV n :: (zs.take i).drop c else zs.take i
theorem zw6(zs:List SetV)(c:Nat)(n:List UInt8)(i:Nat):insK zs c n i false=zs.take i:=rfl
theorem zw7(zs:List SetV)(c:Nat)(n:List UInt8)(i:Nat):insK zs c n i true=zs.take c++newV n :: (zs.take i).drop c:=rfl
theorem insK_fs(zs:List SetV)(c:Nat)(n:List UInt8)(i:Nat)(h:i<zs.length):insK zs c n (i+1) false=insK zs c n i false++[zs[i]]:=by rw [zw6,zw6,List.take_succ_eq_append_getElem h]
theorem insK_ts(zs:List SetV)(c:Nat)(n:List UInt8)(i:Nat)(h:i<zs.length)(hc:c≤i):insK zs c n (i+1) true=insK zs c n i true++[zs[i]]:=by
 rw [zw7,zw7,List.take_succ_eq_append_getElem h,List.drop_append_of_le_length (by simp;omega)];simp
theorem insK_n(zs:List SetV)(n:List UInt8)(i:Nat)(h:i<zs.length):insK zs i n (i+1) true=insK zs i n i false++[newV n]++[zs[i]]:=by
 have e:List.drop i (List.take i zs)=[]:=List.drop_eq_nil_of_le (by simp;omega)
 rw [insK_ts zs i n i h (Nat.le_refl _),zw7,zw6,e]
theorem insK_len(zs:List SetV)(c:Nat)(n:List UInt8)(i:Nat)(p:Bool):(insK zs c n i p).length≤zs.length+1+zs.length:=by
 cases p<;>simp [insK]<;>omega
theorem insK_e(zs:List SetV)(c:Nat)(n:List UInt8):insK zs c n zs.length true=zs.take c++newV n :: zs.drop c:=by rw [zw7,List.take_length]
theorem zw8{l:List DtCSet}{n:List UInt8}(h:findS l n<0)(j:Nat)(hj:j<l.length):¬l[j].fName=n:=by
 intro e
 unfold findS idxZ at h
 split at h
 ·omega
 ·rename_i h2
  rw [List.findIdx?_eq_none_iff] at h2
  have:=h2 _ (List.getElem_mem hj)
  rw [e,eqB_self] at this
  cases this
theorem zfh{α β:Type}(A:List α)(f:α→β)(y:β):List.take (A.length+1) (A.map f++[y])=A.map f++[y]:=List.take_of_length_le (by simp)
theorem zsj{zs:List SetV}{c:Nat}{n:List UInt8}{i:Nat}{p:Bool}(hi:i<zs.length)(hpt:p=true→c<i):insK zs c n (i+1) p=insK zs c n i p++[zs[i]]:=by
 cases p with
 | false=>exact insK_fs zs c n i hi
 | true=>exact insK_ts zs c n i hi (by have:=hpt rfl;omega)
theorem zm2{l:List DtCSet}{zs:List SetV}{n:List UInt8}{i:Nat}{p:Bool}(hzl:zs.length=l.length)(hi:i<zs.length)(hpf:p=false→∀j (h:j<l.length),j<i→Op.bytesLess l[j].fName n=true)(hp:p=false)(hyi:zs[i].1=l[i]'(by omega))(h:Op.bytesLess zs[i].1.fName n=false):insK zs (lessN l n) n (i+1) true=insK zs (lessN l n) n i p++[newV n]++[zs[i]]∧lessN l n=i:=by
 have e:lessN l n=i:=zle n l i (by omega) (hpf hp) (λhh=>by rw [←hyi];exact h)
 subst hp
 rw [e]
 exact ⟨insK_n zs n i hi,rfl⟩
theorem cr_end0{l:List DtCSet}{zs:List SetV}{n:List UInt8}{i:Nat}{p:Bool}(hzl:zs.length=l.length)(hi:i=l.length)(hpf:p=false→∀j (h:j<l.length),j<i→Op.bytesLess l[j].fName n=true)(hp:p=false):(insK zs (lessN l n) n i p).map setV++[[.s n,.g (.slice none 0 0)]]=(zs.take (lessN l n)++newV n :: zs.drop (lessN l n)).map setV:=by
 have e:lessN l n=l.length:=zle n l l.length (Nat.le_refl _) (λj h _=>hpf hp j h (by omega)) (λh=>absurd h (by omega))
 subst hp
 rw [e,zw6,hi,List.take_of_length_le (by omega),List.drop_eq_nil_of_le (by omega)]
 simp [zqm]
theorem cr_end1{l:List DtCSet}{zs:List SetV}{n:List UInt8}{i:Nat}{p:Bool}(hzl:zs.length=l.length)(hi:i=l.length)(hp:p=true):(insK zs (lessN l n) n i p).map setV=(zs.take (lessN l n)++newV n :: zs.drop (lessN l n)).map setV:=by
 subst hp
 rw [hi,←hzl,insK_e]
attribute [local simp] DtCatalog.cells DtCSet.cells zbe zd0 and_assoc zcg List.length_append
theorem zzw(l:List DtCSet)(hl:l.length≤1048576)(h5:l.length≤5)(n:List UInt8):XCall Try.prog 73 [.agg [.arr 8 0 l.length],.s n] [.own 2 (l.map DtCSet.cells)] (.tup [.agg [.arr 16 0 (creS l n).length],.s (creR l n)]) [.dead] [.own 2 ((creS l n).map DtCSet.cells)]:=by
 refine zbt Try.func73 (by rfl) (by rfl) (by rw [Try.ntmps73];exact Nat.le_of_ble_eq_true rfl) rfl (by simp) rfl rfl ?_
 rw [Try.ntmps73]
 refine zh1 (.own 2 (l.map DtCSet.cells)) (by simp [cvO]<;>assumption) ?_
 refine AW_k [(0,_),(1,_)] ⟨rfl,rfl,trivial⟩ ?_
 refine AW_x rfl rfl λK hK=>?_
 simp (disch:=omega)
 repeat' first|(refine ⟨by omega,?_⟩)|(intro _)
 refine hK _ ?_;clear hK K
 refine zbj ?_
 refine AW_x rfl rfl λK hK=>?_
 simp (disch:=omega)
 repeat' first|(exfalso;omega)|(refine zd5 (zbg (zbw rfl) (zbg zf1 zbm)) (l15At { fSets:=l } n (by simpa using hl)) rfl ?_;simp (disch:=omega))|(refine zd6 (l15At { fSets:=l } n (by simpa using hl)) (by rfl) ?_ ?_;(focus (simp (disch:=omega) [zbe];done));simp (disch:=omega))|(refine ⟨by omega,?_⟩)|(simp (disch:=omega))|(intro _)
 refine hK _ ?_;clear hK K
 refine zbi rfl (λhc1=>?_) (λhc1=>?_)
 ·try simp [zG10,zbd,zbc] at hc1
  all_goals
   refine AW_x rfl rfl λK hK=>?_
   simp (disch:=omega)
   repeat' first|(exfalso;omega)|(refine ⟨λ_=>?_,λ_=>?_⟩)|(refine ⟨by omega,?_⟩)|(simp (disch:=omega))|(intro _)
   all_goals (refine hK _ ?_;clear hK K)
   all_goals
    refine zbp (zb5 [8] [] (by simp [zG9,List.range_succ]) (by simp) ?_)
    simp (disch:=omega)
    all_goals first|(have ⟨h1,h2⟩:=zsf hc1;rw [h1,h2];exact ⟨rfl,rfl,rfl⟩)|(have ⟨h1,h2⟩:=zsg hc1 (by omega);rw [h1,h2];exact ⟨rfl,rfl,rfl⟩)|(have ⟨h1,h2⟩:=zsh hc1 (by omega);rw [h1,h2];have hkl:=congrArg List.length hen;simp at hkl;have hkk:=congrArg List.length hks;simp at hkk;exact ⟨by simp;omega,rfl,by simp [DtCSet.cells]⟩) | trace_state
 try simp [zG10,zbd,zbc] at hc1
 refine zbk ?_
 refine zbo ?_
 refine zbj ?_
 refine AW_x rfl rfl λK hK=>?_
 simp (disch:=omega)
 repeat' first|(exfalso;omega)|(refine ⟨λ_=>?_,λ_=>?_⟩)|(refine ⟨by omega,?_⟩)|(simp (disch:=omega))|(intro _)
 all_goals (refine hK _ ?_;clear hK K)
 all_goals
  refine zbi rfl (λhc2=>?_) (λhc2=>?_)
  ·try simp [zG10,zbd,zbc] at hc2
   all_goals
    refine AW_x rfl rfl λK hK=>?_
    simp (disch:=omega)
    repeat' first|(exfalso;omega)|(refine ⟨λ_=>?_,λ_=>?_⟩)|(refine ⟨by omega,?_⟩)|(simp (disch:=omega))|(intro _)
    all_goals (refine hK _ ?_;clear hK K)
    all_goals
     refine zbp (zb5 [8] [] (by simp [zG9,List.range_succ]) (by simp) ?_)
     simp (disch:=omega)
     all_goals first|(have ⟨h1,h2⟩:=zsf hc1;rw [h1,h2];exact ⟨rfl,rfl,rfl⟩)|(have ⟨h1,h2⟩:=zsg hc1 (by omega);rw [h1,h2];exact ⟨rfl,rfl,rfl⟩)|(have ⟨h1,h2⟩:=zsh hc1 (by omega);rw [h1,h2];have hkl:=congrArg List.length hen;simp at hkl;have hkk:=congrArg List.length hks;simp at hkk;exact ⟨by simp;omega,rfl,by simp [DtCSet.cells]⟩) | trace_state
  try simp [zG10,zbd,zbc] at hc2
  refine zbk ?_
  refine zbo ?_
  refine zfa (us:=l) 8 901 (by simp [zG9]) (by simp [zG9]) λzs hz hone=>?_
  have hzl:zs.length=l.length:=by rw [←hz];simp
  refine AW_x rfl rfl λK hK=>?_
  simp (disch:=omega)
  repeat' first|(exfalso;omega)|(refine ⟨λ_=>?_,λ_=>?_⟩)|(refine ⟨by omega,?_⟩)|(simp (disch:=omega))|(intro _)
  all_goals (refine hK _ ?_;clear hK K)
  all_goals
   refine AW_x rfl rfl λK hK=>?_
   simp (disch:=omega)
   repeat' first|(refine ⟨by omega,?_⟩)|(intro _)
   refine hK _ ?_;clear hK K
   refine zbj ?_
   refine AW_x rfl rfl λK hK=>?_
   simp (disch:=omega)
   repeat' first|(refine ⟨by omega,?_⟩)|(intro _)
   refine hK _ ?_;clear hK K
   refine zbn ?_
   refine zbv (λmM sS=>∃(i:Nat) (p:Bool),mM=l.length-i∧(i≤l.length∧(p=false→∀j (h:j<l.length),j<i→Op.bytesLess l[j].fName n=true)∧(p=true→lessN l n<i))∧sS = { env:=lkE [(1,.s n),(2,.ptr 48 0),(4,.ptr 80 0),(6,.arr 904 0 (insK zs (lessN l n) n i p).length),(7,(.g (.bool (p)))),(8,(.g (.int .i64 ((i:Nat)))))],ob:=lk [(48,.cells [.arr 8 0 l.length]),(80,.cells [.g (.slice none 0 0)]),(8,.win 2 (zs.map setV)),(901,.park (zs.flatMap setP)),(904,.win 2 ((insK zs (lessN l n) n i p).map setV))] }) ?_ ?_
   ·refine ⟨_,LeS.kx [(48,48),(80,80),(8,8),(901,901),(904,320)] [(1,.s n),(2,.ptr 48 0),(4,.ptr 80 0),(6,.arr 904 0 (insK zs (lessN l n) n (0) (false)).length),(7,(.g (.bool ((false))))),(8,(.g (.int .i64 (((0):Nat)))))] [(48,.cells [.arr 8 0 l.length]),(80,.cells [.g (.slice none 0 0)]),(8,.win 2 (zs.map setV)),(901,.park (zs.flatMap setP)),(904,.win 2 ((insK zs (lessN l n) n (0) (false)).map setV))] (by simp [zG9,KpR,renV2,renV,zbl,zcg,zd0];try (simp [insK];done)) (by simp [zG9,KpOX,renO,plO,cvO,renV,pl1,zcg,zd0];first|(rw [zsj hiz hpt];simp [zd0];done)|(rw [(zm2 hzl hiz hpf ‹p=false› hyi hc4.1).1,zfh];simp [zd0,newV];done)|(simp [insK];done) | trace_state) (by rfl) (by simp) (by simp) (by rfl) (by simp [formsX,List.range_succ,zbq,zbz]),_,0,false,rfl,?_,rfl⟩
    ·exact ⟨by omega,λ_ j h hj=>absurd hj (by omega),λh=>by cases h⟩
   ·rintro mM sS ⟨i,p,rfl,⟨hi,hpf,hpt⟩,rfl⟩
    have hkl:=insK_len zs (lessN l n) n i p
    refine zbj ?_
    refine AW_x rfl rfl λK hK=>?_
    simp (disch:=omega)
    repeat' first|(refine ⟨by omega,?_⟩)|(simp (disch:=omega))|(intro _)
    refine hK _ ?_;clear hK K
    refine zbi rfl (λhc3=>?_) (λhc3=>?_)
    ·try simp [zG10,zbd,zbc] at hc3
     all_goals
      have hiz:i<zs.length:=by omega
      have hyi:=zw3 hz i hiz (by omega)
      have hne:=zw8 hc1 i (by omega)
      have hv1:(zs[i].2 1).oneCell'=true:=hone _ (List.getElem_mem _) 1
      simp only [Value.oneCell'] at hv1
      rw [←hyi] at hne
      refine zbk ?_
      refine zbo ?_
      refine zbj ?_
      refine zbn ?_
      refine zbj ?_
      refine AW_x rfl rfl λK hK=>?_
      simp (disch:=omega) [hv1]
      repeat' first|(exfalso;omega)|(refine ⟨λ_=>?_,λ_=>?_⟩)|(refine ⟨by omega,?_⟩)|(simp (disch:=omega) [hv1])|(intro _)
      all_goals (refine hK _ ?_;clear hK K)
      all_goals
       refine zbi rfl (λhc4=>?_) (λhc4=>?_)
       ·try simp [zG10,zbd,zbc] at hc4
        all_goals
         refine AW_x rfl rfl λK hK=>?_
         simp (disch:=omega) [hv1]
         repeat' first|(exfalso;omega)|(refine ⟨λ_=>?_,λ_=>?_⟩)|(refine ⟨by omega,?_⟩)|(simp (disch:=omega) [hv1])|(intro _)
         all_goals (refine hK _ ?_;clear hK K)
         all_goals
          refine zb6 rfl rfl λK hK=>?_
          simp (disch:=omega) [hv1]
          repeat' first|(refine ⟨by omega,?_⟩)|(intro _)
          refine hK _ ?_;clear hK K
          refine zbo ?_
          refine zb6 rfl rfl λK hK=>?_
          simp (disch:=omega) [hv1]
          repeat' first|(refine ⟨by omega,?_⟩)|(simp (disch:=omega) [hv1])|(intro _)
          refine hK _ ?_;clear hK K
          refine zbo ?_
          refine zb6 rfl rfl λK hK=>?_
          simp (disch:=omega) [hv1]
          repeat' first|(refine ⟨by omega,?_⟩)|(intro _)
          refine hK _ ?_;clear hK K
          refine ⟨_,LeS.kx [(48,48),(80,80),(8,8),(901,901),(904,832)] [(1,.s n),(2,.ptr 48 0),(4,.ptr 80 0),(6,.arr 904 0 (insK zs (lessN l n) n (i+1) (true)).length),(7,(.g (.bool ((true))))),(8,(.g (.int .i64 (((i+1):Nat)))))] [(48,.cells [.arr 8 0 l.length]),(80,.cells [.g (.slice none 0 0)]),(8,.win 2 (zs.map setV)),(901,.park (zs.flatMap setP)),(904,.win 2 ((insK zs (lessN l n) n (i+1) (true)).map setV))] (by simp [zG9,KpR,renV2,renV,zbl,zcg,zd0];first|(rw [zsj hiz hpt];simp;done)|(rw [(zm2 hzl hiz hpf ‹p=false› hyi hc4.1).1];simp;done) | trace_state) (by simp [zG9,KpOX,renO,plO,cvO,renV,pl1,zcg,zd0];first|(rw [zsj hiz hpt];simp [zd0];done)|(rw [(zm2 hzl hiz hpf ‹p=false› hyi hc4.1).1,zfh];simp [zd0,newV];done)|(simp [insK];done) | trace_state) (by rfl) (by simp) (by simp) (by rfl) (by simp [formsX,List.range_succ,zbq,zbz]),_,?_,i+1,true,rfl,?_,rfl⟩
          ·omega
          ·first | exact ⟨by omega,λh=>(by cases h),λ_=>by have:=(zm2 hzl hiz hpf ‹p=false› hyi hc4.1).2;omega⟩ | exact ⟨by omega,λh j hj hji=>if e:j<i then hpf h j hj e else (by have e2:j=i:=(by omega);subst e2;rw [←hyi];grind),λh=>by have:=hpt h;omega⟩ | trace_state
       try simp [zG10,zbd,zbc] at hc4
       refine zbk ?_
       refine zbo ?_
       refine zb6 rfl rfl λK hK=>?_
       simp (disch:=omega) [hv1]
       repeat' first|(exfalso;omega)|(refine ⟨λ_=>?_,λ_=>?_⟩)|(refine ⟨by omega,?_⟩)|(simp (disch:=omega) [hv1])|(intro _)
       all_goals (refine hK _ ?_;clear hK K)
       all_goals
        refine zbo ?_
        refine zb6 rfl rfl λK hK=>?_
        simp (disch:=omega) [hv1]
        repeat' first|(refine ⟨by omega,?_⟩)|(intro _)
        refine hK _ ?_;clear hK K
        refine ⟨_,LeS.kx [(48,48),(80,80),(8,8),(901,901),(904,832)] [(1,.s n),(2,.ptr 48 0),(4,.ptr 80 0),(6,.arr 904 0 (insK zs (lessN l n) n (i+1) (p)).length),(7,(.g (.bool ((p))))),(8,(.g (.int .i64 (((i+1):Nat)))))] [(48,.cells [.arr 8 0 l.length]),(80,.cells [.g (.slice none 0 0)]),(8,.win 2 (zs.map setV)),(901,.park (zs.flatMap setP)),(904,.win 2 ((insK zs (lessN l n) n (i+1) (p)).map setV))] (by simp [zG9,KpR,renV2,renV,zbl,zcg,zd0];first|(rw [zsj hiz hpt];simp;done)|(rw [(zm2 hzl hiz hpf ‹p=false› hyi hc4.1).1];simp;done) | trace_state) (by simp [zG9,KpOX,renO,plO,cvO,renV,pl1,zcg,zd0];first|(rw [zsj hiz hpt];simp [zd0];done)|(rw [(zm2 hzl hiz hpf ‹p=false› hyi hc4.1).1,zfh];simp [zd0,newV];done)|(simp [insK];done) | trace_state) (by rfl) (by simp) (by simp) (by rfl) (by simp [formsX,List.range_succ,zbq,zbz]),_,?_,i+1,p,rfl,?_,rfl⟩
        ·omega
        ·first | exact ⟨by omega,λh=>(by cases h),λ_=>by have:=(zm2 hzl hiz hpf ‹p=false› hyi hc4.1).2;omega⟩ | exact ⟨by omega,λh j hj hji=>if e:j<i then hpf h j hj e else (by have e2:j=i:=(by omega);subst e2;rw [←hyi];grind),λh=>by have:=hpt h;omega⟩ | trace_state
    try simp [zG10,zbd,zbc] at hc3
    refine zb0 ?_
    refine zbo ?_
    refine zbj ?_
    refine AW_x rfl rfl λK hK=>?_
    simp (disch:=omega)
    repeat' first|(exfalso;omega)|(refine ⟨λ_=>?_,λ_=>?_⟩)|(refine ⟨by omega,?_⟩)|(simp (disch:=omega))|(intro _)
    all_goals (refine hK _ ?_;clear hK K)
    all_goals
     refine zbi rfl (λhc5=>?_) (λhc5=>?_)
     ·try simp [zG10,zbd,zbc] at hc5
      all_goals
       refine zb6 rfl rfl λK hK=>?_
       simp (disch:=omega)
       repeat' first|(exfalso;omega)|(refine ⟨λ_=>?_,λ_=>?_⟩)|(refine ⟨by omega,?_⟩)|(simp (disch:=omega))|(intro _)
       all_goals (refine hK _ ?_;clear hK K)
       all_goals
        refine zbo ?_
        have hil:i=l.length:=by omega
        obtain ⟨ks,hks⟩:∃ks,ks=zs.take (lessN l n)++newV n :: zs.drop (lessN l n):=⟨_,rfl⟩
        have hen:=cr_end0 hzl hil hpf hc5
        rw [←hks] at hen
        refine zdp (LeS.parkN 901 (s:=3) (ps1:=(zs.take (lessN l n)).flatMap setP) (ps2:=(zs.drop (lessN l n)).flatMap setP) (by simp [zG9];rw [←List.flatMap_append,List.take_append_drop])) ?_
        refine zdp (zh4 (ks:=ks) (zs:=ks) 944 901 (by simp [zG9,hen]) (by simp [zG9];rw [hks];simp [zqn]) (List.Sublist.refl _)) ?_
        have hsn:=ins_c hz n (lessN l n)
        rw [hks,hsn]
        refine AW_x rfl rfl λK hK=>?_
        simp (disch:=omega)
        repeat' first|(refine ⟨by omega,?_⟩)|(simp (disch:=omega))|(intro _)
        refine hK _ ?_;clear hK K
        refine AW_x rfl rfl λK hK=>?_
        simp (disch:=omega)
        repeat' first|(refine ⟨by omega,?_⟩)|(simp (disch:=omega))|(intro _)
        refine hK _ ?_;clear hK K
        refine zbp (zb5 [944] [] (by simp [zG9,List.range_succ]) (by simp) ?_)
        simp (disch:=omega)
        all_goals first|(have ⟨h1,h2⟩:=zsf hc1;rw [h1,h2];exact ⟨rfl,rfl,rfl⟩)|(have ⟨h1,h2⟩:=zsg hc1 (by omega);rw [h1,h2];exact ⟨rfl,rfl,rfl⟩)|(have ⟨h1,h2⟩:=zsh hc1 (by omega);rw [h1,h2];have hkl:=congrArg List.length hen;simp at hkl;have hkk:=congrArg List.length hks;simp at hkk;exact ⟨by simp;omega,rfl,by simp [DtCSet.cells]⟩) | trace_state
     try simp [zG10,zbd,zbc] at hc5
     refine zbk ?_
     refine zbo ?_
     have hil:i=l.length:=by omega
     obtain ⟨ks,hks⟩:∃ks,ks=zs.take (lessN l n)++newV n :: zs.drop (lessN l n):=⟨_,rfl⟩
     have hen:=@cr_end1 l zs n i p hzl hil hc5
     rw [←hks] at hen
     refine zdp (LeS.parkN 901 (s:=3) (ps1:=(zs.take (lessN l n)).flatMap setP) (ps2:=(zs.drop (lessN l n)).flatMap setP) (by simp [zG9];rw [←List.flatMap_append,List.take_append_drop])) ?_
     refine zdp (zh4 (ks:=ks) (zs:=ks) 904 901 (by simp [zG9,hen]) (by simp [zG9];rw [hks];simp [zqn]) (List.Sublist.refl _)) ?_
     have hsn:=ins_c hz n (lessN l n)
     rw [hks,hsn]
     refine AW_x rfl rfl λK hK=>?_
     simp (disch:=omega)
     repeat' first|(exfalso;omega)|(refine ⟨λ_=>?_,λ_=>?_⟩)|(refine ⟨by omega,?_⟩)|(simp (disch:=omega))|(intro _)
     all_goals (refine hK _ ?_;clear hK K)
     all_goals
      refine AW_x rfl rfl λK hK=>?_
      simp (disch:=omega)
      repeat' first|(refine ⟨by omega,?_⟩)|(simp (disch:=omega))|(intro _)
      refine hK _ ?_;clear hK K
      refine zbp (zb5 [904] [] (by simp [zG9,List.range_succ]) (by simp) ?_)
      simp (disch:=omega)
      all_goals first|(have ⟨h1,h2⟩:=zsf hc1;rw [h1,h2];exact ⟨rfl,rfl,rfl⟩)|(have ⟨h1,h2⟩:=zsg hc1 (by omega);rw [h1,h2];exact ⟨rfl,rfl,rfl⟩)|(have ⟨h1,h2⟩:=zsh hc1 (by omega);rw [h1,h2];have hkl:=congrArg List.length hen;simp at hkl;have hkk:=congrArg List.length hks;simp at hkk;exact ⟨by simp;omega,rfl,by simp [DtCSet.cells]⟩) | trace_state
end Go.Proofs.Ytodmafgmdlkhoaa.Vs
end
