import Derived.Test.YtodmafgmdlkhoaaSM6
section
namespace Go.Proofs.Ytodmafgmdlkhoaa.Vs
set_option linter.all false
set_option maxRecDepth 100000
def namL(l:List DtCSet):List (List UInt8):=l.map λs=>s.fName
theorem zxq{α β:Type}{zs:List (α × β)}{l:List α}(hz:zs.map (·.1)=l)(i:Nat)(h:i<zs.length)(h2:i<l.length):zs[i].1=l[i]:=by subst hz;simp
theorem zfi(l:List DtCSet):(namL l).length=l.length:=by simp [namL]
attribute [local simp] DtCSet.cells zbl zdw cS and_assoc scR_cS zfi
attribute [-simp] aAppC aAppZ
def zG16:=And.intro @zbz (And.intro @zbq @zby)
def zG17:=And.intro @zba @zbf
theorem listX(l:List DtCSet)(hl:l.length≤1048576)(hb:(spc (namL l)).length≤1073741824):XCall Try.prog 63 [.ptr 8 0] [.cells [.arr 9 0 l.length],.own 2 (l.map DtCSet.cells)] (.s (spc (namL l))) [.cells [.arr 9 0 l.length],.own 2 (l.map DtCSet.cells)] []:=by
 have hll:=zfi l
 refine zbs Try.func63 (by rfl) (by rfl) (by rw [Try.ntmps63];exact Nat.le_of_ble_eq_true rfl) rfl (by simp) rfl rfl ?_
 rw [Try.ntmps63]
 refine zzv (.cells [.arr 9 0 l.length]) (.own 2 (l.map DtCSet.cells)) (by simp [cvO]<;>assumption) (by simp [cvO]<;>assumption) ?_
 refine AW_k [(0,_)] ⟨rfl,trivial⟩ ?_
 refine zd5 (us:=l) 9 901 (by simp [zG16]) (by simp [zG16]) λzs hz hone=>?_
 have hzl:zs.length=l.length:=by rw [←hz];simp
 refine AW_x rfl rfl λK hK=>?_
 simp (disch:=omega)
 repeat' first|(refine ⟨by omega,?_⟩)|(intro _)
 refine hK _ ?_;clear hK K
 refine AW_x rfl rfl λK hK=>?_
 simp (disch:=omega)
 repeat' first|(refine ⟨by omega,?_⟩)|(simp (disch:=omega))|(intro _)
 refine hK _ ?_;clear hK K
 refine zbi ?_
 refine AW_x rfl rfl λK hK=>?_
 simp (disch:=omega)
 repeat' first|(refine ⟨by omega,?_⟩)|(simp (disch:=omega))|(intro _)
 refine hK _ ?_;clear hK K
 refine zbm ?_
 refine zbv (λmM sS=>∃(i:Nat),mM=zs.length-i∧(i≤zs.length)∧sS = { env:=lkE [(0,.ptr 8 0),(3,.arr 904 0 i),(10,.arr 9 0 l.length),(11,(.g (.int .i64 ((l.length:Nat))))),(12,(.g (.int .i64 ((i:Nat)))))],ob:=lk [(8,.cells [.arr 9 0 l.length]),(9,.win 2 (zs.map setV)),(901,.park (zs.flatMap setP)),(904,.win 1 (((namL l).take i).map cS))] }) ?_ ?_
 ·refine ⟨_,LeS.kw [(8,8),(9,9),(901,901),(904,112)] [(0,.ptr 8 0),(3,.arr 904 0 (0)),(10,.arr 9 0 l.length),(11,(.g (.int .i64 ((l.length:Nat))))),(12,(.g (.int .i64 (((0):Nat)))))] [(8,.cells [.arr 9 0 l.length]),(9,.win 2 (zs.map setV)),(901,.park (zs.flatMap setP)),(904,.win 1 (((namL l).take (0)).map cS))] (by simp [zG16,KpR,renV2,renV,zbk,zcf,zdw];try (simp;done)) (by simp [zG16,KpOW,wnO,renO,plO,cvO,renV,pl1,zcf,zdw];first | exact .inl ⟨by rw [htk,List.take_take,Nat.min_self];rfl,zcn (zdn cS (λ_=>rfl) _) _⟩ | trace_state) (by rfl) (by simp) (by simp) (by rfl) (by simp [formsX,List.range_succ,zbq,zby]),_,0,rfl,?_,rfl⟩
  ·simp
 ·rintro mM sS ⟨i,rfl,hi,rfl⟩
  refine AW_x rfl rfl λK hK=>?_
  simp (disch:=omega)
  repeat' first|(refine ⟨by omega,?_⟩)|(intro _)
  refine hK _ ?_;clear hK K
  refine zbi ?_
  refine zbh rfl (λhc1=>?_) (λhc1=>?_)
  ·try simp [zG17,zbc,zbb] at hc1
   all_goals
    have hyi:=zxq hz i (by omega) (by omega)
    have hv1:(zs[i].2 1).oneCell'=true:=hone _ (List.getElem_mem _) 1
    simp only [Value.oneCell'] at hv1
    have htk:=tkm_s cS (namL l) i (by rw [zfi];omega)
    have htx:(namL l)[i]'(by rw [zfi];omega)=zs[i].1.fName:=by rw [hyi];simp [namL]
    rw [htx] at htk
    refine zbj ?_
    refine zbn ?_
    refine zbi ?_
    refine zbm ?_
    refine AW_x rfl rfl λK hK=>?_
    simp (disch:=omega) [hv1]
    repeat' first|(exfalso;omega)|(refine ⟨λ_=>?_,λ_=>?_⟩)|(refine ⟨by omega,?_⟩)|(simp (disch:=omega) [hv1])|(intro _)
    all_goals (refine hK _ ?_;clear hK K)
    all_goals
     refine zb3 rfl rfl λK hK=>?_
     simp (disch:=omega) [hv1]
     repeat' first|(refine ⟨by omega,?_⟩)|(simp (disch:=omega) [hv1])|(intro _)
     refine hK _ ?_;clear hK K
     refine zbn ?_
     refine zb3 rfl rfl λK hK=>?_
     simp (disch:=omega) [hv1]
     repeat' first|(refine ⟨by omega,?_⟩)|(intro _)
     refine hK _ ?_;clear hK K
     refine ⟨_,LeS.kw [(8,8),(9,9),(901,901),(904,336)] [(0,.ptr 8 0),(3,.arr 904 0 (i+1)),(10,.arr 9 0 l.length),(11,(.g (.int .i64 ((l.length:Nat))))),(12,(.g (.int .i64 (((i+1):Nat)))))] [(8,.cells [.arr 9 0 l.length]),(9,.win 2 (zs.map setV)),(901,.park (zs.flatMap setP)),(904,.win 1 (((namL l).take (i+1)).map cS))] (by simp [zG16,KpR,renV2,renV,zbk,zcf,zdw];try (first | omega | rfl)) (by simp [zG16,KpOW,wnO,renO,plO,cvO,renV,pl1,zcf,zdw];first | exact .inl ⟨by rw [htk,List.take_take,Nat.min_self];rfl,zcn (zdn cS (λ_=>rfl) _) _⟩ | trace_state) (by rfl) (by simp) (by simp) (by rfl) (by simp [formsX,List.range_succ,zbq,zby]),_,?_,i+1,rfl,?_,rfl⟩
     ·omega
     ·omega
  try simp [zG17,zbc,zbb] at hc1
  have hi3:i=l.length:=by omega
  refine zbx ?_
  refine zbn ?_
  refine zda (zh5 (ks:=zs) (zs:=zs) 9 901 (by simp [zG16]) (by simp [zG16]) (List.Sublist.refl _)) ?_
  have hsn:(zs.map λz=>DtCSet.cells z.1)=l.map DtCSet.cells:=by rw [←hz,List.map_map];rfl
  rw [hsn]
  have htf:List.take i (List.map cS (namL l))=List.map cS (namL l):=List.take_of_length_le (by rw [List.length_map,zfi];omega)
  simp only [htf]
  subst hi3
  refine AW_x rfl rfl λK hK=>?_
  simp (disch:=omega)
  repeat' first|(exfalso;omega)|(refine zc6 (zbe zce zbo) (zq0 (namL l) (by rw [zfi];omega) hb) rfl ?_;simp (disch:=omega))|(refine zc7 (zq0 (namL l) (by rw [zfi];omega) hb) (by rfl) ?_ ?_;(focus (simp (disch:=omega) [zbl];done));simp (disch:=omega))|(refine ⟨λ_=>?_,λ_=>?_⟩)|(refine ⟨by omega,?_⟩)|(simp (disch:=omega))|(intro _)
  all_goals (refine hK _ ?_;clear hK K)
  all_goals
   refine zbp (zb0 [] [] (by simp [zG16,List.range_succ]) (by simp) ?_)
   simp (disch:=omega)
   all_goals first | rfl | exact ⟨rfl,rfl⟩ | exact ⟨⟨rfl,rfl⟩,rfl⟩ | trace_state
end Go.Proofs.Ytodmafgmdlkhoaa.Vs
end
section
namespace Go.Proofs.Ytodmafgmdlkhoaa.Vs
set_option linter.all false
set_option maxRecDepth 100000
/-! creating -/
noncomputable def lessN:List DtCSet→List UInt8→Nat
 | [],_=>0
 | s :: l,n=>if Op.bytesLess s.fName n=true then lessN l n+1 else 0
theorem lessN_le(l:List DtCSet)(n:List UInt8):lessN l n≤l.length:=by
 induction l with
 | nil=>simp [lessN]
 | cons s l ih=>simp only [lessN,List.length_cons];split<;>omega
theorem zlm(n:List UInt8):∀(l:List DtCSet) (i:Nat),i≤l.length→(∀j (h:j<l.length),j<i→Op.bytesLess l[j].fName n=true)→(∀h:i<l.length,Op.bytesLess l[i].fName n=false)→lessN l n=i
 | [],i,hi,_,_=>by simp at hi;subst hi;rfl
 | s :: l,0,_,_,h=>by
  have:=h (by simp)
  simp only [List.getElem_cons_zero] at this
  simp [lessN,this]
 | s :: l,i+1,hi,h1,h2=>by
  have h0:=h1 0 (by simp) (by omega)
  simp only [List.getElem_cons_zero] at h0
  simp only [lessN,h0,if_true]
  rw [zlm n l i (by simpa using hi) (λj h hj=>by have:=h1 (j+1) (by simpa using h) (by omega);simpa using this) (λh=>by have:=h2 (by simpa using h);simpa using this)]
noncomputable def creS(l:List DtCSet)(n:List UInt8):List DtCSet:=if 0≤findS l n then l else if l.length=5 then l else l.take (lessN l n) ++ { fName:=n,fSnaps:=[] } :: l.drop (lessN l n)
noncomputable def creR(l:List DtCSet)(n:List UInt8):List UInt8:=if 0≤findS l n then bExists else if l.length=5 then bFull else bOk
theorem ztd{l:List DtCSet}{n:List UInt8}(h:0≤findS l n):creS l n=l∧creR l n=bExists:=by unfold creS creR;rw [if_pos h,if_pos h];exact ⟨rfl,rfl⟩
theorem zte{l:List DtCSet}{n:List UInt8}(h:findS l n<0)(h5:(l.length:Int)=5):creS l n=l∧creR l n=bFull:=by unfold creS creR;rw [if_neg (by omega),if_pos (by omega),if_neg (by omega),if_pos (by omega)];exact ⟨rfl,rfl⟩
theorem ztf{l:List DtCSet}{n:List UInt8}(h:findS l n<0)(h5:¬(l.length:Int)=5):creS l n=l.take (lessN l n) ++ { fName:=n,fSnaps:=[] } :: l.drop (lessN l n)∧creR l n=bOk:=by unfold creS creR;rw [if_neg (by omega),if_neg (by omega),if_neg (by omega),if_neg (by omega)];exact ⟨rfl,rfl⟩
def newV(n:List UInt8):SetV:=({ fName:=n,fSnaps:=[] },λ_=>.slice none 0 0)
theorem zwh{zs:List SetV}{l:List DtCSet}(hzl:zs.length=l.length)(y:List AV)(hy:∀x∈y,scal0 x=true)(k:Nat)(hk:k≤l.length)(hl:l.length≤1048576):XCall Try.prog 89 [.arr 8 0 l.length,(.g (.int .i64 ((k:Nat)))),.arr 9 0 1] [.own 2 (zs.map setV),.own 2 [y]] (.arr 16 0 (l.length+1)) [.dead,.dead] [.own 2 ((zs.map setV).take k++y :: (zs.map setV).drop k)]:=by
 have e:(zs.map setV).length=l.length:=by rw [List.length_map,hzl]
 have h:=insertCSet (zs.map setV) (zcf zs) y hy k (by omega) (by omega)
 rw [e] at h
 exact h
theorem zq3(n:List UInt8):setV (newV n)=[.s n,.g (.slice none 0 0)]:=rfl
theorem zq4(n:List UInt8):setP (newV n)=[(.sl 3 [],.slice none 0 0)]:=rfl
theorem scR_ins(zs:List SetV)(n:List UInt8)(i:Nat):scR ((zs.map setV).take i++[.s n,.g (.slice none 0 0)] :: (zs.map setV).drop i)=true:=by
 have:(zs.map setV).take i++[.s n,.g (.slice none 0 0)] :: (zs.map setV).drop i=(zs.take i++newV n :: zs.drop i).map setV:=by simp [zq3]
 rw [this];exact zcf _
theorem ins_c{zs:List SetV}{l:List DtCSet}(hz:zs.map (·.1)=l)(n:List UInt8)(i:Nat):((zs.take i++newV n :: zs.drop i).map λz=>DtCSet.cells z.1)=(l.take i ++ { fName:=n,fSnaps:=[] } :: l.drop i).map DtCSet.cells:=by
 subst hz;simp [newV,Function.comp_def]
attribute [local simp] DtCSet.cells zbl and_assoc DtCatalog.cells zcf
theorem createX(l:List DtCSet)(hl:l.length≤1048576)(n:List UInt8):XCall Try.prog 62 [.ptr 8 0,.s n] [.cells [.arr 9 0 l.length],.own 2 (l.map DtCSet.cells)] (.s (creR l n)) [.cells [.arr 16 0 (creS l n).length],.dead] [.own 2 ((creS l n).map DtCSet.cells)]:=by
 refine zbs Try.func62 (by rfl) (by rfl) (by rw [Try.ntmps62];exact Nat.le_of_ble_eq_true rfl) rfl (by simp) rfl rfl ?_
 rw [Try.ntmps62]
 refine zzv (.cells [.arr 9 0 l.length]) (.own 2 (l.map DtCSet.cells)) (by simp [cvO]<;>assumption) (by simp [cvO]<;>assumption) ?_
 refine AW_k [(0,_),(1,_)] ⟨rfl,rfl,trivial⟩ ?_
 refine AW_x rfl rfl λK hK=>?_
 simp (disch:=omega)
 repeat' first|(refine ⟨by omega,?_⟩)|(intro _)
 refine hK _ ?_;clear hK K
 refine zbi ?_
 refine zbm ?_
 refine AW_x rfl rfl λK hK=>?_
 simp (disch:=omega)
 repeat' first|(exfalso;omega)|(refine zc6 (zbe (zb6 rfl) (zbe zgs zbo)) (zxn { fSets:=l } n (by simpa using hl)) rfl ?_;simp (disch:=omega))|(refine zc7 (zxn { fSets:=l } n (by simpa using hl)) (by rfl) ?_ ?_;(focus (simp (disch:=omega) [zbl];done));simp (disch:=omega))|(refine ⟨by omega,?_⟩)|(simp (disch:=omega))|(intro _)
 refine hK _ ?_;clear hK K
 refine zbh rfl (λhc1=>?_) (λhc1=>?_)
 ·try simp [zG17,zbc,zbb] at hc1
  all_goals
   refine AW_x rfl rfl λK hK=>?_
   simp (disch:=omega)
   repeat' first|(exfalso;omega)|(refine ⟨λ_=>?_,λ_=>?_⟩)|(refine ⟨by omega,?_⟩)|(simp (disch:=omega))|(intro _)
   all_goals (refine hK _ ?_;clear hK K)
   all_goals
    refine zbp (zb0 [9] [] (by simp [zG16,List.range_succ]) (by simp) ?_)
    simp (disch:=omega)
    all_goals first|(have ⟨h1,h2⟩:=ztd hc1;rw [h1,h2];exact ⟨rfl,rfl,rfl,rfl⟩)|(have ⟨h1,h2⟩:=zte hc1 hc2;rw [h1,h2];exact ⟨rfl,rfl,rfl,rfl⟩)|(have ⟨h1,h2⟩:=ztf hc1 hc2;rw [h1,h2,hcut];exact ⟨rfl,rfl,(by simp;omega),(by first|(simp [DtCSet.cells,List.map_take,List.map_drop];done)|(rw [List.take_of_length_le (by omega:l.length≤i)];simp [DtCSet.cells,List.map_drop];done))⟩) | trace_state
 try simp [zG17,zbc,zbb] at hc1
 refine AW_x rfl rfl λK hK=>?_
 simp (disch:=omega)
 repeat' first|(exfalso;omega)|(refine ⟨λ_=>?_,λ_=>?_⟩)|(refine ⟨by omega,?_⟩)|(simp (disch:=omega))|(intro _)
 all_goals (refine hK _ ?_;clear hK K)
 all_goals
  refine zbh rfl (λhc2=>?_) (λhc2=>?_)
  ·try simp [zG17,zbc,zbb] at hc2
   all_goals
    refine AW_x rfl rfl λK hK=>?_
    simp (disch:=omega)
    repeat' first|(exfalso;omega)|(refine ⟨λ_=>?_,λ_=>?_⟩)|(refine ⟨by omega,?_⟩)|(simp (disch:=omega))|(intro _)
    all_goals (refine hK _ ?_;clear hK K)
    all_goals
     refine zbp (zb0 [9] [] (by simp [zG16,List.range_succ]) (by simp) ?_)
     simp (disch:=omega)
     all_goals first|(have ⟨h1,h2⟩:=ztd hc1;rw [h1,h2];exact ⟨rfl,rfl,rfl,rfl⟩)|(have ⟨h1,h2⟩:=zte hc1 hc2;rw [h1,h2];exact ⟨rfl,rfl,rfl,rfl⟩)|(have ⟨h1,h2⟩:=ztf hc1 hc2;rw [h1,h2,hcut];exact ⟨rfl,rfl,(by simp;omega),(by first|(simp [DtCSet.cells,List.map_take,List.map_drop];done)|(rw [List.take_of_length_le (by omega:l.length≤i)];simp [DtCSet.cells,List.map_drop];done))⟩) | trace_state
  try simp [zG17,zbc,zbb] at hc2
  refine zbj ?_
  refine zbn ?_
  refine AW_x rfl rfl λK hK=>?_
  simp (disch:=omega)
  repeat' first|(exfalso;omega)|(refine ⟨λ_=>?_,λ_=>?_⟩)|(refine ⟨by omega,?_⟩)|(simp (disch:=omega))|(intro _)
  all_goals (refine hK _ ?_;clear hK K)
  all_goals
   refine zbi ?_
   refine zbm ?_
   refine zbv (λmM sS=>∃(i:Nat),mM=l.length-i∧(i≤l.length∧∀j (h:j<l.length),j<i→Op.bytesLess l[j].fName n=true)∧sS = { env:=lkE [(0,.ptr 8 0),(1,.s n),(5,(.g (.int .i64 ((i:Nat)))))],ob:=lk [(8,.cells [.arr 9 0 l.length]),(9,.own 2 (l.map DtCSet.cells))] }) ?_ ?_
   ·refine ⟨_,LeS.kx [(8,8),(9,9)] [(0,.ptr 8 0),(1,.s n),(5,(.g (.int .i64 (((0):Nat)))))] [(8,.cells [.arr 9 0 l.length]),(9,.own 2 (l.map DtCSet.cells))] (by simp [zG16,KpR,renV2,renV,zbk,DtCSet.cells];try rfl) (by simp [zG16,KpOX,renO,plO,cvO,renV,pl1,DtCSet.cells];try rfl) (by rfl) (by simp) (by simp) (by rfl) (by simp [formsX,List.range_succ,zbq,zby]),_,0,rfl,?_,rfl⟩
    ·simp
   ·rintro mM sS ⟨i,rfl,⟨hi,hpre⟩,rfl⟩
    refine zbi ?_
    refine AW_x rfl rfl λK hK=>?_
    simp (disch:=omega)
    repeat' first|(exfalso;omega)|(refine ⟨λ_=>?_,λ_=>?_⟩)|(refine ⟨by omega,?_⟩)|(simp (disch:=omega))|(intro _)
    all_goals (refine hK _ ?_;clear hK K)
    all_goals
     refine zbh rfl (λhc3=>?_) (λhc3=>?_)
     ·try simp [zG17,zbc,zbb] at hc3
      all_goals
       have hg:(l.map DtCSet.cells)[i]? = if h:i<l.length then some (DtCSet.cells l[i]) else none:=by by_cases h:i<l.length<;>simp [h]
       refine zbj ?_
       refine zbn ?_
       refine zbm ?_
       refine zb3 rfl rfl λK hK=>?_
       simp (disch:=omega)
       repeat' first|(exfalso;omega)|(refine ⟨λ_=>?_,λ_=>?_⟩)|(refine ⟨by omega,?_⟩)|(simp (disch:=omega))|(intro _)
       all_goals (refine hK _ ?_;clear hK K)
       all_goals
        refine ⟨_,LeS.kx [(8,8),(9,9)] [(0,.ptr 8 0),(1,.s n),(5,(.g (.int .i64 (((i+1):Nat)))))] [(8,.cells [.arr 9 0 l.length]),(9,.own 2 (l.map DtCSet.cells))] (by simp [zG16,KpR,renV2,renV,zbk,DtCSet.cells];try rfl) (by simp [zG16,KpOX,renO,plO,cvO,renV,pl1,DtCSet.cells];try rfl) (by rfl) (by simp) (by simp) (by rfl) (by simp [formsX,List.range_succ,zbq,zby]),_,?_,i+1,rfl,?_,rfl⟩
        ·omega
        ·exact ⟨by omega,λj h hj=>if e:j<i then hpre j h e else (by have e2:j=i:=(by omega);subst e2;assumption)⟩
     try simp [zG17,zbc,zbb] at hc3
     refine zbx ?_
     refine zbn ?_
     have hcut:lessN l n=i:=zlm n l i (by omega) hpre (λh=>by first|(exfalso;omega) | assumption | simp_all)
     refine zd5 (us:=l) 9 901 (by simp [zG16]) (by simp [zG16]) λzs hz hone=>?_
     have hzl:zs.length=l.length:=by rw [←hz];simp
     have hzl2:(zs.length=l.length)=True:=eq_true hzl
     refine AW_x rfl rfl λK hK=>?_
     simp (disch:=omega)
     repeat' first|(exfalso;omega)|(refine zdh [9,800] true [] (zwh hzl [.s n,.g (.slice none 0 0)] (by simp [scal0]) i hi hl) ?_ ?_ ?_;(focus (simp [List.range_succ,nmC];done));(focus (simp (disch:=omega) [zbl];done));simp (disch:=omega))|(refine ⟨λ_=>?_,λ_=>?_⟩)|(refine ⟨by omega,?_⟩)|(simp (disch:=omega))|(intro _)
     all_goals (refine hK _ ?_;clear hK K)
     all_goals
      refine AW_ow (sz:=2) 816 905 (scR_ins zs n i) (by first|(simp [zG16];done)|(rw [List.take_of_length_le (i:=i) (by rw [List.length_map];omega),List.drop_eq_nil_of_le (i:=i) (by rw [List.length_map];omega)];simp [zG16];done)) (by simp [zG16]) ?_
      refine zda (LeS.parkN 901 (s:=3) (ps1:=(zs.take i).flatMap setP) (ps2:=(zs.drop i).flatMap setP) (by simp [zG16];rw [←List.flatMap_append,List.take_append_drop])) ?_
      refine zda (zh5 (ks:=zs.take i++newV n :: zs.drop i) (zs:=zs.take i++newV n :: zs.drop i) 816 901 (by simp [zG16,zq3]) (by simp [zG16,zq4]) (List.Sublist.refl _)) ?_
      have hsn:=ins_c hz n i
      rw [hsn]
      refine AW_x rfl rfl λK hK=>?_
      simp (disch:=omega)
      repeat' first|(refine ⟨by omega,?_⟩)|(intro _)
      refine hK _ ?_;clear hK K
      refine zbp (zb0 [816] [] (by simp [zG16,List.range_succ]) (by simp) ?_)
      simp (disch:=omega)
      all_goals first|(have ⟨h1,h2⟩:=ztd hc1;rw [h1,h2];exact ⟨rfl,rfl,rfl,rfl⟩)|(have ⟨h1,h2⟩:=zte hc1 hc2;rw [h1,h2];exact ⟨rfl,rfl,rfl,rfl⟩)|(have ⟨h1,h2⟩:=ztf hc1 hc2;rw [h1,h2,hcut];exact ⟨rfl,rfl,(by simp;omega),(by first|(simp [DtCSet.cells,List.map_take,List.map_drop];done)|(rw [List.take_of_length_le (by omega:l.length≤i)];simp [DtCSet.cells,List.map_drop];done))⟩) | trace_state
end Go.Proofs.Ytodmafgmdlkhoaa.Vs
end
section
namespace Go.Proofs.Ytodmafgmdlkhoaa.Vs
set_option linter.all false
set_option maxRecDepth 100000
attribute [local simp] DtCSet.cells DtCSnap.cells
theorem tld_at(s:DtCSet)(i:Nat)(h:i<s.fSnaps.length)(hb:(spc (tldL s)).length≤1073741824):spc ((tldL s).take (i+1))=(if i=0 then [] else spc ((tldL s).take i)++[32])++s.fSnaps[i].fName++58 :: s.fSnaps[i].fTag∧(spc ((tldL s).take i)).length+s.fSnaps[i].fName.length+s.fSnaps[i].fTag.length+1≤1073741824:=by
 have hl:i<(tldL s).length:=by simpa [tldL] using h
 have e:(tldL s)[i]=s.fSnaps[i].fName++58 :: s.fSnaps[i].fTag:=by simp [tldL]
 have h1:=zlj (tldL s) i hl
 have h2:=(zxo (tldL s) i hl hb).1
 rw [e] at h2
 refine ⟨?_,by simp at h2;omega⟩
 rw [h1,e]
 split<;>simp
theorem l15Read(s:DtCSet)(hs:s.fSnaps.length≤1048576)(hb:(spc (tldL s)).length≤1073741824):PCall Try.prog 98 [.agg (DtCSet.cells s)] (.s (spc (tldL s))):=by
 refine zbr Try.func98 (by rfl) (by rfl) (by rw [Try.ntmps98];exact Nat.le_of_ble_eq_true rfl) rfl (by decide) ?_
 rw [Try.ntmps98]
 refine AW_k [(0,_)] ⟨rfl,trivial⟩ ?_
 refine AW_r rfl rfl λK hK=>?_
 simp (disch:=omega)
 repeat' first|(refine ⟨by omega,?_⟩)|(intro _)
 refine hK _ ?_;clear hK K
 refine AW_r rfl rfl λK hK=>?_
 simp (disch:=omega)
 repeat' first|(refine ⟨by omega,?_⟩)|(intro _)
 refine hK _ ?_;clear hK K
 refine zbi ?_
 refine AW_r rfl rfl λK hK=>?_
 simp (disch:=omega)
 repeat' first|(refine ⟨by omega,?_⟩)|(intro _)
 refine hK _ ?_;clear hK K
 refine zbm ?_
 refine zbv (λmM sS=>∃(i:Nat),mM=s.fSnaps.length-i∧(i≤s.fSnaps.length)∧sS = { env:=lkE [(1,.ptr 32 0),(3,.s (spc ((tldL s).take i))),(4,(.g (.int .i64 ((i:Nat)))))],ob:=upd (formOb [] []) 32 (some (.cells (DtCSet.cells s))) }) ?_ ?_
 ·refine ⟨_,LeS.kp [(1,.ptr 32 0),(3,.s (spc ((tldL s).take (0)))),(4,(.g (.int .i64 (((0):Nat)))))] (by simp [KpE,zbz,zbk,zbq];all_goals first | rfl|(rw [htk];split<;>first | rfl|(simp [spc];done)|(subst_vars;simp [spc];done)|(exfalso;omega)|(simp_all;done))),_,0,rfl,?_,rfl⟩
  ·simp
 ·rintro mM sS ⟨i,rfl,hi,rfl⟩
  refine zbi ?_
  refine AW_r rfl rfl λK hK=>?_
  simp (disch:=omega)
  repeat' first|(refine ⟨by omega,?_⟩)|(intro _)
  refine hK _ ?_;clear hK K
  refine zbh rfl (λhc1=>?_) (λhc1=>?_)
  ·try simp [zG17,zbc,zbb] at hc1
   all_goals
    have hg:s.fSnaps[i]? = some s.fSnaps[i]:=List.getElem?_eq_getElem (by omega)
    have ⟨htk,hbd⟩:=tld_at s i (by omega) hb
    refine zbj ?_
    refine zbn ?_
    refine zbi ?_
    refine zbm ?_
    refine zbi ?_
    refine AW_r rfl rfl λK hK=>?_
    simp (disch:=omega)
    repeat' first|(exfalso;omega)|(refine ⟨λ_=>?_,λ_=>?_⟩)|(refine ⟨by omega,?_⟩)|(intro _)
    all_goals (refine hK _ ?_;clear hK K)
    all_goals
     refine zbh rfl (λhc2=>?_) (λhc2=>?_)
     ·try simp [zG17,zbc,zbb] at hc2
      all_goals
       refine zc8 rfl rfl λK hK=>?_
       simp (disch:=omega)
       repeat' first|(exfalso;omega)|(refine ⟨λ_=>?_,λ_=>?_⟩)|(refine ⟨by omega,?_⟩)|(intro _)
       all_goals (refine hK _ ?_;clear hK K)
       all_goals
        refine zbn ?_
        refine AW_qe rfl mix (by kernel_rfl) rfl λK hK=>?_
        simp (disch:=omega)
        repeat' first|(refine ⟨by omega,?_⟩)|(intro _)
        refine hK _ ?_;clear hK K
        refine zbn ?_
        refine zc8 rfl rfl λK hK=>?_
        simp (disch:=omega)
        repeat' first|(refine ⟨by omega,?_⟩)|(intro _)
        refine hK _ ?_;clear hK K
        refine ⟨_,LeS.kp [(1,.ptr 32 0),(3,.s (spc ((tldL s).take (i+1)))),(4,(.g (.int .i64 (((i+1):Nat)))))] (by simp [KpE,zbz,zbk,zbq];all_goals first | rfl|(rw [htk];split<;>first | rfl|(simp [spc];done)|(subst_vars;simp [spc];done)|(exfalso;omega)|(simp_all;done))),_,?_,i+1,rfl,?_,rfl⟩
        ·omega
        ·omega
     try simp [zG17,zbc,zbb] at hc2
     refine zbj ?_
     refine zbn ?_
     refine AW_qe rfl mix (by kernel_rfl) rfl λK hK=>?_
     simp (disch:=omega)
     repeat' first|(exfalso;omega)|(refine ⟨λ_=>?_,λ_=>?_⟩)|(refine ⟨by omega,?_⟩)|(intro _)
     all_goals (refine hK _ ?_;clear hK K)
     all_goals
      refine zbn ?_
      refine zc8 rfl rfl λK hK=>?_
      simp (disch:=omega)
      repeat' first|(refine ⟨by omega,?_⟩)|(intro _)
      refine hK _ ?_;clear hK K
      refine ⟨_,LeS.kp [(1,.ptr 32 0),(3,.s (spc ((tldL s).take (i+1)))),(4,(.g (.int .i64 (((i+1):Nat)))))] (by simp [KpE,zbz,zbk,zbq];all_goals first | rfl|(rw [htk];split<;>first | rfl|(simp [spc];done)|(subst_vars;simp [spc];done)|(exfalso;omega)|(simp_all;done))),_,?_,i+1,rfl,?_,rfl⟩
      ·omega
      ·omega
  try simp [zG17,zbc,zbb] at hc1
  have hi3:i=s.fSnaps.length:=by omega
  have htf:(tldL s).take i=tldL s:=List.take_of_length_le (by simp [tldL];omega)
  refine zbx ?_
  refine zbn ?_
  refine AW_r rfl rfl λK hK=>?_
  simp (disch:=omega)
  repeat' first|(exfalso;omega)|(refine ⟨λ_=>?_,λ_=>?_⟩)|(refine ⟨by omega,?_⟩)|(intro _)
  all_goals (refine hK _ ?_;clear hK K)
  all_goals
   refine zbp (zcb ?_)
   simp (disch:=omega)
   all_goals (rw [htf])
end Go.Proofs.Ytodmafgmdlkhoaa.Vs
end
section
namespace Go.Proofs.Ytodmafgmdlkhoaa.Vs
set_option linter.all false
/-! what a command does -/
theorem zxr(B:Nat)(l:List (List UInt8))(h:∀x∈l,x.length≤B):(spc l).length≤l.length*(B+1):=by
 have key:∀l:List (List UInt8),(∀x∈l,x.length≤B)→(l.flatMap λt=>(32:UInt8) :: t).length≤l.length*(B+1):=by
  intro l
  induction l with
  | nil=>intro _;simp
  | cons y l ih =>
   intro h
   have h1:=h y (by simp)
   have h2:=ih λx hx=>h x (by simp [hx])
   simp only [List.flatMap_cons,List.length_append,List.length_cons,Nat.add_mul,Nat.one_mul] at h2 ⊢
   omega
 cases l with
 | nil=>simp [spc]
 | cons y l =>
  have h1:=h y (by simp)
  have h2:=key l λx hx=>h x (by simp [hx])
  simp only [spc,List.length_append,List.length_cons,Nat.add_mul,Nat.one_mul] at h2 ⊢
  omega
theorem catP_bd{c:DtCatalog}(h:CatP c):c.fSets.length≤5∧(∀k (hk:k<c.fSets.length),c.fSets[k].fSnaps.length≤5)∧(spc (namL c.fSets)).length≤1073741824∧∀k (hk:k<c.fSets.length),(spc (tldL c.fSets[k])).length≤1073741824:=by
 obtain ⟨h1,h2⟩:=h
 have hs:∀k (hk:k<c.fSets.length),SetP c.fSets[k]:=λk hk=>(h2 k _ (List.getElem?_eq_getElem hk)).1
 refine ⟨h1,λk hk=>(hs k hk).2.1,?_,λk hk=>?_⟩
 ·have := zxr 8 (namL c.fSets) fun x hx => by
   obtain ⟨s,hs',rfl⟩:=List.mem_map.1 hx
   obtain ⟨k,hk,rfl⟩:=List.getElem_of_mem hs'
   exact (hs k hk).1.2.1
  rw [zfi] at this
  omega
 ·have := zxr 17 (tldL c.fSets[k]) fun x hx => by
   obtain ⟨p,hp,rfl⟩:=List.mem_map.1 hx
   obtain ⟨j,hj,rfl⟩:=List.getElem_of_mem hp
   have h3:=((hs k hk).2.2 j _ (List.getElem?_eq_getElem hj)).1
   have ha:(c.fSets[k].fSnaps[j]).fName.length≤8:=by grind [SnapP,Word]
   have hb:(c.fSets[k].fSnaps[j]).fTag.length≤8:=by grind [SnapP,Word]
   simp only [List.length_append,List.length_cons]
   omega
  have h4:=(hs k hk).2.1
  have h5:(tldL c.fSets[k]).length=c.fSets[k].fSnaps.length:=by simp [tldL]
  rw [h5] at this
  omega
noncomputable def setS(l:List DtCSet)(k:Nat)(m:DtCmd):List DtCSet:=if m.fKind=2 then l.take k++l.drop (k+1) else if h:k<l.length then (if m.fKind=3 then l.set k (comS l[k] m) else if m.fKind=4 then l.set k (tagS l[k] m) else if m.fKind=5 then l.set k (pruS l[k] m.fN) else l) else l
noncomputable def setR(l:List DtCSet)(k:Nat)(m:DtCmd):List UInt8:=if m.fKind=2 then bOk else if h:k<l.length then (if m.fKind=3 then comR l[k] m else if m.fKind=4 then tagR l[k] m else if m.fKind=5 then digN (goneN l[k].fSnaps m.fN).toNat else spc (tldL l[k])) else []
section
variable {l:List DtCSet}{k:Nat}{m:DtCmd}
theorem set_2(h:m.fKind=2):setS l k m=l.take k++l.drop (k+1)∧setR l k m=bOk:=by unfold setS setR;rw [if_pos h,if_pos h];exact ⟨rfl,rfl⟩
theorem set_3(hk:k<l.length)(h:m.fKind=3):setS l k m=l.set k (comS l[k] m)∧setR l k m=comR l[k] m:=by unfold setS setR;rw [if_neg (by omega),dif_pos hk,if_pos h,if_neg (by omega),dif_pos hk,if_pos h];exact ⟨rfl,rfl⟩
theorem set_4(hk:k<l.length)(h:m.fKind=4):setS l k m=l.set k (tagS l[k] m)∧setR l k m=tagR l[k] m:=by unfold setS setR;rw [if_neg (by omega),dif_pos hk,if_neg (by omega),if_pos h,if_neg (by omega),dif_pos hk,if_neg (by omega),if_pos h];exact ⟨rfl,rfl⟩
theorem set_5(hk:k<l.length)(h:m.fKind=5):setS l k m=l.set k (pruS l[k] m.fN)∧setR l k m=digN (goneN l[k].fSnaps m.fN).toNat:=by unfold setS setR;rw [if_neg (by omega),dif_pos hk,if_neg (by omega),if_neg (by omega),if_pos h,if_neg (by omega),dif_pos hk,if_neg (by omega),if_neg (by omega),if_pos h];exact ⟨rfl,rfl⟩
theorem set_6(hk:k<l.length)(h2:¬m.fKind=2)(h3:¬m.fKind=3)(h4:¬m.fKind=4)(h5:¬m.fKind=5):setS l k m=l∧setR l k m=spc (tldL l[k]):=by unfold setS setR;rw [if_neg h2,dif_pos hk,if_neg h3,if_neg h4,if_neg h5,if_neg h2,dif_pos hk,if_neg h3,if_neg h4,if_neg h5];exact ⟨rfl,rfl⟩
end
noncomputable def catS(c:DtCatalog)(m:DtCmd):List DtCSet:=if decB (CatP c)=true then (if decB (CmdP m)=true then (if m.fKind=0 then c.fSets else if m.fKind=1 then creS c.fSets m.fSet else if m.fKind=7 then c.fSets else if findS c.fSets m.fSet<0 then c.fSets else setS c.fSets (findS c.fSets m.fSet).toNat m) else c.fSets) else []
noncomputable def catR(c:DtCatalog)(m:DtCmd):List UInt8:=if decB (CatP c)=true then (if decB (CmdP m)=true then (if m.fKind=0 then [] else if m.fKind=1 then creR c.fSets m.fSet else if m.fKind=7 then spc (namL c.fSets) else if findS c.fSets m.fSet<0 then bNone else setR c.fSets (findS c.fSets m.fSet).toNat m) else []) else []
section
variable {c:DtCatalog}{m:DtCmd}
theorem zq5(h:¬CatP c):catS c m=[]∧catR c m=[]:=by unfold catS catR;rw [if_neg (by rw [zba];exact h),if_neg (by rw [zba];exact h)];exact ⟨rfl,rfl⟩
theorem zq6(h:CatP c)(hm:¬CmdP m):catS c m=c.fSets∧catR c m=[]:=by unfold catS catR;rw [if_pos (zb4 h),if_pos (zb4 h),if_neg (by rw [zba];exact hm),if_neg (by rw [zba];exact hm)];exact ⟨rfl,rfl⟩
theorem zq7(h:CatP c)(hm:CmdP m)(h0:m.fKind=0):catS c m=c.fSets∧catR c m=[]:=by unfold catS catR;rw [if_pos (zb4 h),if_pos (zb4 h),if_pos (zb4 hm),if_pos (zb4 hm),if_pos h0,if_pos h0];exact ⟨rfl,rfl⟩
theorem zq8(h:CatP c)(hm:CmdP m)(h1:m.fKind=1):catS c m=creS c.fSets m.fSet∧catR c m=creR c.fSets m.fSet:=by unfold catS catR;rw [if_pos (zb4 h),if_pos (zb4 h),if_pos (zb4 hm),if_pos (zb4 hm),if_neg (by omega),if_pos h1,if_neg (by omega),if_pos h1];exact ⟨rfl,rfl⟩
theorem zq9(h:CatP c)(hm:CmdP m)(h7:m.fKind=7):catS c m=c.fSets∧catR c m=spc (namL c.fSets):=by unfold catS catR;rw [if_pos (zb4 h),if_pos (zb4 h),if_pos (zb4 hm),if_pos (zb4 hm),if_neg (by omega),if_neg (by omega),if_pos h7,if_neg (by omega),if_neg (by omega),if_pos h7];exact ⟨rfl,rfl⟩
theorem zra(h:CatP c)(hm:CmdP m)(h0:¬m.fKind=0)(h1:¬m.fKind=1)(h7:¬m.fKind=7)(hf:findS c.fSets m.fSet<0):catS c m=c.fSets∧catR c m=bNone:=by unfold catS catR;rw [if_pos (zb4 h),if_pos (zb4 h),if_pos (zb4 hm),if_pos (zb4 hm),if_neg h0,if_neg h1,if_neg h7,if_pos hf,if_neg h0,if_neg h1,if_neg h7,if_pos hf];exact ⟨rfl,rfl⟩
theorem cat_k(h:CatP c)(hm:CmdP m)(h0:¬m.fKind=0)(h1:¬m.fKind=1)(h7:¬m.fKind=7){k:Nat}(hf:findS c.fSets m.fSet=k):catS c m=setS c.fSets k m∧catR c m=setR c.fSets k m:=by unfold catS catR;rw [if_pos (zb4 h),if_pos (zb4 h),if_pos (zb4 hm),if_pos (zb4 hm),if_neg h0,if_neg h1,if_neg h7,if_neg (by omega),if_neg h0,if_neg h1,if_neg h7,if_neg (by omega),hf];exact ⟨rfl,rfl⟩
theorem zln{l:List DtCSet}{n:List UInt8}{k:Nat}(hf:findS l n=k):k<l.length:=by
 have h:=zm9 (λp:DtCSet=>eqB p.fName n) l (by show 0≤findS l n;omega)
 change (findS l n).toNat<_ at h
 rw [hf] at h
 exact h
end
end Go.Proofs.Ytodmafgmdlkhoaa.Vs
end
section
namespace Go.Proofs.Ytodmafgmdlkhoaa.Vs
set_option linter.all false
set_option maxRecDepth 100000
attribute [local simp] zbl zco
theorem prn_gone(l:List DtCSnap)(n:Int)(hn:0≤n):(l.length:Int)-(prn ((bareN l:Int)-n) 0 l).length=goneN l n:=by
 have h:=prn_len ((bareN l:Int)-n) l 0
 unfold goneN
 omega
theorem l15PruneX(l:List DtCSnap)(hl:l.length≤1048576)(n:Int)(hn:0≤n)(hn2:n≤1048576):XCall Try.prog 96 [.arr 8 0 l.length,(.g (.int .i64 (n)))] [.own 3 (l.map DtCSnap.cells)] (.tup [.arr 16 0 (prn ((bareN l:Int)-n) 0 l).length,(.g (.int .i64 (goneN l n)))]) [.dead] [.own 3 ((prn ((bareN l:Int)-n) 0 l).map DtCSnap.cells)]:=by
 refine zbs Try.func96 (by rfl) (by rfl) (by rw [Try.ntmps96];exact Nat.le_of_ble_eq_true rfl) rfl (by simp) rfl rfl ?_
 rw [Try.ntmps96]
 refine zhl (.own 3 (l.map DtCSnap.cells)) (by simp [cvO]<;>assumption) ?_
 refine AW_k [(0,_),(1,_)] ⟨rfl,rfl,trivial⟩ ?_
 refine zf6 (us:=l) 8 903 (by simp [zG16]) (by simp [zG16]) λys hys hone=>?_
 have hyl:ys.length=l.length:=by rw [←hys];simp
 refine AW_x rfl rfl λK hK=>?_
 simp (disch:=omega)
 repeat' first|(refine ⟨by omega,?_⟩)|(intro _)
 refine hK _ ?_;clear hK K
 refine AW_x rfl rfl λK hK=>?_
 simp (disch:=omega)
 repeat' first|(refine ⟨by omega,?_⟩)|(intro _)
 refine hK _ ?_;clear hK K
 refine zbi ?_
 refine AW_x rfl rfl λK hK=>?_
 simp (disch:=omega)
 repeat' first|(refine ⟨by omega,?_⟩)|(intro _)
 refine hK _ ?_;clear hK K
 refine zbm ?_
 refine zbv (λmM sS=>∃(i:Nat),mM=l.length-i∧(i≤l.length)∧sS = { env:=lkE [(0,.arr 8 0 l.length),(1,(.g (.int .i64 (n)))),(6,(.g (.int .i64 ((bareN (l.take i):Nat))))),(7,(.g (.int .i64 ((i:Nat)))))],ob:=lk [(8,.win 3 (ys.map snapV)),(903,.park (ys.flatMap snapP))] }) ?_ ?_
 ·refine ⟨_,LeS.kx [(8,8),(903,903)] [(0,.arr 8 0 l.length),(1,(.g (.int .i64 (n)))),(6,(.g (.int .i64 ((bareN (l.take (0)):Nat))))),(7,(.g (.int .i64 (((0):Nat)))))] [(8,.win 3 (ys.map snapV)),(903,.park (ys.flatMap snapP))] (by simp [zG16,KpR,renV2,renV,zbk,zca,zco];try (simp [bareN];done)) (by simp [zG16,KpOX,renO,plO,cvO,renV,pl1,zca,zco];try rfl) (by rfl) (by simp) (by simp) (by rfl) (by simp [formsX,List.range_succ,zbq,zby]),_,0,rfl,?_,rfl⟩
  ·simp
 ·rintro mM sS ⟨i,rfl,hi,rfl⟩
  refine zbi ?_
  refine AW_x rfl rfl λK hK=>?_
  simp (disch:=omega)
  repeat' first|(refine ⟨by omega,?_⟩)|(simp (disch:=omega))|(intro _)
  refine hK _ ?_;clear hK K
  refine zbh rfl (λhc1=>?_) (λhc1=>?_)
  ·try simp [zG17,zbc,zbb] at hc1
   all_goals
    have hbl:bareN (l.take i)≤1048576:=by have h:=zll (l.take i);rw [List.length_take] at h;omega
    have hyi:=zxq hys i (by omega) (by omega)
    have hv1:(ys[i].2 2).oneCell'=true:=hone _ (List.getElem_mem _) 2
    simp only [Value.oneCell'] at hv1
    have hbt:=zjq l i (by omega)
    rw [←hyi] at hbt
    refine zbj ?_
    refine zbn ?_
    refine zbi ?_
    refine zbm ?_
    refine AW_x rfl rfl λK hK=>?_
    simp (disch:=omega) [hv1]
    repeat' first|(exfalso;omega)|(refine ⟨λ_=>?_,λ_=>?_⟩)|(refine ⟨by omega,?_⟩)|(simp (disch:=omega) [hv1])|(intro _)
    all_goals (refine hK _ ?_;clear hK K)
    all_goals
     refine zbh rfl (λhc2=>?_) (λhc2=>?_)
     ·try simp [zG17,zbc,zbb] at hc2
      all_goals
       refine zb3 rfl rfl λK hK=>?_
       simp (disch:=omega) [hv1]
       repeat' first|(exfalso;omega)|(refine ⟨λ_=>?_,λ_=>?_⟩)|(refine ⟨by omega,?_⟩)|(simp (disch:=omega) [hv1])|(intro _)
       all_goals (refine hK _ ?_;clear hK K)
       all_goals
        refine zbn ?_
        refine zb3 rfl rfl λK hK=>?_
        simp (disch:=omega) [hv1]
        repeat' first|(refine ⟨by omega,?_⟩)|(intro _)
        refine hK _ ?_;clear hK K
        refine ⟨_,LeS.kx [(8,8),(903,903)] [(0,.arr 8 0 l.length),(1,(.g (.int .i64 (n)))),(6,(.g (.int .i64 ((bareN (l.take (i+1)):Nat))))),(7,(.g (.int .i64 (((i+1):Nat)))))] [(8,.win 3 (ys.map snapV)),(903,.park (ys.flatMap snapP))] (by simp [zG16,KpR,renV2,renV,zbk,zca,zco];try (first | omega|(rw [hbt];split<;>first | omega|(exfalso;simp_all;done)))) (by simp [zG16,KpOX,renO,plO,cvO,renV,pl1,zca,zco];try rfl) (by rfl) (by simp) (by simp) (by rfl) (by simp [formsX,List.range_succ,zbq,zby]),_,?_,i+1,rfl,?_,rfl⟩
        ·omega
        ·omega
     try simp [zG17,zbc,zbb] at hc2
     refine zbj ?_
     refine zbn ?_
     refine zb3 rfl rfl λK hK=>?_
     simp (disch:=omega) [hv1]
     repeat' first|(exfalso;omega)|(refine ⟨λ_=>?_,λ_=>?_⟩)|(refine ⟨by omega,?_⟩)|(simp (disch:=omega) [hv1])|(intro _)
     all_goals (refine hK _ ?_;clear hK K)
     all_goals
      refine ⟨_,LeS.kx [(8,8),(903,903)] [(0,.arr 8 0 l.length),(1,(.g (.int .i64 (n)))),(6,(.g (.int .i64 ((bareN (l.take (i+1)):Nat))))),(7,(.g (.int .i64 (((i+1):Nat)))))] [(8,.win 3 (ys.map snapV)),(903,.park (ys.flatMap snapP))] (by simp [zG16,KpR,renV2,renV,zbk,zca,zco];try (first | omega|(rw [hbt];split<;>first | omega|(exfalso;simp_all;done)))) (by simp [zG16,KpOX,renO,plO,cvO,renV,pl1,zca,zco];try rfl) (by rfl) (by simp) (by simp) (by rfl) (by simp [formsX,List.range_succ,zbq,zby]),_,?_,i+1,rfl,?_,rfl⟩
      ·omega
      ·omega
  try simp [zG17,zbc,zbb] at hc1
  have hti:l.take i=l:=List.take_of_length_le (by omega)
  refine zbx ?_
  refine zbn ?_
  refine AW_x rfl rfl λK hK=>?_
  simp (disch:=omega)
  repeat' first|(exfalso;omega)|(refine ⟨λ_=>?_,λ_=>?_⟩)|(refine ⟨by omega,?_⟩)|(simp (disch:=omega))|(intro _)
  all_goals (refine hK _ ?_;clear hK K)
  all_goals
   refine zbi ?_
   refine AW_x rfl rfl λK hK=>?_
   simp (disch:=omega)
   repeat' first|(refine ⟨by omega,?_⟩)|(intro _)
   refine hK _ ?_;clear hK K
   refine zbm ?_
   refine zbv (λmM sS=>∃(i:Nat) (ks:List SnapV) (b:Int),mM=l.length-i∧(i≤l.length∧ks=prV ((bareN l:Int)-n) 0 (ys.take i)∧b=(bareN l:Int)-(bareN (l.take i):Nat))∧sS = { env:=lkE [(0,.arr 8 0 l.length),(1,(.g (.int .i64 (n)))),(6,(.g (.int .i64 (b)))),(8,.arr 904 0 ks.length),(9,(.g (.int .i64 ((i:Nat)))))],ob:=lk [(8,.win 3 (ys.map snapV)),(903,.park (ys.flatMap snapP)),(904,.win 3 (ks.map snapV))] }) ?_ ?_
   ·refine ⟨_,LeS.kx [(8,8),(903,903),(904,400)] [(0,.arr 8 0 l.length),(1,(.g (.int .i64 (n)))),(6,(.g (.int .i64 (((bareN l:Int)))))),(8,.arr 904 0 ([]).length),(9,(.g (.int .i64 (((0):Nat)))))] [(8,.win 3 (ys.map snapV)),(903,.park (ys.flatMap snapP)),(904,.win 3 (([]).map snapV))] (by simp [zG16,KpR,renV2,renV,zbk,zca,zco];try (first | omega | rw [hti])) (by simp [zG16,KpOX,renO,plO,cvO,renV,pl1,zca,zco];try rfl) (by rfl) (by simp) (by simp) (by rfl) (by simp [formsX,List.range_succ,zbq,zby]),_,0,[],(bareN l:Int),rfl,?_,rfl⟩
    ·exact ⟨by omega,rfl,by simp [bareN]⟩
   ·rintro mM sS ⟨i,ks,b,rfl,⟨hi,hks,hb⟩,rfl⟩
    have hkl:ks.length≤l.length:=by rw [hks];have h1:=(zh6 ((bareN l:Int)-n) (ys.take i) 0).length_le;rw [List.length_take] at h1;omega
    have hbm:=ztc l i
    have hbl:=zll l
    refine zbi ?_
    refine AW_x rfl rfl λK hK=>?_
    simp (disch:=omega)
    repeat' first|(refine ⟨by omega,?_⟩)|(simp (disch:=omega))|(intro _)
    refine hK _ ?_;clear hK K
    refine zbh rfl (λhc3=>?_) (λhc3=>?_)
    ·try simp [zG17,zbc,zbb] at hc3
     all_goals
      have hpt:=zxp ((bareN l:Int)-n) ys i (by omega)
      have hyi:=zxq hys i (by omega) (by omega)
      have hv1:(ys[i].2 2).oneCell'=true:=hone _ (List.getElem_mem _) 2
      simp only [Value.oneCell'] at hv1
      have hbt:=zjq l i (by omega)
      have hbm2:=ztc l (i+1)
      rw [←hyi] at hbt
      refine zbj ?_
      refine zbn ?_
      refine zbi ?_
      refine zbm ?_
      refine zbi ?_
      refine AW_x rfl rfl λK hK=>?_
      simp (disch:=omega) [hv1]
      repeat' first|(exfalso;omega)|(refine ⟨λ_=>?_,λ_=>?_⟩)|(refine ⟨by omega,?_⟩)|(simp (disch:=omega) [hv1])|(intro _)
      all_goals (refine hK _ ?_;clear hK K)
      all_goals
       refine zbh rfl (λhc4=>?_) (λhc4=>?_)
       ·try simp [zG17,zbc,zbb] at hc4
        all_goals
         refine AW_x rfl rfl λK hK=>?_
         simp (disch:=omega) [hv1]
         repeat' first|(exfalso;omega)|(refine ⟨λ_=>?_,λ_=>?_⟩)|(refine ⟨by omega,?_⟩)|(simp (disch:=omega) [hv1])|(intro _)
         all_goals (refine hK _ ?_;clear hK K)
         all_goals
          refine AW_x rfl rfl λK hK=>?_
          simp (disch:=omega) [hv1]
          repeat' first|(refine ⟨by omega,?_⟩)|(intro _)
          refine hK _ ?_;clear hK K
          refine zbh rfl (λhc5=>?_) (λhc5=>?_)
          ·try simp [zG17,zbc,zbb] at hc5
           all_goals
            refine zbx ?_
            refine zbn ?_
            refine zb3 rfl rfl λK hK=>?_
            simp (disch:=omega) [hv1]
            repeat' first|(exfalso;omega)|(refine ⟨λ_=>?_,λ_=>?_⟩)|(refine ⟨by omega,?_⟩)|(simp (disch:=omega) [hv1])|(intro _)
            all_goals (refine hK _ ?_;clear hK K)
            all_goals
             refine ⟨_,LeS.kx [(8,8),(903,903),(904,904)] [(0,.arr 8 0 l.length),(1,(.g (.int .i64 (n)))),(6,(.g (.int .i64 ((b-1))))),(8,.arr 904 0 (ks).length),(9,(.g (.int .i64 (((i+1):Nat)))))] [(8,.win 3 (ys.map snapV)),(903,.park (ys.flatMap snapP)),(904,.win 3 ((ks).map snapV))] (by simp [zG16,KpR,renV2,renV,zbk,zca,zco];try (first | omega|(simp_all;done))) (by simp [zG16,KpOX,renO,plO,cvO,renV,pl1,zca,zco];try rfl) (by rfl) (by simp) (by simp) (by rfl) (by simp [formsX,List.range_succ,zbq,zby]),_,?_,i+1,ks,b-1,rfl,?_,rfl⟩
             ·omega
             ·refine ⟨by omega,?_,?_⟩
              ·rw [hys] at hpt;rw [hpt,hks];split<;>rename_i h<;>first|(simp;done)|(exfalso;obtain ⟨h1,h2⟩:=h;first | omega|(simp_all;done))|(exfalso;exact h ⟨by assumption,by omega⟩) | trace_state
              ·rw [hbt];by_cases ht:ys[i].1.fTag=[]<;>first|(simp [ht];omega)|(exfalso;simp_all;done) | trace_state
          try simp [zG17,zbc,zbb] at hc5
          refine zbj ?_
          refine zbn ?_
          refine zb3 rfl rfl λK hK=>?_
          simp (disch:=omega) [hv1]
          repeat' first|(exfalso;omega)|(refine ⟨λ_=>?_,λ_=>?_⟩)|(refine ⟨by omega,?_⟩)|(simp (disch:=omega) [hv1])|(intro _)
          all_goals (refine hK _ ?_;clear hK K)
          all_goals
           refine zbn ?_
           refine zb3 rfl rfl λK hK=>?_
           simp (disch:=omega) [hv1]
           repeat' first|(refine ⟨by omega,?_⟩)|(intro _)
           refine hK _ ?_;clear hK K
           refine ⟨_,LeS.kx [(8,8),(903,903),(904,784)] [(0,.arr 8 0 l.length),(1,(.g (.int .i64 (n)))),(6,(.g (.int .i64 (((if ys[i].1.fTag=[] then b-1 else b)))))),(8,.arr 904 0 (ks++[ys[i]]).length),(9,(.g (.int .i64 (((i+1):Nat)))))] [(8,.win 3 (ys.map snapV)),(903,.park (ys.flatMap snapP)),(904,.win 3 ((ks++[ys[i]]).map snapV))] (by simp [zG16,KpR,renV2,renV,zbk,zca,zco];try (first | omega|(simp_all;done))) (by simp [zG16,KpOX,renO,plO,cvO,renV,pl1,zca,zco];try rfl) (by rfl) (by simp) (by simp) (by rfl) (by simp [formsX,List.range_succ,zbq,zby]),_,?_,i+1,ks++[ys[i]],(if ys[i].1.fTag=[] then b-1 else b),rfl,?_,rfl⟩
           ·omega
           ·refine ⟨by omega,?_,?_⟩
            ·rw [hys] at hpt;rw [hpt,hks];split<;>rename_i h<;>first|(simp;done)|(exfalso;obtain ⟨h1,h2⟩:=h;first | omega|(simp_all;done))|(exfalso;exact h ⟨by assumption,by omega⟩) | trace_state
            ·rw [hbt];by_cases ht:ys[i].1.fTag=[]<;>first|(simp [ht];omega)|(exfalso;simp_all;done) | trace_state
       try simp [zG17,zbc,zbb] at hc4
       refine zbj ?_
       refine zbn ?_
       refine zb3 rfl rfl λK hK=>?_
       simp (disch:=omega) [hv1]
       repeat' first|(exfalso;omega)|(refine ⟨λ_=>?_,λ_=>?_⟩)|(refine ⟨by omega,?_⟩)|(simp (disch:=omega) [hv1])|(intro _)
       all_goals (refine hK _ ?_;clear hK K)
       all_goals
        refine zbn ?_
        refine zb3 rfl rfl λK hK=>?_
        simp (disch:=omega) [hv1]
        repeat' first|(refine ⟨by omega,?_⟩)|(intro _)
        refine hK _ ?_;clear hK K
        refine ⟨_,LeS.kx [(8,8),(903,903),(904,784)] [(0,.arr 8 0 l.length),(1,(.g (.int .i64 (n)))),(6,(.g (.int .i64 (((if ys[i].1.fTag=[] then b-1 else b)))))),(8,.arr 904 0 (ks++[ys[i]]).length),(9,(.g (.int .i64 (((i+1):Nat)))))] [(8,.win 3 (ys.map snapV)),(903,.park (ys.flatMap snapP)),(904,.win 3 ((ks++[ys[i]]).map snapV))] (by simp [zG16,KpR,renV2,renV,zbk,zca,zco];try (first | omega|(simp_all;done))) (by simp [zG16,KpOX,renO,plO,cvO,renV,pl1,zca,zco];try rfl) (by rfl) (by simp) (by simp) (by rfl) (by simp [formsX,List.range_succ,zbq,zby]),_,?_,i+1,ks++[ys[i]],(if ys[i].1.fTag=[] then b-1 else b),rfl,?_,rfl⟩
        ·omega
        ·refine ⟨by omega,?_,?_⟩
         ·rw [hys] at hpt;rw [hpt,hks];split<;>rename_i h<;>first|(simp;done)|(exfalso;obtain ⟨h1,h2⟩:=h;first | omega|(simp_all;done))|(exfalso;exact h ⟨by assumption,by omega⟩) | trace_state
         ·rw [hbt];by_cases ht:ys[i].1.fTag=[]<;>first|(simp [ht];omega)|(exfalso;simp_all;done) | trace_state
    try simp [zG17,zbc,zbb] at hc3
    have hti2:ys.take i=ys:=List.take_of_length_le (by omega)
    rw [hti2] at hks
    refine zbx ?_
    refine zbn ?_
    refine zda (zlk (ks:=ks) (zs:=ys) 904 903 (by simp [zG16]) (by simp [zG16]) (by rw [hks];exact zh6 _ _ _)) ?_
    have hsn:(ks.map λz=>DtCSnap.cells z.1)=(prn ((bareN l:Int)-n) 0 l).map DtCSnap.cells:=by have h:=zna ((bareN l:Int)-n) ys 0;rw [hys] at h;rw [←h,List.map_map,hks];rfl
    rw [hsn]
    have hkl2:ks.length=(prn ((bareN l:Int)-n) 0 l).length:=by have h:=congrArg List.length hsn;simpa using h
    have hgo:=prn_gone l n hn
    refine AW_x rfl rfl λK hK=>?_
    simp (disch:=omega)
    repeat' first|(exfalso;omega)|(refine ⟨λ_=>?_,λ_=>?_⟩)|(refine ⟨by omega,?_⟩)|(simp (disch:=omega))|(intro _)
    all_goals (refine hK _ ?_;clear hK K)
    all_goals
     refine zbp (zb0 [904] [] (by simp [zG16,List.range_succ]) (by simp) ?_)
     simp (disch:=omega)
     all_goals first | rfl | exact ⟨rfl,rfl⟩ | omega | trace_state
end Go.Proofs.Ytodmafgmdlkhoaa.Vs
end
section
namespace Go.Proofs.Ytodmafgmdlkhoaa.Vs
set_option linter.all false
set_option maxRecDepth 100000
theorem zwi{zs:List SetV}{l:List DtCSet}(hzl:zs.length=l.length)(k:Nat)(hk:k<l.length)(hl:l.length≤1048576):XCall Try.prog 65 [.arr 8 0 l.length,(.g (.int .i64 ((k:Nat)))),(.g (.int .i64 ((k:Nat)+1)))] [.own 2 (zs.map setV)] (.arr 16 0 (l.length-1)) [.dead] [.own 2 ((zs.map setV).take k++(zs.map setV).drop (k+1))]:=by
 have e:(zs.map setV).length=l.length:=by rw [List.length_map,hzl]
 have h:=deleteCSet (zs.map setV) (zcf zs) k (by omega) (by omega)
 rw [e] at h
 exact h
theorem scR_del(zs:List SetV)(k:Nat):scR ((zs.map setV).take k++(zs.map setV).drop (k+1))=true:=by rw [zd4,zcn (zcf zs),zct (zcf zs)];rfl
theorem zwj{α:Type}(l:List α)(k:Nat):(l.take k++l.drop (k+1)).Sublist l:=by
 have h:(l.drop (k+1)).Sublist (l.drop k):=by
  have:l.drop (k+1)=(l.drop k).drop 1:=by rw [List.drop_drop]
  rw [this];exact List.drop_sublist _ _
 have h2:=(List.Sublist.refl (l.take k)).append h
 rwa [List.take_append_drop] at h2
theorem del_c{zs:List SetV}{l:List DtCSet}(hz:zs.map (·.1)=l)(k:Nat):((zs.take k++zs.drop (k+1)).map λz=>DtCSet.cells z.1)=(l.take k++l.drop (k+1)).map DtCSet.cells:=by subst hz;simp [Function.comp_def]
attribute [local simp] DtCatalog.cells DtCmd.cells zbl and_assoc zcf len0
theorem implCatDo(c:DtCatalog)(m:DtCmd)(hs:DtCatalog.sz c≤1048576)(hm:DtCmd.sz m≤1048576)(hch:m.fChunks.length≤1048576):XCall Try.prog 32 [.agg (DtCatalog.cells c),.agg (DtCmd.cells m)] [] (.tup [.agg [.arr 16 0 (catS c m).length],.s (catR c m)]) [] [.own 2 ((catS c m).map DtCSet.cells)]:=by
 have hB:=zqy c hs
 have hB1:=hB.1
 refine zbs Try.func32 (by rfl) (by rfl) (by rw [Try.ntmps32];exact Nat.le_of_ble_eq_true rfl) rfl (by simp) rfl rfl ?_
 rw [Try.ntmps32]
 refine zf1   ?_
 refine AW_k [(0,_),(1,_)] ⟨rfl,rfl,trivial⟩ ?_
 refine AW_x rfl rfl λK hK=>?_
 simp (disch:=omega)
 repeat' first|(refine ⟨by omega,?_⟩)|(intro _)
 refine hK _ ?_;clear hK K
 refine AW_x rfl rfl λK hK=>?_
 simp (disch:=omega)
 repeat' first|(exfalso;omega)|(refine zdh [] true [] (zxl c hB) ?_ ?_ ?_;(focus (simp [List.range_succ,nmC];done));(focus (simp (disch:=omega) [zbl];done));simp (disch:=omega))|(refine ⟨by omega,?_⟩)|(simp (disch:=omega))|(intro _)
 refine hK _ ?_;clear hK K
 refine zbi ?_
 refine zbm ?_
 refine AW_x rfl rfl λK hK=>?_
 simp (disch:=omega)
 repeat' first|(exfalso;omega)|(refine zc6 (zbe (zb6 rfl) zbo) (zm6 c (by omega)) rfl ?_;simp (disch:=omega))|(refine zc7 (zm6 c (by omega)) (by rfl) ?_ ?_;(focus (simp (disch:=omega) [zbl];done));simp (disch:=omega))|(refine ⟨by omega,?_⟩)|(simp (disch:=omega))|(intro _)
 refine hK _ ?_;clear hK K
 refine zbh rfl (λhc1=>?_) (λhc1=>?_)
 ·try simp [zG17,zbc,zbb] at hc1
  all_goals
   refine AW_x rfl rfl λK hK=>?_
   simp (disch:=omega)
   repeat' first|(exfalso;omega)|(refine ⟨λ_=>?_,λ_=>?_⟩)|(refine ⟨by omega,?_⟩)|(simp (disch:=omega))|(intro _)
   all_goals (refine hK _ ?_;clear hK K)
   all_goals
    refine zbp (zb0 [1000] [(1000,2)] (by simp [zG16,List.range_succ]) (by simp) ?_)
    simp (disch:=omega)
    have ⟨h1,h2⟩:=zq5 hc1 (m:=m);exact ⟨h1,h2,h1⟩
 try simp [zG17,zbc,zbb] at hc1
 obtain ⟨hb1,hb2,hb3,hb4⟩:=catP_bd hc1
 refine AW_x rfl rfl λK hK=>?_
 simp (disch:=omega)
 repeat' first|(exfalso;omega)|(refine zc6 (zbe (zb6 rfl) zbo) (zg9 m (by omega)) rfl ?_;simp (disch:=omega))|(refine zc7 (zg9 m (by omega)) (by rfl) ?_ ?_;(focus (simp (disch:=omega) [zbl];done));simp (disch:=omega))|(refine ⟨λ_=>?_,λ_=>?_⟩)|(refine ⟨by omega,?_⟩)|(simp (disch:=omega))|(intro _)
 all_goals (refine hK _ ?_;clear hK K)
 all_goals
  refine zbh rfl (λhc2=>?_) (λhc2=>?_)
  ·try simp [zG17,zbc,zbb] at hc2
   all_goals
    refine AW_x rfl rfl λK hK=>?_
    simp (disch:=omega)
    repeat' first|(exfalso;omega)|(refine ⟨λ_=>?_,λ_=>?_⟩)|(refine ⟨by omega,?_⟩)|(simp (disch:=omega))|(intro _)
    all_goals (refine hK _ ?_;clear hK K)
    all_goals
     refine zbp (zb0 [192] [] (by simp [zG16,List.range_succ]) (by simp) ?_)
     simp (disch:=omega)
     have ⟨h1,h2⟩:=zq6 hc1 hc2;rw [h1,h2];exact ⟨rfl,rfl,rfl⟩
  try simp [zG17,zbc,zbb] at hc2
  refine AW_x rfl rfl λK hK=>?_
  simp (disch:=omega)
  repeat' first|(exfalso;omega)|(refine ⟨λ_=>?_,λ_=>?_⟩)|(refine ⟨by omega,?_⟩)|(simp (disch:=omega))|(intro _)
  all_goals (refine hK _ ?_;clear hK K)
  all_goals
   refine zbh rfl (λhc3=>?_) (λhc3=>?_)
   ·try simp [zG17,zbc,zbb] at hc3
    all_goals
     refine AW_x rfl rfl λK hK=>?_
     simp (disch:=omega)
     repeat' first|(exfalso;omega)|(refine ⟨λ_=>?_,λ_=>?_⟩)|(refine ⟨by omega,?_⟩)|(simp (disch:=omega))|(intro _)
     all_goals (refine hK _ ?_;clear hK K)
     all_goals
      refine zbp (zb0 [192] [] (by simp [zG16,List.range_succ]) (by simp) ?_)
      simp (disch:=omega)
      have ⟨h1,h2⟩:=zq7 hc1 hc2 hc3;rw [h1,h2];exact ⟨rfl,rfl,rfl⟩
   try simp [zG17,zbc,zbb] at hc3
   refine AW_x rfl rfl λK hK=>?_
   simp (disch:=omega)
   repeat' first|(exfalso;omega)|(refine ⟨λ_=>?_,λ_=>?_⟩)|(refine ⟨by omega,?_⟩)|(simp (disch:=omega))|(intro _)
   all_goals (refine hK _ ?_;clear hK K)
   all_goals
    refine zbh rfl (λhc4=>?_) (λhc4=>?_)
    ·try simp [zG17,zbc,zbb] at hc4
     all_goals
      refine AW_x rfl rfl λK hK=>?_
      simp (disch:=omega)
      repeat' first|(exfalso;omega)|(refine zdh [112,192] true [] (createX c.fSets (by omega) m.fSet) ?_ ?_ ?_;(focus (simp [List.range_succ,nmC];done));(focus (simp (disch:=omega) [zbl];done));simp (disch:=omega))|(refine ⟨λ_=>?_,λ_=>?_⟩)|(refine ⟨by omega,?_⟩)|(simp (disch:=omega))|(intro _)
      all_goals (refine hK _ ?_;clear hK K)
      all_goals
       refine AW_x rfl rfl λK hK=>?_
       simp (disch:=omega)
       repeat' first|(refine ⟨by omega,?_⟩)|(simp (disch:=omega))|(intro _)
       refine hK _ ?_;clear hK K
       refine zbp (zb0 [544] [] (by simp [zG16,List.range_succ]) (by simp) ?_)
       simp (disch:=omega)
       have ⟨h1,h2⟩:=zq8 hc1 hc2 hc4;rw [h1,h2];exact ⟨rfl,rfl,rfl⟩
    try simp [zG17,zbc,zbb] at hc4
    refine AW_x rfl rfl λK hK=>?_
    simp (disch:=omega)
    repeat' first|(exfalso;omega)|(refine ⟨λ_=>?_,λ_=>?_⟩)|(refine ⟨by omega,?_⟩)|(simp (disch:=omega))|(intro _)
    all_goals (refine hK _ ?_;clear hK K)
    all_goals
     refine zbh rfl (λhc5=>?_) (λhc5=>?_)
     ·try simp [zG17,zbc,zbb] at hc5
      all_goals
       refine AW_d rfl mix (by kernel_rfl) (by kernel_rfl) λK hK=>?_
       simp (disch:=omega)
       repeat' first|(exfalso;omega)|(refine DKd_z [112,192] true (listX c.fSets (by omega) hb3) ?_ (λst' hst=>?_) ?_ ?_;(focus (simp;done));(focus (simp (disch:=omega) [nmC,List.range_succ] at hst;simp (disch:=omega) [hst,zbl,nmC,List.range_succ];done));(focus (simp (disch:=omega) [upsX,zipO,rnO,rn0,rn2,rhoX,List.range_succ];done));simp (disch:=omega))|(refine ⟨λ_=>?_,λ_=>?_⟩)|(refine ⟨by omega,?_⟩)|(simp (disch:=omega))|(intro _)
       all_goals (refine hK _ _ (by kernel_rfl) ?_;clear hK K)
       all_goals
        refine zbp (zb0 [192] [] (by simp [zG16,List.range_succ]) (by simp) ?_)
        simp (disch:=omega)
        have ⟨h1,h2⟩:=zq9 hc1 hc2 hc5;rw [h1,h2];exact ⟨rfl,rfl,rfl⟩
     try simp [zG17,zbc,zbb] at hc5
     refine zbj ?_
     refine zbn ?_
     refine AW_x rfl rfl λK hK=>?_
     simp (disch:=omega)
     repeat' first|(exfalso;omega)|(refine zc6 (zbe (zb6 rfl) (zbe zgs zbo)) (zxn c m.fSet (by omega)) rfl ?_;simp (disch:=omega))|(refine zc7 (zxn c m.fSet (by omega)) (by rfl) ?_ ?_;(focus (simp (disch:=omega) [zbl];done));simp (disch:=omega))|(refine ⟨λ_=>?_,λ_=>?_⟩)|(refine ⟨by omega,?_⟩)|(simp (disch:=omega))|(intro _)
     all_goals (refine hK _ ?_;clear hK K)
     all_goals
      refine zbi ?_
      refine AW_x rfl rfl λK hK=>?_
      simp (disch:=omega)
      repeat' first|(refine ⟨by omega,?_⟩)|(intro _)
      refine hK _ ?_;clear hK K
      refine zbh rfl (λhc6=>?_) (λhc6=>?_)
      ·try simp [zG17,zbc,zbb] at hc6
       all_goals
        refine AW_x rfl rfl λK hK=>?_
        simp (disch:=omega)
        repeat' first|(exfalso;omega)|(refine ⟨λ_=>?_,λ_=>?_⟩)|(refine ⟨by omega,?_⟩)|(simp (disch:=omega))|(intro _)
        all_goals (refine hK _ ?_;clear hK K)
        all_goals
         refine zbp (zb0 [192] [] (by simp [zG16,List.range_succ]) (by simp) ?_)
         simp (disch:=omega)
         have ⟨h1,h2⟩:=zra hc1 hc2 hc3 hc4 hc5 hc6;rw [h1,h2];exact ⟨rfl,rfl,rfl⟩
      try simp [zG17,zbc,zbb] at hc6
      refine zbj ?_
      refine zbn ?_
      obtain ⟨k,hkz⟩:=Int.eq_ofNat_of_zero_le hc6
      have hk:=zln hkz
      have ⟨hS,hR⟩:=cat_k hc1 hc2 hc3 hc4 hc5 hkz
      simp only [hkz]
      refine AW_x rfl rfl λK hK=>?_
      simp (disch:=omega)
      repeat' first|(exfalso;omega)|(refine ⟨λ_=>?_,λ_=>?_⟩)|(refine ⟨by omega,?_⟩)|(simp (disch:=omega))|(intro _)
      all_goals (refine hK _ ?_;clear hK K)
      all_goals
       refine zbi ?_
       refine AW_x rfl rfl λK hK=>?_
       simp (disch:=omega)
       repeat' first|(refine ⟨by omega,?_⟩)|(intro _)
       refine hK _ ?_;clear hK K
       refine zbm ?_
       refine AW_x rfl rfl λK hK=>?_
       simp (disch:=omega)
       repeat' first|(refine ⟨by omega,?_⟩)|(intro _)
       refine hK _ ?_;clear hK K
       refine zbh rfl (λhc7=>?_) (λhc7=>?_)
       ·try simp [zG17,zbc,zbb] at hc7
        all_goals
         refine zd5 (us:=c.fSets) 192 901 (by simp [zG16]) (by simp [zG16]) λzs hz hone=>?_
         have hzl:zs.length=c.fSets.length:=by rw [←hz];simp
         refine zb3 rfl rfl λK hK=>?_
         simp (disch:=omega)
         repeat' first|(exfalso;omega)|(refine zdh [192] true [] (zwi hzl k hk (by omega)) ?_ ?_ ?_;(focus (simp [List.range_succ,nmC];done));(focus (simp (disch:=omega) [zbl];done));simp (disch:=omega))|(refine ⟨λ_=>?_,λ_=>?_⟩)|(refine ⟨by omega,?_⟩)|(simp (disch:=omega))|(intro _)
         all_goals (refine hK _ ?_;clear hK K)
         all_goals
          refine zbn ?_
          refine AW_ow (sz:=2) 1024 905 (scR_del zs k) (by simp [zG16]) (by simp [zG16]) ?_
          refine zda (zh5 (ks:=zs.take k++zs.drop (k+1)) (zs:=zs) 1024 901 (by simp [zG16]) (by simp [zG16]) (zwj zs k)) ?_
          rw [del_c hz k]
          refine AW_x rfl rfl λK hK=>?_
          simp (disch:=omega)
          repeat' first|(refine ⟨by omega,?_⟩)|(simp (disch:=omega))|(intro _)
          refine hK _ ?_;clear hK K
          refine zbp (zb0 [1024] [] (by simp [zG16,List.range_succ]) (by simp) ?_)
          simp (disch:=omega)
          have ⟨h1,h2⟩:=@set_2 c.fSets k m hc7;rw [hS,hR,h1,h2];exact ⟨by simp;omega,rfl,by simp⟩
       try simp [zG17,zbc,zbb] at hc7
       refine AW_x rfl rfl λK hK=>?_
       simp (disch:=omega)
       repeat' first|(exfalso;omega)|(refine ⟨λ_=>?_,λ_=>?_⟩)|(refine ⟨by omega,?_⟩)|(simp (disch:=omega))|(intro _)
       all_goals (refine hK _ ?_;clear hK K)
       all_goals
        refine zbh rfl (λhc8=>?_) (λhc8=>?_)
        ·try simp [zG17,zbc,zbb] at hc8
         all_goals
          refine zh2 rfl mix (by kernel_rfl) (by kernel_rfl) λK hK=>?_
          simp (disch:=omega)
          repeat' first|(exfalso;omega)|(refine zk0 [192] true [] (commitX c.fSets (by omega) k hk (hb2 k hk) m hch) ?_ (λst' hst=>?_) ?_;(focus (simp [List.range_succ,nmC];done));(focus (simp (disch:=omega) [nmC,List.range_succ] at hst;simp (disch:=omega) [hst,zbl,nmC,List.range_succ];done));simp (disch:=omega))|(refine ⟨λ_=>?_,λ_=>?_⟩)|(refine ⟨by omega,?_⟩)|(simp (disch:=omega))|(intro _)
          all_goals (refine hK _ _ (by kernel_rfl) ?_;clear hK K)
          all_goals
           refine zbn ?_
           refine AW_x rfl rfl λK hK=>?_
           simp (disch:=omega)
           repeat' first|(refine ⟨by omega,?_⟩)|(simp (disch:=omega))|(intro _)
           refine hK _ ?_;clear hK K
           refine zbp (zb0 [192] [] (by simp [zG16,List.range_succ]) (by simp) ?_)
           simp (disch:=omega)
           have ⟨h1,h2⟩:=set_3 hk hc8;rw [hS,hR,h1,h2];exact ⟨by simp,rfl,by simp⟩
        try simp [zG17,zbc,zbb] at hc8
        refine AW_x rfl rfl λK hK=>?_
        simp (disch:=omega)
        repeat' first|(exfalso;omega)|(refine ⟨λ_=>?_,λ_=>?_⟩)|(refine ⟨by omega,?_⟩)|(simp (disch:=omega))|(intro _)
        all_goals (refine hK _ ?_;clear hK K)
        all_goals
         refine zbh rfl (λhc9=>?_) (λhc9=>?_)
         ·try simp [zG17,zbc,zbb] at hc9
          all_goals
           refine zh2 rfl mix (by kernel_rfl) (by kernel_rfl) λK hK=>?_
           simp (disch:=omega)
           repeat' first|(exfalso;omega)|(refine zk0 [192] true [] (tagX c.fSets (by omega) k hk (hb2 k hk) m hch) ?_ (λst' hst=>?_) ?_;(focus (simp [List.range_succ,nmC];done));(focus (simp (disch:=omega) [nmC,List.range_succ] at hst;simp (disch:=omega) [hst,zbl,nmC,List.range_succ];done));simp (disch:=omega))|(refine ⟨λ_=>?_,λ_=>?_⟩)|(refine ⟨by omega,?_⟩)|(simp (disch:=omega))|(intro _)
           all_goals (refine hK _ _ (by kernel_rfl) ?_;clear hK K)
           all_goals
            refine zbn ?_
            refine AW_x rfl rfl λK hK=>?_
            simp (disch:=omega)
            repeat' first|(refine ⟨by omega,?_⟩)|(simp (disch:=omega))|(intro _)
            refine hK _ ?_;clear hK K
            refine zbp (zb0 [192] [] (by simp [zG16,List.range_succ]) (by simp) ?_)
            simp (disch:=omega)
            have ⟨h1,h2⟩:=set_4 hk hc9;rw [hS,hR,h1,h2];exact ⟨by simp,rfl,by simp⟩
         try simp [zG17,zbc,zbb] at hc9
         refine AW_x rfl rfl λK hK=>?_
         simp (disch:=omega)
         repeat' first|(exfalso;omega)|(refine ⟨λ_=>?_,λ_=>?_⟩)|(refine ⟨by omega,?_⟩)|(simp (disch:=omega))|(intro _)
         all_goals (refine hK _ ?_;clear hK K)
         all_goals
          refine zbh rfl (λhc10=>?_) (λhc10=>?_)
          ·try simp [zG17,zbc,zbb] at hc10
           all_goals
            have hN:0≤m.fN∧m.fN≤1048576:=by have:=hc2;clear hS hR;simp only [CmdP] at this;by_cases h0:m.fN=0<;>grind
            refine zh2 rfl mix (by kernel_rfl) (by kernel_rfl) λK hK=>?_
            simp (disch:=omega)
            repeat' first|(exfalso;omega)|(refine zk0 [192] true [] (pruneX c.fSets (by omega) k hk (hb2 k hk) m.fN hN) ?_ (λst' hst=>?_) ?_;(focus (simp [List.range_succ,nmC];done));(focus (simp (disch:=omega) [nmC,List.range_succ] at hst;simp (disch:=omega) [hst,zbl,nmC,List.range_succ];done));simp (disch:=omega))|(refine ⟨λ_=>?_,λ_=>?_⟩)|(refine ⟨by omega,?_⟩)|(simp (disch:=omega))|(intro _)
            all_goals (refine hK _ _ (by kernel_rfl) ?_;clear hK K)
            all_goals
             refine zbn ?_
             refine AW_x rfl rfl λK hK=>?_
             simp (disch:=omega)
             repeat' first|(refine ⟨by omega,?_⟩)|(simp (disch:=omega))|(intro _)
             refine hK _ ?_;clear hK K
             refine zbp (zb0 [192] [] (by simp [zG16,List.range_succ]) (by simp) ?_)
             simp (disch:=omega)
             have ⟨h1,h2⟩:=set_5 hk hc10;rw [hS,hR,h1,h2];exact ⟨by simp,rfl,by simp⟩
          try simp [zG17,zbc,zbb] at hc10
          refine zb3 rfl rfl λK hK=>?_
          simp (disch:=omega)
          repeat' first|(exfalso;omega)|(refine zdh [192] true [] (toldX c.fSets (by omega) k hk (hb2 k hk) (hb4 k hk)) ?_ ?_ ?_;(focus (simp [List.range_succ,nmC];done));(focus (simp (disch:=omega) [zbl];done));simp (disch:=omega))|(refine ⟨λ_=>?_,λ_=>?_⟩)|(refine ⟨by omega,?_⟩)|(simp (disch:=omega))|(intro _)
          all_goals (refine hK _ ?_;clear hK K)
          all_goals
           refine zbn ?_
           refine AW_x rfl rfl λK hK=>?_
           simp (disch:=omega)
           repeat' first|(refine ⟨by omega,?_⟩)|(simp (disch:=omega))|(intro _)
           refine hK _ ?_;clear hK K
           refine zbp (zb0 [192] [] (by simp [zG16,List.range_succ]) (by simp) ?_)
           simp (disch:=omega)
           have ⟨h1,h2⟩:=set_6 hk hc7 hc8 hc9 hc10;rw [hS,hR,h1,h2];exact ⟨rfl,rfl,rfl⟩
end Go.Proofs.Ytodmafgmdlkhoaa.Vs
end
section
namespace Go.Proofs.Ytodmafgmdlkhoaa.Vs
set_option linter.all false
set_option maxRecDepth 100000
set_option maxHeartbeats 1000000
theorem zxs(z:Int)(h0:0≤z)(h:z<10):PCall Try.prog 97 [(.g (.int .i64 (z)))] (.s (digN z.toNat)):=by
 have:=specDec z.toNat (by omega)
 rwa [show ((z.toNat:Nat):Int)=z by omega] at this
theorem take_del{α:Type}(A:List α){n:Nat}(k:Nat)(h:A.length=n):List.take k (List.take k A)++List.take (n-(k+1)) (List.drop (k+1) A)=List.take k A++List.drop (k+1) A:=by rw [List.take_take,Nat.min_self,List.take_of_length_le (l:=List.drop (k+1) A) (by simp;omega)]
theorem zjr(l:List DtCSet)(k:Nat)(hk:k<l.length):l.set k { fName:=l[k].fName,fSnaps:=l[k].fSnaps }=l:=List.set_getElem_self hk
attribute [local simp] DtCatalog.cells DtCmd.cells DtCSet.cells zbl List.set_set List.getD_eq_getElem?_getD and_assoc zcf zca
theorem l15SetX(l:List DtCSet)(hl:l.length≤1048576)(k:Nat)(hk:k<l.length)(m:DtCmd)(h5:l[k].fSnaps.length≤5)(hrd:(spc (tldL l[k])).length≤1073741824)(hN0:m.fKind=5→0≤m.fN∧m.fN≤9)(hch:m.fChunks.length≤1048576):XCall Try.prog 75 [.agg [.arr 8 0 l.length],(.g (.int .i64 ((k:Nat)))),.agg (DtCmd.cells m)] [.own 2 (l.map DtCSet.cells)] (.tup [.agg [.arr 16 0 (setS l k m).length],.s (setR l k m)]) [.dead] [.own 2 ((setS l k m).map DtCSet.cells)]:=by
 refine zbs Try.func75 (by rfl) (by rfl) (by rw [Try.ntmps75];exact Nat.le_of_ble_eq_true rfl) rfl (by simp) rfl rfl ?_
 rw [Try.ntmps75]
 refine zhl (.own 2 (l.map DtCSet.cells)) (by simp [cvO]<;>assumption) ?_
 refine AW_k [(0,_),(1,_),(2,_)] ⟨rfl,rfl,rfl,trivial⟩ ?_
 refine zgm 8 901 902 k hk (by simp [zG16]) (by simp [zG16]) (by simp [zG16]) (by decide) (by decide) (by decide) λzs hz=>?_
 have hkz:k<zs.length:=by rw [←hz] at hk;simpa using hk
 have hset:=@ztb zs k hkz
 refine AW_x rfl rfl λK hK=>?_
 simp (disch:=omega) [hset]
 repeat' first|(refine ⟨by omega,?_⟩)|(intro _)
 refine hK _ ?_;clear hK K
 refine AW_x rfl rfl λK hK=>?_
 simp (disch:=omega) [hset]
 repeat' first|(refine ⟨by omega,?_⟩)|(simp (disch:=omega) [hset])|(intro _)
 refine hK _ ?_;clear hK K
 refine AW_x rfl rfl λK hK=>?_
 simp (disch:=omega) [hset]
 repeat' first|(exfalso;omega)|(refine zc6 (zbe (zb6 rfl) (zbe zgs zbo)) (zwe l[k] m.fName (by omega)) rfl ?_;simp (disch:=omega) [hset])|(refine zc7 (zwe l[k] m.fName (by omega)) (by rfl) ?_ ?_;(focus (simp (disch:=omega) [hset,zbl];done));simp (disch:=omega) [hset])|(refine ⟨by omega,?_⟩)|(simp (disch:=omega) [hset])|(intro _)
 refine hK _ ?_;clear hK K
 refine zbi ?_
 refine AW_x rfl rfl λK hK=>?_
 simp (disch:=omega) [hset]
 repeat' first|(refine ⟨by omega,?_⟩)|(intro _)
 refine hK _ ?_;clear hK K
 refine zbm ?_
 refine AW_x rfl rfl λK hK=>?_
 simp (disch:=omega) [hset]
 repeat' first|(refine ⟨by omega,?_⟩)|(intro _)
 refine hK _ ?_;clear hK K
 refine zbh rfl (λhc1=>?_) (λhc1=>?_)
 ·try simp [zG17,zbc,zbb] at hc1
  all_goals
   refine zcp 8 901 902 k hz hk l[k].fName l[k].fSnaps (by simp [zG16]) (by simp [zG16]) (by simp [zG16]) (by decide) (by decide) (by decide) ?_
   rw [zjr l k hk]
   refine zd5 (us:=l) 8 903 (by simp [zG16]) (by simp [zG16]) λzs2 hz2 hone=>?_
   have hzl2:zs2.length=l.length:=by rw [←hz2];simp
   refine AW_x rfl rfl λK hK=>?_
   simp (disch:=omega) [hset]
   repeat' first|(exfalso;omega)|(refine ⟨λ_=>?_,λ_=>?_⟩)|(refine ⟨by omega,?_⟩)|(simp (disch:=omega) [hset])|(intro _)
   all_goals (refine hK _ ?_;clear hK K)
   all_goals
    refine AW_x rfl rfl λK hK=>?_
    simp (disch:=omega) [hset]
    repeat' first|(refine ⟨by omega,?_⟩)|(simp (disch:=omega) [hset])|(intro _)
    refine hK _ ?_;clear hK K
    refine zda (zh5 (ks:=zs2.take k++zs2.drop (k+1)) (zs:=zs2) 640 903 (by simp [zG16];exact take_del _ k (by rw [List.length_map,hzl2])) (by simp [zG16]) (zwj zs2 k)) ?_
    rw [del_c hz2 k]
    refine AW_x rfl rfl λK hK=>?_
    simp (disch:=omega) [hset]
    repeat' first|(refine ⟨by omega,?_⟩)|(simp (disch:=omega) [hset])|(intro _)
    refine hK _ ?_;clear hK K
    refine zbp (zb0 [640] [] (by simp [zG16,List.range_succ]) (by simp) ?_)
    simp (disch:=omega) [hset]
    have ⟨h1,h2⟩:=@set_2 l k m hc1;rw [h1,h2];exact ⟨by simp;omega,rfl,by simp⟩
 try simp [zG17,zbc,zbb] at hc1
 refine AW_x rfl rfl λK hK=>?_
 simp (disch:=omega) [hset]
 repeat' first|(exfalso;omega)|(refine ⟨λ_=>?_,λ_=>?_⟩)|(refine ⟨by omega,?_⟩)|(simp (disch:=omega) [hset])|(intro _)
 all_goals (refine hK _ ?_;clear hK K)
 all_goals
  refine zbh rfl (λhc2=>?_) (λhc2=>?_)
  ·try simp [zG17,zbc,zbb] at hc2
   all_goals
    refine zbi ?_
    refine AW_x rfl rfl λK hK=>?_
    simp (disch:=omega) [hset]
    repeat' first|(exfalso;omega)|(refine ⟨λ_=>?_,λ_=>?_⟩)|(refine ⟨by omega,?_⟩)|(simp (disch:=omega) [hset])|(intro _)
    all_goals (refine hK _ ?_;clear hK K)
    all_goals
     refine zbh rfl (λhc3=>?_) (λhc3=>?_)
     ·try simp [zG17,zbc,zbb] at hc3
      all_goals
       refine zcp 8 901 902 k hz hk l[k].fName l[k].fSnaps (by simp [zG16]) (by simp [zG16]) (by simp [zG16]) (by decide) (by decide) (by decide) ?_
       rw [zjr l k hk]
       refine AW_x rfl rfl λK hK=>?_
       simp (disch:=omega) [hset]
       repeat' first|(exfalso;omega)|(refine ⟨λ_=>?_,λ_=>?_⟩)|(refine ⟨by omega,?_⟩)|(simp (disch:=omega) [hset])|(intro _)
       all_goals (refine hK _ ?_;clear hK K)
       all_goals
        refine zbp (zb0 [8] [] (by simp [zG16,List.range_succ]) (by simp) ?_)
        simp (disch:=omega) [hset]
        have ⟨h1,h2⟩:=set_3 hk hc2;have ⟨h3,h4⟩:=com_e hc3;rw [h1,h2,h3,h4];exact ⟨by simp,rfl,by rw [List.set_getElem_self]⟩
     try simp [zG17,zbc,zbb] at hc3
     refine zbj ?_
     refine zbn ?_
     refine zbi ?_
     refine AW_x rfl rfl λK hK=>?_
     simp (disch:=omega) [hset]
     repeat' first|(exfalso;omega)|(refine ⟨λ_=>?_,λ_=>?_⟩)|(refine ⟨by omega,?_⟩)|(simp (disch:=omega) [hset])|(intro _)
     all_goals (refine hK _ ?_;clear hK K)
     all_goals
      refine zbh rfl (λhc4=>?_) (λhc4=>?_)
      ·try simp [zG17,zbc,zbb] at hc4
       all_goals
        refine zcp 8 901 902 k hz hk l[k].fName l[k].fSnaps (by simp [zG16]) (by simp [zG16]) (by simp [zG16]) (by decide) (by decide) (by decide) ?_
        rw [zjr l k hk]
        refine AW_x rfl rfl λK hK=>?_
        simp (disch:=omega) [hset]
        repeat' first|(exfalso;omega)|(refine ⟨λ_=>?_,λ_=>?_⟩)|(refine ⟨by omega,?_⟩)|(simp (disch:=omega) [hset])|(intro _)
        all_goals (refine hK _ ?_;clear hK K)
        all_goals
         refine zbp (zb0 [8] [] (by simp [zG16,List.range_succ]) (by simp) ?_)
         simp (disch:=omega) [hset]
         have ⟨h1,h2⟩:=set_3 hk hc2;have ⟨h3,h4⟩:=com_f hc3 (by omega);rw [h1,h2,h3,h4];exact ⟨by simp,rfl,by rw [List.set_getElem_self]⟩
      try simp [zG17,zbc,zbb] at hc4
      refine zbj ?_
      refine zbn ?_
      refine zf6 (us:=l[k].fSnaps) 902 903 (by simp [zG16]) (by simp [zG16]) λys hys hone=>?_
      have hyl:ys.length=l[k].fSnaps.length:=by rw [←hys];simp
      refine AW_x rfl rfl λK hK=>?_
      simp (disch:=omega) [hset]
      repeat' first|(exfalso;omega)|(refine ⟨λ_=>?_,λ_=>?_⟩)|(refine ⟨by omega,?_⟩)|(simp (disch:=omega) [hset])|(intro _)
      all_goals (refine hK _ ?_;clear hK K)
      all_goals
       refine zda (zlk (ks:=ys) (zs:=ys) 896 903 (by simp [zG16,List.take_of_length_le,hyl]) (by simp [zG16]) (List.Sublist.refl _)) ?_
       have hsn:(ys.map λz=>DtCSnap.cells z.1)=l[k].fSnaps.map DtCSnap.cells:=by rw [←hys,List.map_map];rfl
       rw [hsn]
       refine AW_d rfl mix (by kernel_rfl) (by kernel_rfl) λK hK=>?_
       simp (disch:=omega) [hset]
       repeat' first|(refine ⟨by omega,?_⟩)|(simp (disch:=omega) [hset])|(intro _)
       refine hK _ _ (by kernel_rfl) ?_;clear hK K
       refine zcp 8 901 1104 k hz hk l[k].fName (l[k].fSnaps++[{ fName:=m.fName,fTag:=[],fChunks:=m.fChunks }]) (by simp [zG16,hyl]) (by simp [zG16]) (by simp [zG16,DtCSnap.cells]) (by decide) (by decide) (by decide) ?_
       refine AW_x rfl rfl λK hK=>?_
       simp (disch:=omega) [hset]
       repeat' first|(refine ⟨by omega,?_⟩)|(simp (disch:=omega) [hset])|(intro _)
       refine hK _ ?_;clear hK K
       refine zbp (zb0 [8] [] (by simp [zG16,List.range_succ]) (by simp) ?_)
       simp (disch:=omega) [hset]
       have ⟨h1,h2⟩:=set_3 hk hc2;have ⟨h3,h4⟩:=com_k hc3 (by omega);rw [h1,h2,h3,h4];exact ⟨by simp,rfl,by simp [DtCSet.cells,DtCSnap.cells]⟩
  try simp [zG17,zbc,zbb] at hc2
  refine AW_x rfl rfl λK hK=>?_
  simp (disch:=omega) [hset]
  repeat' first|(exfalso;omega)|(refine ⟨λ_=>?_,λ_=>?_⟩)|(refine ⟨by omega,?_⟩)|(simp (disch:=omega) [hset])|(intro _)
  all_goals (refine hK _ ?_;clear hK K)
  all_goals
   refine zbh rfl (λhc5=>?_) (λhc5=>?_)
   ·try simp [zG17,zbc,zbb] at hc5
    all_goals
     refine zbi ?_
     refine AW_x rfl rfl λK hK=>?_
     simp (disch:=omega) [hset]
     repeat' first|(exfalso;omega)|(refine ⟨λ_=>?_,λ_=>?_⟩)|(refine ⟨by omega,?_⟩)|(simp (disch:=omega) [hset])|(intro _)
     all_goals (refine hK _ ?_;clear hK K)
     all_goals
      refine zbh rfl (λhc6=>?_) (λhc6=>?_)
      ·try simp [zG17,zbc,zbb] at hc6
       all_goals
        refine zcp 8 901 902 k hz hk l[k].fName l[k].fSnaps (by simp [zG16]) (by simp [zG16]) (by simp [zG16]) (by decide) (by decide) (by decide) ?_
        rw [zjr l k hk]
        refine AW_x rfl rfl λK hK=>?_
        simp (disch:=omega) [hset]
        repeat' first|(exfalso;omega)|(refine ⟨λ_=>?_,λ_=>?_⟩)|(refine ⟨by omega,?_⟩)|(simp (disch:=omega) [hset])|(intro _)
        all_goals (refine hK _ ?_;clear hK K)
        all_goals
         refine zbp (zb0 [8] [] (by simp [zG16,List.range_succ]) (by simp) ?_)
         simp (disch:=omega) [hset]
         have ⟨h1,h2⟩:=set_4 hk hc5;have ⟨h3,h4⟩:=tag_n hc6;rw [h1,h2,h3,h4];exact ⟨by simp,rfl,by rw [List.set_getElem_self]⟩
      try simp [zG17,zbc,zbb] at hc6
      refine zbj ?_
      refine zbn ?_
      have hj:=zm9 (λp=>eqB p.fName m.fName) l[k].fSnaps (by have h:=hc6;unfold findN at h;omega)
      change (findN l[k].fSnaps m.fName).toNat<l[k].fSnaps.length at hj
      refine AW_d rfl mix (by kernel_rfl) (by kernel_rfl) λK hK=>?_
      simp (disch:=omega) [hset]
      repeat' first|(exfalso;omega)|(refine ⟨λ_=>?_,λ_=>?_⟩)|(refine ⟨by omega,?_⟩)|(simp (disch:=omega) [hset])|(intro _)
      all_goals (refine hK _ _ (by kernel_rfl) ?_;clear hK K)
      all_goals
       refine zcp 8 901 902 k hz hk l[k].fName (l[k].fSnaps.set (findN l[k].fSnaps m.fName).toNat { l[k].fSnaps[(findN l[k].fSnaps m.fName).toNat] with fTag:=m.fTag }) (by simp [zG16,List.length_set]) (by simp [zG16]) (by simp [zG16,DtCSnap.cells]) (by decide) (by decide) (by decide) ?_
       refine AW_x rfl rfl λK hK=>?_
       simp (disch:=omega) [hset]
       repeat' first|(refine ⟨by omega,?_⟩)|(simp (disch:=omega) [hset])|(intro _)
       refine hK _ ?_;clear hK K
       refine zbp (zb0 [8] [] (by simp [zG16,List.range_succ]) (by simp) ?_)
       simp (disch:=omega) [hset]
       have ⟨h1,h2⟩:=set_4 hk hc5;have ⟨h3,h4⟩:=tag_k hc6 hj;rw [h1,h2,h3,h4];exact ⟨by simp,rfl,by simp [DtCSet.cells,DtCSnap.cells]⟩
   try simp [zG17,zbc,zbb] at hc5
   refine AW_x rfl rfl λK hK=>?_
   simp (disch:=omega) [hset]
   repeat' first|(exfalso;omega)|(refine ⟨λ_=>?_,λ_=>?_⟩)|(refine ⟨by omega,?_⟩)|(simp (disch:=omega) [hset])|(intro _)
   all_goals (refine hK _ ?_;clear hK K)
   all_goals
    refine zbh rfl (λhc7=>?_) (λhc7=>?_)
    ·try simp [zG17,zbc,zbb] at hc7
     all_goals
      have hN:=hN0 hc7
      refine AW_x rfl rfl λK hK=>?_
      simp (disch:=omega) [hset]
      repeat' first|(exfalso;omega)|(refine zdh [902] true [] (l15PruneX l[k].fSnaps (by omega) m.fN hN.1 (by omega)) ?_ ?_ ?_;(focus (simp [List.range_succ,nmC];done));(focus (simp (disch:=omega) [hset,zbl];done));simp (disch:=omega) [hset])|(refine ⟨λ_=>?_,λ_=>?_⟩)|(refine ⟨by omega,?_⟩)|(simp (disch:=omega) [hset])|(intro _)
      all_goals (refine hK _ ?_;clear hK K)
      all_goals
       refine AW_x rfl rfl λK hK=>?_
       simp (disch:=omega) [hset]
       repeat' first|(refine ⟨by omega,?_⟩)|(simp (disch:=omega) [hset])|(intro _)
       refine hK _ ?_;clear hK K
       refine zcp 8 901 1552 k hz hk l[k].fName (pruS l[k] m.fN).fSnaps (by simp [zG16,pruS]) (by simp [zG16]) (by simp [zG16,pruS]) (by decide) (by decide) (by decide) ?_
       refine AW_d rfl mix (by kernel_rfl) (by kernel_rfl) λK hK=>?_
       simp (disch:=omega) [hset]
       repeat' first|(exfalso;omega)|(refine zkd (λst'=>(zbe zcl zbo)) (zxs (goneN l[k].fSnaps m.fN) (znb l[k].fSnaps m.fN h5 hN.1).1 (by have:=(znb l[k].fSnaps m.fN h5 hN.1).2.1;omega)) rfl ?_;simp (disch:=omega) [hset])|(refine zke (zxs (goneN l[k].fSnaps m.fN) (znb l[k].fSnaps m.fN h5 hN.1).1 (by have:=(znb l[k].fSnaps m.fN h5 hN.1).2.1;omega)) (by rfl) (λst' hst=>?_) ?_;(focus (simp (disch:=omega) [hset] at hst;simp (disch:=omega) [hset,hst,zbl];done));simp (disch:=omega) [hset])|(refine ⟨by omega,?_⟩)|(simp (disch:=omega) [hset])|(intro _)
       refine hK _ _ (by kernel_rfl) ?_;clear hK K
       refine zbp (zb0 [8] [] (by simp [zG16,List.range_succ]) (by simp) ?_)
       simp (disch:=omega) [hset]
       have ⟨h1,h2⟩:=set_5 hk hc7;rw [h1,h2];exact ⟨by simp,rfl,by simp [DtCSet.cells,pruS]⟩
    try simp [zG17,zbc,zbb] at hc7
    refine zbj ?_
    refine zbn ?_
    refine AW_d rfl mix (by kernel_rfl) (by kernel_rfl) λK hK=>?_
    simp (disch:=omega) [hset]
    repeat' first|(exfalso;omega)|(refine zkd (λst'=>(zbe (zb6 rfl) zbo)) (l15Read l[k] (by omega) hrd) rfl ?_;simp (disch:=omega) [hset])|(refine zke (l15Read l[k] (by omega) hrd) (by rfl) (λst' hst=>?_) ?_;(focus (simp (disch:=omega) [hset] at hst;simp (disch:=omega) [hset,hst,zbl];done));simp (disch:=omega) [hset])|(refine ⟨λ_=>?_,λ_=>?_⟩)|(refine ⟨by omega,?_⟩)|(simp (disch:=omega) [hset])|(intro _)
    all_goals (refine hK _ _ (by kernel_rfl) ?_;clear hK K)
    all_goals
     refine zcp 8 901 902 k hz hk l[k].fName l[k].fSnaps (by simp [zG16]) (by simp [zG16]) (by simp [zG16]) (by decide) (by decide) (by decide) ?_
     rw [zjr l k hk]
     refine zbp (zb0 [8] [] (by simp [zG16,List.range_succ]) (by simp) ?_)
     simp (disch:=omega) [hset]
     have ⟨h1,h2⟩:=set_6 hk hc1 hc2 hc5 hc7;rw [h1,h2];exact ⟨rfl,rfl,rfl⟩
end Go.Proofs.Ytodmafgmdlkhoaa.Vs
end
