import Derived.Test.YtodmafgmdlkhoaaDoorSM3
import Derived.Test.YtodmafgmdlkhoaaDoorVs9
import Derived.Test.YtodmafgmdlkhoaaDoorSM1
section
namespace Go.Proofs.YtodmafgmdlkhoaaDoor.Vs
set_option linter.all false
set_option maxRecDepth 100000
set_option maxHeartbeats 2000000
attribute [local simp] DtState.cells DtCatalog.cells DtSaid.cells DtCmd.cells zbv and_assoc zc3 List.range_succ newS
def zG9:=And.intro @zbr (And.intro @zbz @zce)
def zG10:=And.intro @List.range_succ (And.intro @zbr @zbz)
theorem zvu(s:DtState)(m:DtCmd)(hs:DtState.sz s≤1048576)(hm:DtCmd.sz m≤1048576):XCall Tryd.prog 56 [.agg (DtState.cells s),.agg (DtCmd.cells m)] [] (.tup [.agg [.arr 16 0 (stC s m).fCat.fSets.length,.arr 17 0 (stC s m).fSaid.length],.s (stR s m)]) [] [.own 2 ((stC s m).fCat.fSets.map DtCSet.cells),.own 3 ((stC s m).fSaid.map DtSaid.cells)]:=by
 have ⟨hz,hl⟩:=zkg s hs
 refine zbq Tryd.func56 (by rfl) (by rfl) (by rw [Tryd.ntmps56];exact Nat.le_of_ble_eq_true rfl) rfl (by simp) rfl rfl ?_
 rw [Tryd.ntmps56]
 refine zdk   ?_
 refine AW_k [(0,_),(1,_)] ⟨rfl,rfl,trivial⟩ ?_
 refine AW_x rfl rfl λK hK=>?_
 simp (disch:=omega)
 refine hK _ ?_;clear hK K
 refine zbe ?_
 refine AW_x rfl rfl λK hK=>?_
 simp (disch:=omega)
 repeat' first|(refine zf1 (zbf (zcn rfl) zbn) (zdz s (by omega)) rfl ?_;simp (disch:=omega)) | fail
 refine hK _ ?_;clear hK K
 refine zbg rfl (λhc1=>?_) (λhc1=>?_)
 ·try simp [zbk,zbl,zbc,zba] at hc1
  refine AW_x rfl rfl λK hK=>?_
  simp (disch:=omega)
  refine hK _ ?_;clear hK K
  refine zbo (zb7 [1000,1001] [(1000,2),(1001,3)] (by simp [zG9,List.range_succ]) (by simp) ?_)
  simp (disch:=omega)
  exact sd_f hc1
 ·try simp [zbk,zbl,zbc,zba] at hc1
  refine zbh ?_
  refine zbm ?_
  refine AW_x rfl rfl λK hK=>?_
  simp (disch:=omega)
  repeat' first|(refine zch [] true [] (l16CopyX s hs) ?_ ?_ ?_;(focus (simp [List.range_succ,nmC];done));(focus (simp (disch:=omega) [zbv];done));simp (disch:=omega)) | fail
  refine hK _ ?_;clear hK K
  refine zbe ?_
  refine AW_x rfl rfl λK hK=>?_
  simp (disch:=omega)
  repeat' first|(refine zf1 (zbf (zcn rfl) zbn) (zsf m (by omega)) rfl ?_;simp (disch:=omega))|(refine ⟨λ_=>?_,λ_=>?_⟩) | fail
  all_goals (refine hK _ ?_;clear hK K)
  all_goals
   refine zbg rfl (λhc2=>?_) (λhc2=>?_)
   ·try simp [zbk,zbl,zbc,zba] at hc2
    all_goals
     refine AW_x rfl rfl λK hK=>?_
     simp (disch:=omega)
     all_goals (refine hK _ ?_;clear hK K)
     all_goals
      refine zbo (zb7 [256,257] [] (by simp [zG9,List.range_succ]) (by simp) ?_)
      simp (disch:=omega)
      all_goals exact zvt (st_m hc1 (by simp_all [zbk,zbl]))
   ·try simp [zbk,zbl,zbc,zba] at hc2
    all_goals
     refine zbh ?_
     refine zbm ?_
     refine zbe ?_
     refine AW_x rfl rfl λK hK=>?_
     simp (disch:=omega)
     refine hK _ ?_;clear hK K
     refine zbi ?_
     refine zbt (λmM sS=>∃(i:Nat),mM=s.fSaid.length-i∧(i≤s.fSaid.length∧∀j (hj:j<s.fSaid.length),j<i→s.fSaid[j].fClient=m.fClient→s.fSaid[j].fNo<m.fNo)∧sS = { env:=lkE [(2,.ptr 48 0),(3,.ptr 64 0),(4,.ptr 80 0),(5,.s []),(6,.ptr 112 0),(7,(.g (.int .i64 ((i:Nat)))))],ob:=lk [(48,.cells (DtState.cells s)),(64,.cells (DtCmd.cells m)),(80,.cells [.g (.slice none 0 0),.g (.slice none 0 0)]),(112,.cells [.arr 256 0 s.fCat.fSets.length,.arr 257 0 s.fSaid.length]),(256,.own 2 (s.fCat.fSets.map DtCSet.cells)),(257,.own 3 (s.fSaid.map DtSaid.cells))] }) ?_ ?_
     ·refine ⟨_,LeS.kx [(48,48),(64,64),(80,80),(112,112),(256,256),(257,257)] [(2,.ptr 48 0),(3,.ptr 64 0),(4,.ptr 80 0),(5,.s []),(6,.ptr 112 0),(7,(.g (.int .i64 (((0):Nat)))))] [(48,.cells (DtState.cells s)),(64,.cells (DtCmd.cells m)),(80,.cells [.g (.slice none 0 0),.g (.slice none 0 0)]),(112,.cells [.arr 256 0 s.fCat.fSets.length,.arr 257 0 s.fSaid.length]),(256,.own 2 (s.fCat.fSets.map DtCSet.cells)),(257,.own 3 (s.fSaid.map DtSaid.cells))] (by simp [zG9,KpR,renV2,renV,zbj,DtState.cells,DtCatalog.cells,DtCmd.cells,List.range_succ];trace_state) (by simp [zG9,KpOX,renO,plO,cvO,renV,pl1,DtState.cells,DtCatalog.cells,DtCmd.cells,List.range_succ];trace_state) (by rfl) (by simp) (by simp) (by rfl) (by simp [zG10,formsX]),_,0,rfl,?_,rfl⟩
      ·exact ⟨by omega,λj hj h=>by omega⟩
     ·rintro mM sS ⟨i,rfl,⟨hi,hpre⟩,rfl⟩
      refine zbe ?_
      refine AW_x rfl rfl λK hK=>?_
      simp (disch:=omega)
      refine hK _ ?_;clear hK K
      refine zbg rfl (λhc3=>?_) (λhc3=>?_)
      ·try simp [zbk,zbl,zbc,zba] at hc3
       have hg:s.fSaid[i]? = some s.fSaid[i]:=List.getElem?_eq_getElem (by omega)
       refine zbh ?_
       refine zbm ?_
       refine zbe ?_
       refine zbi ?_
       refine zbe ?_
       refine AW_d rfl mix (by kernel_rfl) (by kernel_rfl) λK hK=>?_
       simp (disch:=omega)
       repeat' first|(refine ⟨by omega,?_⟩) | fail
       refine hK _ _ (by kernel_rfl) ?_;clear hK K
       refine zbg rfl (λhc4=>?_) (λhc4=>?_)
       ·try simp [zbk,zbl,zbc,zba] at hc4
        refine zbw ?_
        refine zbm ?_
        refine zb4 rfl rfl λK hK=>?_
        simp (disch:=omega)
        refine hK _ ?_;clear hK K
        refine ⟨_,LeS.kx [(48,48),(64,64),(80,80),(112,112),(256,256),(257,257)] [(2,.ptr 48 0),(3,.ptr 64 0),(4,.ptr 80 0),(5,.s []),(6,.ptr 112 0),(7,(.g (.int .i64 (((i+1):Nat)))))] [(48,.cells (DtState.cells s)),(64,.cells (DtCmd.cells m)),(80,.cells [.g (.slice none 0 0),.g (.slice none 0 0)]),(112,.cells [.arr 256 0 s.fCat.fSets.length,.arr 257 0 s.fSaid.length]),(256,.own 2 (s.fCat.fSets.map DtCSet.cells)),(257,.own 3 (s.fSaid.map DtSaid.cells))] (by simp [zG9,KpR,renV2,renV,zbj,DtState.cells,DtCatalog.cells,DtCmd.cells,List.range_succ];trace_state) (by simp [zG9,KpOX,renO,plO,cvO,renV,pl1,DtState.cells,DtCatalog.cells,DtCmd.cells,List.range_succ];trace_state) (by rfl) (by simp) (by simp) (by rfl) (by simp [zG10,formsX]),_,?_,i+1,rfl,?_,rfl⟩
        ·omega
        ·refine ⟨by omega,λj hj h e=>?_⟩
         by_cases hji:j=i
         ·subst hji;omega
         ·exact hpre j hj (by omega) e
       ·try simp [zbk,zbl,zbc,zba] at hc4
        refine zbh ?_
        refine zbm ?_
        refine zbe ?_
        refine AW_d rfl mix (by kernel_rfl) (by kernel_rfl) λK hK=>?_
        simp (disch:=omega)
        repeat' first|(refine ⟨by omega,?_⟩) | fail
        refine hK _ _ (by kernel_rfl) ?_;clear hK K
        refine zbg rfl (λhc5=>?_) (λhc5=>?_)
        ·try simp [zbk,zbl,zbc,zba] at hc5
         refine AW_d rfl mix (by kernel_rfl) (by kernel_rfl) λK hK=>?_
         simp (disch:=omega)
         repeat' first|(refine ⟨by omega,?_⟩) | fail
         refine hK _ _ (by kernel_rfl) ?_;clear hK K
         refine zbo (zb7 [256,257] [] (by simp [zG9,List.range_succ]) (by simp) ?_)
         simp (disch:=omega)
         exact zvt (st_eqi hc1 (by simp_all [zbk,zbl]) (by simp_all [zbk,zbl]) (by assumption) (by assumption) (by assumption))
        ·try simp [zbk,zbl,zbc,zba] at hc5
         refine zbh ?_
         refine zbm ?_
         refine AW_d rfl mix (by kernel_rfl) (by kernel_rfl) λK hK=>?_
         simp (disch:=omega)
         repeat' first|(refine ⟨by omega,?_⟩) | fail
         refine hK _ _ (by kernel_rfl) ?_;clear hK K
         refine zbg rfl (λhc6=>?_) (λhc6=>?_)
         ·try simp [zbk,zbl,zbc,zba] at hc6
          refine AW_x rfl rfl λK hK=>?_
          simp (disch:=omega)
          refine hK _ ?_;clear hK K
          refine zbo (zb7 [256,257] [] (by simp [zG9,List.range_succ]) (by simp) ?_)
          simp (disch:=omega)
          exact zvt (st_oldi hc1 (by simp_all [zbk,zbl]) (by simp_all [zbk,zbl]) (by assumption) (by assumption) (by assumption))
         ·try simp [zbk,zbl,zbc,zba] at hc6
          refine zbh ?_
          refine zbm ?_
          refine zb4 rfl rfl λK hK=>?_
          simp (disch:=omega)
          refine hK _ ?_;clear hK K
          refine ⟨_,LeS.kx [(48,48),(64,64),(80,80),(112,112),(256,256),(257,257)] [(2,.ptr 48 0),(3,.ptr 64 0),(4,.ptr 80 0),(5,.s []),(6,.ptr 112 0),(7,(.g (.int .i64 (((i+1):Nat)))))] [(48,.cells (DtState.cells s)),(64,.cells (DtCmd.cells m)),(80,.cells [.g (.slice none 0 0),.g (.slice none 0 0)]),(112,.cells [.arr 256 0 s.fCat.fSets.length,.arr 257 0 s.fSaid.length]),(256,.own 2 (s.fCat.fSets.map DtCSet.cells)),(257,.own 3 (s.fSaid.map DtSaid.cells))] (by simp [zG9,KpR,renV2,renV,zbj,DtState.cells,DtCatalog.cells,DtCmd.cells,List.range_succ];trace_state) (by simp [zG9,KpOX,renO,plO,cvO,renV,pl1,DtState.cells,DtCatalog.cells,DtCmd.cells,List.range_succ];trace_state) (by rfl) (by simp) (by simp) (by rfl) (by simp [zG10,formsX]),_,?_,i+1,rfl,?_,rfl⟩
          ·omega
          ·refine ⟨by omega,λj hj h e=>?_⟩
           by_cases hji:j=i
           ·subst hji;omega
           ·exact hpre j hj (by omega) e
      ·try simp [zbk,zbl,zbc,zba] at hc3
       have hpg:putG (newS m (catR s.fCat m)) false s.fSaid=putL (newS m (catR s.fCat m)) s.fSaid:=putG_L _ _ (zlh hc1)
       have hgo:=st_go hc1 (by simp_all [zbk,zbl]) (by simp_all [zbk,zbl]) (λj hj e=>hpre j hj (by omega) e)
       refine zbw ?_
       refine zbm ?_
       refine AW_x rfl rfl λK hK=>?_
       simp (disch:=omega)
       repeat' first|(refine zch [] true [] (specCatC s.fCat m hz hm) ?_ ?_ ?_;(focus (simp [List.range_succ,nmC];done));(focus (simp (disch:=omega) [zbv];done));simp (disch:=omega)) | fail
       refine hK _ ?_;clear hK K
       refine AW_x rfl rfl λK hK=>?_
       simp (disch:=omega)
       refine hK _ ?_;clear hK K
       refine AW_x rfl rfl λK hK=>?_
       simp (disch:=omega)
       repeat' first|(refine zch [] true [] (l16PutX s.fSaid hl (newS m (catR s.fCat m))) ?_ ?_ ?_;(focus (simp [List.range_succ,nmC];done));(focus (simp (disch:=omega) [zbv];done));simp (disch:=omega)) | fail
       refine hK _ ?_;clear hK K
       refine AW_x rfl rfl λK hK=>?_
       simp (disch:=omega)
       refine hK _ ?_;clear hK K
       refine zbo (zb7 [1152,1360] [] (by simp [zG9,List.range_succ]) (by simp) ?_)
       simp (disch:=omega)
       (simp only [newS] at hpg;rw [hgo.1,hgo.2,hpg];exact ⟨rfl,rfl,rfl,rfl,rfl⟩)
end Go.Proofs.YtodmafgmdlkhoaaDoor.Vs
end
section
namespace Go.Proofs.YtodmafgmdlkhoaaDoor.Vs
set_option linter.all false
/-! states in a row of commands -/
theorem catR_len(c:DtCatalog)(m:DtCmd):(catR c m).length≤200:=by
 by_cases h:CatP c
 ·by_cases hm:CmdP m
  ·have hsets:∀k (hk:k<c.fSets.length),SetP c.fSets[k]:=λk hk=>(h.2 k _ (List.getElem?_eq_getElem hk)).1
   by_cases h0:m.fKind=0
   ·rw [(cat_0 h hm h0).2];simp
   ·by_cases h1:m.fKind=1
    ·rw [(cat_1 h hm h1).2];unfold creR;(repeat' split)<;>decide
    ·by_cases h7:m.fKind=7
     ·rw [(cat_7 h hm h7).2]
      have:=zxa 8 (namL c.fSets) λx hx=>by
       obtain ⟨s,hs',rfl⟩:=List.mem_map.1 hx
       obtain ⟨k,hk,rfl⟩:=List.getElem_of_mem hs'
       exact (hsets k hk).1.2.1
      rw [zqh] at this
      have:=h.1
      omega
     ·by_cases hf:findS c.fSets m.fSet<0
      ·rw [(cat_n h hm h0 h1 h7 hf).2];decide
      ·obtain ⟨k,hkz⟩:=Int.eq_ofNat_of_zero_le (Int.not_lt.1 hf)
       have hk:=zqj hkz
       rw [(cat_k h hm h0 h1 h7 hkz).2]
       by_cases h2:m.fKind=2
       ·rw [(set_2 h2).2];decide
       ·by_cases h3:m.fKind=3
        ·rw [(zz1 hk h3).2];unfold comR;(repeat' split)<;>decide
        ·by_cases h4:m.fKind=4
         ·rw [(set_4 hk h4).2];unfold tagR;split<;>decide
         ·by_cases h5:m.fKind=5
          ·rw [(set_5 hk h5).2];simp [digN]
          ·rw [(set_6 hk h2 h3 h4 h5).2]
           have:=zxa 17 (tldL c.fSets[k]) λx hx=>by
            obtain ⟨p,hp,rfl⟩:=List.mem_map.1 hx
            obtain ⟨j,hj,rfl⟩:=List.getElem_of_mem hp
            have h3:=((hsets k hk).2.2 j _ (List.getElem?_eq_getElem hj)).1
            have ha:(c.fSets[k].fSnaps[j]).fName.length≤8:=by grind [SnapP,Word]
            have hb:(c.fSets[k].fSnaps[j]).fTag.length≤8:=by grind [SnapP,Word]
            simp only [List.length_append,List.length_cons]
            omega
           have h4:=(hsets k hk).2.1
           have h5:(tldL c.fSets[k]).length=c.fSets[k].fSnaps.length:=by simp [tldL]
           rw [h5] at this
           omega
  ·rw [(cat_m h hm).2];simp
 ·rw [(cat_f h).2];simp
def SaidW(x:DtSaid):Prop:=1≤x.fClient∧x.fClient≤9∧1≤x.fNo∧x.fNo≤1000
theorem stateP_of{s:DtState}(h1:CatP s.fCat)(h2:∀x∈s.fSaid,SaidW x)(h3:Cl s.fSaid):StateP s:=by
 refine ⟨h1,λi x hx=>?_⟩
 obtain ⟨hi,rfl⟩:=List.getElem?_eq_some_iff.1 hx
 obtain ⟨a,b,c,d⟩:=h2 _ (List.getElem_mem hi)
 refine ⟨a,b,c,d,λy h0 hy=>?_⟩
 obtain ⟨hj,rfl⟩:=List.getElem?_eq_some_iff.1 hy
 exact List.pairwise_iff_getElem.1 h3 (i-1) i hj hi (by omega)
theorem zxh{s:DtState}(h:StateP s):∀x∈s.fSaid,SaidW x:=by
 intro x hx
 obtain ⟨i,hi,rfl⟩:=List.getElem_of_mem hx
 have:=h.2 i _ (List.getElem?_eq_getElem hi)
 exact ⟨this.1,this.2.1,this.2.2.1,this.2.2.2.1⟩
theorem zli(x:DtSaid):∀(l:List DtSaid) (y:DtSaid),y∈putL x l→y=x∨y∈l
 | [],y,h=>by rw [putL] at h;exact .inl (List.mem_singleton.1 h)
 | z :: l,y,h=>by
  rw [putL] at h
  split at h
  ·rcases List.mem_cons.1 h with rfl | h
   ·exact .inr List.mem_cons_self
   ·exact (zli x l y h).imp id (List.mem_cons_of_mem _)
  ·split at h
   ·rcases List.mem_cons.1 h with rfl | h
    ·exact .inl rfl
    ·exact .inr (List.mem_cons_of_mem _ h)
   ·rcases List.mem_cons.1 h with rfl | h
    ·exact .inl rfl
    ·exact .inr h
theorem putL_cl(x:DtSaid):∀(l:List DtSaid),Cl l→Cl (putL x l)
 | [],_=>by rw [putL];exact List.pairwise_singleton _ _
 | z :: l,h=>by
  obtain ⟨h1,h2⟩:=List.pairwise_cons.1 h
  rw [putL]
  split
  ·refine List.pairwise_cons.2 ⟨λy hy=>?_,putL_cl x l h2⟩
   rcases zli x l y hy with rfl | hy
   ·assumption
   ·exact h1 y hy
  ·split
   ·refine List.pairwise_cons.2 ⟨λy hy=>?_,h2⟩
    have:=h1 y hy
    omega
   ·refine List.pairwise_cons.2 ⟨λy hy=>?_,h⟩
    rcases List.mem_cons.1 hy with rfl | hy
    ·omega
    ·have:=h1 y hy
     omega
theorem cl_len:∀(l:List DtSaid) (a:Int),Cl l→(∀x∈l,a<x.fClient∧x.fClient≤9)→a≤9→(l.length:Int)≤9-a
 | [],a,_,_,h=>by simp;omega
 | z :: l,a,h,hb,ha=>by
  obtain ⟨h1,h2⟩:=List.pairwise_cons.1 h
  have hz:=hb z List.mem_cons_self
  have:=cl_len l z.fClient h2 (λx hx=>⟨h1 x hx,(hb x (List.mem_cons_of_mem _ hx)).2⟩) hz.2
  simp only [List.length_cons]
  omega
/-- A state that came out of commands. -/
def StI(s:DtState):Prop:=StateP s∧∀x∈s.fSaid,x.fText.length≤200
theorem catP_nil':CatP { fSets:=[] }:=⟨by simp,by simp⟩
def st0S:DtState:={ fCat:={ fSets:=[] },fSaid:=[] }
theorem stI_nil:StI st0S:=⟨⟨catP_nil',by simp [st0S]⟩,by simp [st0S]⟩
theorem stN_P{s:DtState}(h:StateP s){m:DtCmd}(hm:CmdP m)(h0:¬m.fKind=0):StateP (stN s m):=by
 refine stateP_of (catP_step _ _) (λx hx=>?_) (putL_cl _ _ (zlh h))
 rcases zli _ _ _ hx with rfl | hx
 ·have:=hm.resolve_left λhh=>h0 hh.1
  exact ⟨this.2.2.1,this.2.2.2.1,this.2.2.2.2.1,this.2.2.2.2.2.1⟩
 ·exact zxh h x hx
theorem stN_I{s:DtState}(h:StI s){m:DtCmd}(hm:CmdP m)(h0:¬m.fKind=0):StI (stN s m):=by
 refine ⟨stN_P h.1 hm h0,λx hx=>?_⟩
 rcases zli _ _ _ hx with rfl | hx
 ·exact catR_len _ _
 ·exact h.2 x hx
theorem stC_or(s:DtState)(m:DtCmd)(h:StateP s):stC s m=s∨(CmdP m∧¬m.fKind=0∧stC s m=stN s m):=by
 by_cases hm:CmdP m∧¬m.fKind=0
 ·cases hx:hitS s m with
  | none=>exact .inr ⟨hm.1,hm.2,(st_no h hm.1 hm.2 hx).1⟩
  | some x =>
   have:=(zxg h hm.1 hm.2 hx).1
   split at this
   ·exact .inl this
   ·exact .inr ⟨hm.1,hm.2,this⟩
 ·exact .inl (st_m h hm).1
theorem stC_I{s:DtState}(h:StI s)(m:DtCmd):StI (stC s m):=by
 rcases stC_or s m h.1 with e | ⟨h1,h2,e⟩
 ·rw [e];exact h
 ·rw [e];exact stN_I h h1 h2
theorem said_len9{s:DtState}(h:StateP s):s.fSaid.length≤9:=by
 have:=cl_len s.fSaid 0 (zlh h) (λx hx=>by have:=zxh h x hx;unfold SaidW at this;omega) (by omega)
 omega
theorem stI_sz{s:DtState}(h:StI s):DtState.sz s≤10000:=by
 have h1:=catP_sz h.1.1
 have h2:=said_len9 h.1
 have h3:=zmx 200 s.fSaid (f:=DtSaid.sz) λx hx=>by
  have:=h.2 x hx
  unfold DtSaid.sz;omega
 unfold DtState.sz szS
 omega
theorem stI_sz'{s:DtState}(h:StI s):DtState.sz s≤1048576:=by have:=stI_sz h;omega
noncomputable def splS(l:List DtCmd):DtState × List (List UInt8):=l.foldl (λx m=>(stC x.1 m,x.2++[stR x.1 m])) (st0S,[])
noncomputable def splC(l:List DtCmd):DtState:=(splS l).1
noncomputable def splR(l:List DtCmd):List (List UInt8):=(splS l).2
theorem spl_take(l:List DtCmd)(i:Nat)(h:i<l.length):splC (l.take (i+1))=stC (splC (l.take i)) l[i]∧splR (l.take (i+1))=splR (l.take i)++[stR (splC (l.take i)) l[i]]:=by
 unfold splC splR splS
 rw [List.take_succ_eq_append_getElem h,List.foldl_append]
 exact ⟨rfl,rfl⟩
theorem zvv(l:List DtCmd):StI (splC l):=by
 have key:∀(l:List DtCmd) (x:DtState × List (List UInt8)),StI x.1→StI (l.foldl (λx m=>(stC x.1 m,x.2++[stR x.1 m])) x).1:=by
  intro l
  induction l with
  | nil=>intro x hx;exact hx
  | cons m l ih=>intro x hx;exact ih _ (stC_I hx m)
 exact key l _ stI_nil
theorem splC_sz(l:List DtCmd):DtState.sz (splC l)≤1048576:=stI_sz' (zvv l)
theorem splR_len(l:List DtCmd):(splR l).length=l.length:=by
 have key:∀(l:List DtCmd) (x:DtState × List (List UInt8)),(l.foldl (λx m=>(stC x.1 m,x.2++[stR x.1 m])) x).2.length=x.2.length+l.length:=by
  intro l
  induction l with
  | nil=>intro x;rfl
  | cons m l ih=>intro x;rw [List.foldl_cons,ih];simp;omega
 have:=key l (st0S,[])
 unfold splR splS
 rw [this];simp
theorem splR_lenT(l:List DtCmd)(i:Nat)(h:i≤l.length):(splR (l.take i)).length=i:=by rw [splR_len,List.length_take];omega
end Go.Proofs.YtodmafgmdlkhoaaDoor.Vs
end
section
namespace Go.Proofs.YtodmafgmdlkhoaaDoor.Vs
set_option linter.all false
/-! no reply to a drawn command is the word "old", but where it stands for one -/
def NoOld(c:DtCatalog):Prop:=∀x∈c.fSets,x.fName≠bOld
theorem zz3(l:List DtCSet)(k:Nat)(m:DtCmd):∀x∈setS l k m,∃y∈l,y.fName=x.fName:=by
 intro x hx
 have self:x∈l→∃y∈l,y.fName=x.fName:=λh=>⟨x,h,rfl⟩
 by_cases h2:m.fKind=2
 ·rw [(set_2 h2).1] at hx
  rcases List.mem_append.1 hx with hx | hx
  ·exact self (List.mem_of_mem_take hx)
  ·exact self (List.mem_of_mem_drop hx)
 ·by_cases hk:k<l.length
  ·have key : ∀ s : DtCSet, s.fName = l[k].fName → x ∈ l.set k s → ∃ y ∈ l, y.fName = x.fName := by
    intro s hs h
    rcases List.mem_or_eq_of_mem_set h with h | rfl
    ·exact self h
    ·exact ⟨l[k],List.getElem_mem _,hs.symm⟩
   by_cases h3:m.fKind=3
   ·rw [(zz1 hk h3).1] at hx
    refine key _ ?_ hx
    unfold comS
    split
    ·rfl
    ·split<;>rfl
   ·by_cases h4:m.fKind=4
    ·rw [(set_4 hk h4).1] at hx
     refine key _ ?_ hx
     unfold tagS
     split<;>rfl
    ·by_cases h5:m.fKind=5
     ·rw [(set_5 hk h5).1] at hx
      exact key (pruS l[k] m.fN) rfl hx
     ·rw [(set_6 hk h2 h3 h4 h5).1] at hx
      exact self hx
  ·unfold setS at hx
   rw [if_neg h2,dif_neg hk] at hx
   exact self hx
theorem zz4(c:DtCatalog)(m:DtCmd):∀x∈catS c m,(∃y∈c.fSets,y.fName=x.fName)∨x.fName=m.fSet:=by
 intro x hx
 have self:x∈c.fSets→(∃y∈c.fSets,y.fName=x.fName)∨x.fName=m.fSet:=λh=>.inl ⟨x,h,rfl⟩
 by_cases h:CatP c
 ·by_cases hm:CmdP m
  ·by_cases h0:m.fKind=0
   ·rw [(cat_0 h hm h0).1] at hx;exact self hx
   ·by_cases h1:m.fKind=1
    ·rw [(cat_1 h hm h1).1] at hx
     unfold creS at hx
     split at hx
     ·exact self hx
     ·split at hx
      ·exact self hx
      ·rcases List.mem_append.1 hx with hx | hx
       ·exact self (List.mem_of_mem_take hx)
       ·rcases List.mem_cons.1 hx with rfl | hx
        ·exact .inr rfl
        ·exact self (List.mem_of_mem_drop hx)
    ·by_cases h7:m.fKind=7
     ·rw [(cat_7 h hm h7).1] at hx;exact self hx
     ·by_cases hf:findS c.fSets m.fSet<0
      ·rw [(cat_n h hm h0 h1 h7 hf).1] at hx;exact self hx
      ·obtain ⟨k,hkz⟩:=Int.eq_ofNat_of_zero_le (Int.not_lt.1 hf)
       rw [(cat_k h hm h0 h1 h7 hkz).1] at hx
       exact .inl (zz3 _ _ _ x hx)
  ·rw [(cat_m h hm).1] at hx;exact self hx
 ·rw [(cat_f h).1] at hx;cases hx
theorem zz5{c:DtCatalog}(h:NoOld c){m:DtCmd}(hm:m.fSet≠bOld):NoOld (catC c m):=by
 intro x hx
 rcases zz4 c m x hx with ⟨y,hy,e⟩ | e
 ·rw [←e];exact h y hy
 ·rw [e];exact hm
theorem noOld_st{s:DtState}(h:NoOld s.fCat){m:DtCmd}(hm:m.fSet≠bOld):NoOld (stC s m).fCat:=by
 by_cases hP:StateP s
 ·rcases stC_or s m hP with e | ⟨-,-,e⟩
  ·rw [e];exact h
  ·rw [e];exact zz5 h hm
 ·rw [(st_f hP).1];intro x hx;cases hx
theorem noOld_spl:∀l:List DtCmd,(∀x∈l,x.fSet≠bOld)→NoOld (splC l).fCat:=by
 have key:∀(l:List DtCmd) (x:DtState × List (List UInt8)),(∀x∈l,x.fSet≠bOld)→NoOld x.1.fCat→NoOld (l.foldl (λx m=>(stC x.1 m,x.2++[stR x.1 m])) x).1.fCat:=by
  intro l
  induction l with
  | nil=>intro x _ h;exact h
  | cons m l ih =>
   intro x hl h
   exact ih _ (λy hy=>hl y (List.mem_cons_of_mem _ hy)) (noOld_st h (hl m List.mem_cons_self))
 intro l h
 exact key l _ h (λx hx=>by cases hx)
/-! what a command leaves behind -/
def oldM(m:DtCmd):DtCmd:={ m with fNo:=m.fNo-1 }
end Go.Proofs.YtodmafgmdlkhoaaDoor.Vs
end
section
namespace Go.Proofs.YtodmafgmdlkhoaaDoor.Vs
set_option linter.all false
set_option maxRecDepth 100000
/-! ### Draws -/
/-- A code of bytes, not a great one. -/
def Code(l:List Int):Prop:=l.length≤1048576
def andZ(a b:Int):Int:=IntKind.i64.wrap (BitVec.ofInt IntKind.i64.bits a &&& BitVec.ofInt IntKind.i64.bits b).toNat
def xorZ(a b:Int):Int:=IntKind.i64.wrap (BitVec.ofInt IntKind.i64.bits a ^^^ BitVec.ofInt IntKind.i64.bits b).toNat
theorem zb8(a b:Int):IntKind.i64.wrap (BitVec.ofInt IntKind.i64.bits a &&& BitVec.ofInt IntKind.i64.bits b).toNat=andZ a b:=(rfl)
theorem zby(a b:Int):IntKind.i64.wrap (BitVec.ofInt IntKind.i64.bits a ^^^ BitVec.ofInt IntKind.i64.bits b).toNat=xorZ a b:=(rfl)
theorem andZ_bd(a b:Int)(n:Nat)(hb:(BitVec.ofInt 64 b).toNat=n)(hn:n<9223372036854775808):0≤andZ a b∧andZ a b≤n:=by
 have h:(BitVec.ofInt IntKind.i64.bits a &&& BitVec.ofInt IntKind.i64.bits b).toNat≤n:=by
  rw [BitVec.toNat_and]
  exact Nat.le_trans Nat.and_le_right (Nat.le_of_eq hb)
 unfold andZ
 rw [zcj (by omega) (by omega)]
 omega
/-- The number that a code is mixed to. -/
def mixN(l:List Int):Nat→Int
 | 0=>IntKind.i64.wrap (10101+l.length)
 | k+1=>andZ (IntKind.i64.wrap (IntKind.i64.wrap (IntKind.i64.wrap (mixN l k*131)+IntKind.i64.wrap (l.getD k 0))+7)) 1073741823
def cur0(l:List Int):Cur:=⟨0,mixN l (min l.length 4000)⟩
def zG11:=And.intro @zcj (And.intro @gE @tP)
theorem l1New(l:List Int)(hl:Code l):XCall Tryd.prog 15 [.sl 1 (l.map cU)] [] (.ptr 16 0) [] [.cells (curC l (cur0 l))]:=by
 unfold Code at hl
 refine zbq Tryd.func15 (by rfl) (by rfl) (by rw [Tryd.ntmps15];exact Nat.le_of_ble_eq_true rfl) rfl (by simp) rfl rfl ?_
 rw [Tryd.ntmps15]
 refine zdk   ?_
 refine AW_k [(0,_)] ⟨rfl,trivial⟩ ?_
 refine AW_x rfl rfl λK hK=>?_
 simp (disch:=omega) [zG11,cU,↓zb8,↓zby]
 refine hK _ ?_;clear hK K
 refine AW_x rfl rfl λK hK=>?_
 simp (disch:=omega) [zG11,cU,↓zb8,↓zby]
 refine hK _ ?_;clear hK K
 refine zbe ?_
 refine AW_x rfl rfl λK hK=>?_
 simp (disch:=omega) [zG11,cU,↓zb8,↓zby]
 refine hK _ ?_;clear hK K
 refine zbi ?_
 refine zbt (λmM sS=>∃(i:Nat),mM=l.length-i∧(i≤l.length∧i≤4000)∧sS = { env:=lkE [(0,.sl 1 (l.map cU)),(3,(.g (.int .i64 (mixN l i)))),(4,(.g (.int .i64 ((i:Nat)))))],ob:=lk [] }) ?_ ?_
 ·refine ⟨_,LeS.kx [] [(0,.sl 1 (l.map cU)),(3,(.g (.int .i64 (mixN l (0))))),(4,(.g (.int .i64 (((0):Nat)))))] [] (by simp [zG9,KpR,renV2,renV,zbj];try ((simp (disch:=omega) [mixN,zcj];done))) (by simp [zG9,KpOX,renO,plO,cvO,renV,pl1]) (by rfl) (by simp) (by simp) (by rfl) (by simp [zG10,formsX]),_,0,rfl,?_,rfl⟩
  ·simp
 ·rintro mM sS ⟨i,rfl,⟨hi,hi2⟩,rfl⟩
  refine zbe ?_
  refine AW_x rfl rfl λK hK=>?_
  simp (disch:=omega) [zG11,cU,↓zb8,↓zby]
  repeat' first|(refine ⟨λ_=>?_,λ_=>?_⟩) | fail
  all_goals (refine hK _ ?_;clear hK K)
  all_goals
   refine zbg rfl (λhc1=>?_) (λhc1=>?_)
   ·try simp at hc1
    all_goals
     refine zbh ?_
     refine zbm ?_
     refine zbe ?_
     refine zbi ?_
     refine zb4 rfl rfl λK hK=>?_
     simp (disch:=omega) [zG11,cU,↓zb8,↓zby]
     repeat' first|(refine ⟨by omega,?_⟩) | fail
     refine hK _ ?_;clear hK K
     refine zbm ?_
     refine zb4 rfl rfl λK hK=>?_
     simp (disch:=omega) [zG11,cU,↓zb8,↓zby]
     refine hK _ ?_;clear hK K
     refine ⟨_,LeS.kx [] [(0,.sl 1 (l.map cU)),(3,(.g (.int .i64 (mixN l (i+1))))),(4,(.g (.int .i64 (((i+1):Nat)))))] [] (by simp [zG9,KpR,renV2,renV,zbj];try ((simp (disch:=omega) [mixN,zcj];done))) (by simp [zG9,KpOX,renO,plO,cvO,renV,pl1]) (by rfl) (by simp) (by simp) (by rfl) (by simp [zG10,formsX]),_,?_,i+1,rfl,?_,rfl⟩
     ·omega
     ·omega
   try simp at hc1
   refine zbw ?_
   refine zbm ?_
   refine AW_x rfl rfl λK hK=>?_
   simp (disch:=omega) [zG11,cU,↓zb8,↓zby]
   all_goals (refine hK _ ?_;clear hK K)
   all_goals
    refine zbo (zb7 [512] [] (by simp [zG9,List.range_succ]) (by simp) ?_)
    simp (disch:=omega) [zG11,cU,↓zb8,↓zby,curC]
    all_goals (unfold cur0;have e:i=min l.length 4000:=(by omega);rw [←e];exact ⟨rfl,rfl⟩)
def nxH(h:Int):Int:=IntKind.i64.wrap (IntKind.i64.wrap (h*6364136223846793005)+1442695040888963407)
def rawX(h:Int):Int:=andZ (xorZ (h.fdiv (2^min 33 IntKind.i64.bits)) (h.fdiv (2^min 45 IntKind.i64.bits))) 255
def byte(l:List Int)(c:Cur):Int:=if c.i<l.length then andZ (IntKind.i64.wrap (rawX (nxH c.h)+IntKind.i64.wrap (l.getD c.i 0))) 255 else rawX (nxH c.h)
def stp(l:List Int)(c:Cur):Cur:=⟨if c.i<l.length then c.i+1 else c.i,nxH c.h⟩
theorem zmy(l:List Int)(c:Cur):0≤byte l c∧byte l c≤255:=by
 unfold byte rawX
 split<;>exact andZ_bd _ _ 255 (by decide) (by decide)
theorem zmz(l:List Int)(hl:Code l)(c:Cur):XCall Tryd.prog 46 [.ptr 8 0] [.cells (curC l c)] (.g (.int .i64 (byte l c))) [.cells (curC l (stp l c))] []:=by
 unfold Code at hl
 unfold curC
 refine zbq Tryd.func46 (by rfl) (by rfl) (by rw [Tryd.ntmps46];exact Nat.le_of_ble_eq_true rfl) rfl (by simp) rfl rfl ?_
 rw [Tryd.ntmps46]
 refine zhn (.cells [.sl 1 (l.map cU),.g (.int .i64 (c.i:Int)),.g (.int .i64 c.h)]) (by simp [cvO]<;>assumption) ?_
 refine AW_k [(0,_)] ⟨rfl,trivial⟩ ?_
 refine AW_x rfl rfl λK hK=>?_
 simp (disch:=omega) [zG11,cU,curC,↓zb8,↓zby]
 refine hK _ ?_;clear hK K
 refine AW_x rfl rfl λK hK=>?_
 simp (disch:=omega) [zG11,cU,curC,↓zb8,↓zby]
 refine hK _ ?_;clear hK K
 refine AW_d rfl mix (by kernel_rfl) (by kernel_rfl) λK hK=>?_
 simp (disch:=omega) [zG11,cU,curC,↓zb8,↓zby]
 refine hK _ _ (by kernel_rfl) ?_;clear hK K
 refine zbe ?_
 refine AW_d rfl mix (by kernel_rfl) (by kernel_rfl) λK hK=>?_
 simp (disch:=omega) [zG11,cU,curC,↓zb8,↓zby]
 refine hK _ _ (by kernel_rfl) ?_;clear hK K
 refine zbg rfl (λhc2=>?_) (λhc2=>?_)
 ·try simp at hc2
  refine AW_d rfl mix (by kernel_rfl) (by kernel_rfl) λK hK=>?_
  simp (disch:=omega) [zG11,cU,curC,↓zb8,↓zby]
  repeat' first|(refine ⟨by omega,?_⟩) | fail
  refine hK _ _ (by kernel_rfl) ?_;clear hK K
  refine zb4 rfl rfl λK hK=>?_
  simp (disch:=omega) [zG11,cU,curC,↓zb8,↓zby]
  refine hK _ ?_;clear hK K
  refine zbm ?_
  refine AW_x rfl rfl λK hK=>?_
  simp (disch:=omega) [zG11,cU,curC,↓zb8,↓zby]
  refine hK _ ?_;clear hK K
  refine zbo (zb7 [] [] (by simp [zG9,List.range_succ]) (by simp) ?_)
  simp (disch:=omega) [zG11,cU,curC,↓zb8,↓zby,curC]
  (simp [byte,stp,rawX,nxH,hc2,List.getElem?_eq_getElem];done)
 try simp at hc2
 refine zbh ?_
 refine zbm ?_
 refine AW_x rfl rfl λK hK=>?_
 simp (disch:=omega) [zG11,cU,curC,↓zb8,↓zby]
 refine hK _ ?_;clear hK K
 refine zbo (zb7 [] [] (by simp [zG9,List.range_succ]) (by simp) ?_)
 simp (disch:=omega) [zG11,cU,curC,↓zb8,↓zby,curC]
 (simp [byte,stp,rawX,nxH,Nat.not_lt.2 hc2];done)
def stp4(l:List Int)(c:Cur):Cur:=stp l (stp l (stp l (stp l c)))
def four(l:List Int)(c:Cur):Int:=byte l c*16777216+byte l (stp l c)*65536+byte l (stp l (stp l c))*256+byte l (stp l (stp l (stp l c)))
def below(l:List Int)(n:Int)(c:Cur):Int:=if n≤0 then 0 else if n≤256 then byte l c % n else four l c % n
def belowS(l:List Int)(n:Int)(c:Cur):Cur:=if n≤0 then c else if n≤256 then stp l c else stp4 l c
theorem zc5(l:List Int)(n:Int)(c:Cur):0≤below l n c∧(0<n→below l n c<n):=by
 unfold below
 split
 ·omega
 ·split
  ·have:=Int.emod_nonneg (byte l c) (show n≠0 by omega);have:=Int.emod_lt_of_pos (byte l c) (show 0<n by omega);omega
  ·have:=Int.emod_nonneg (four l c) (show n≠0 by omega);have:=Int.emod_lt_of_pos (four l c) (show 0<n by omega);omega
theorem zdi(l:List Int)(hl:Code l)(c:Cur)(n:Int):XCall Tryd.prog 38 [.ptr 8 0,(.g (.int .i64 (n)))] [.cells (curC l c)] (.g (.int .i64 (below l n c))) [.cells (curC l (belowS l n c))] []:=by
 have h1:=zmy l c;have h2:=zmy l (stp l c);have h3:=zmy l (stp l (stp l c));have h4:=zmy l (stp l (stp l (stp l c)))
 refine zbq Tryd.func38 (by rfl) (by rfl) (by rw [Tryd.ntmps38];exact Nat.le_of_ble_eq_true rfl) rfl (by simp) rfl rfl ?_
 rw [Tryd.ntmps38]
 refine zhn (.cells (curC l c)) (by simp [cvO]<;>assumption) ?_
 refine AW_k [(0,_),(1,_)] ⟨rfl,rfl,trivial⟩ ?_
 refine AW_x rfl rfl λK hK=>?_
 simp (disch:=omega) [zG11,cU,↓zb8,↓zby]
 refine hK _ ?_;clear hK K
 refine zbe ?_
 refine AW_x rfl rfl λK hK=>?_
 simp (disch:=omega) [zG11,cU,↓zb8,↓zby]
 refine hK _ ?_;clear hK K
 refine zbg rfl (λhc3=>?_) (λhc3=>?_)
 ·try simp at hc3
  refine AW_x rfl rfl λK hK=>?_
  simp (disch:=omega) [zG11,cU,↓zb8,↓zby]
  refine hK _ ?_;clear hK K
  refine zbo (zb7 [] [] (by simp [zG9,List.range_succ]) (by simp) ?_)
  simp (disch:=omega) [zG11,cU,↓zb8,↓zby]
  unfold below belowS stp4 four;simp only [Int.not_le.2, *,if_true,if_false,ite_true,ite_false];(simp (disch:=omega) [Int.tmod_eq_emod_of_nonneg];done)
 try simp at hc3
 refine zbh ?_
 refine zbm ?_
 refine zbe ?_
 refine AW_x rfl rfl λK hK=>?_
 simp (disch:=omega) [zG11,cU,↓zb8,↓zby]
 refine hK _ ?_;clear hK K
 refine zbg rfl (λhc4=>?_) (λhc4=>?_)
 ·try simp at hc4
  refine AW_x rfl rfl λK hK=>?_
  simp (disch:=omega) [zG11,cU,↓zb8,↓zby]
  repeat' first|(refine zco (λ_=>xs_p xs_z) (zmz l hl _) rfl rfl ?_;simp (disch:=omega) [zG11,cU,↓zb8,↓zby])|(refine ⟨by omega,?_⟩) | fail
  refine hK _ ?_;clear hK K
  refine zbo (zb7 [] [] (by simp [zG9,List.range_succ]) (by simp) ?_)
  simp (disch:=omega) [zG11,cU,↓zb8,↓zby]
  unfold below belowS stp4 four;simp only [Int.not_le.2, *,if_true,if_false,ite_true,ite_false];(simp (disch:=omega) [Int.tmod_eq_emod_of_nonneg];done)
 try simp at hc4
 refine zbh ?_
 refine zbm ?_
 refine AW_x rfl rfl λK hK=>?_
 simp (disch:=omega) [zG11,cU,↓zb8,↓zby]
 repeat' first|(refine zco (λ_=>xs_p xs_z) (zmz l hl _) rfl rfl ?_;simp (disch:=omega) [zG11,cU,↓zb8,↓zby]) | fail
 refine hK _ ?_;clear hK K
 refine AW_x rfl rfl λK hK=>?_
 simp (disch:=omega) [zG11,cU,↓zb8,↓zby]
 repeat' first|(refine zco (λ_=>xs_p xs_z) (zmz l hl _) rfl rfl ?_;simp (disch:=omega) [zG11,cU,↓zb8,↓zby]) | fail
 refine hK _ ?_;clear hK K
 refine AW_x rfl rfl λK hK=>?_
 simp (disch:=omega) [zG11,cU,↓zb8,↓zby]
 repeat' first|(refine zco (λ_=>xs_p xs_z) (zmz l hl _) rfl rfl ?_;simp (disch:=omega) [zG11,cU,↓zb8,↓zby]) | fail
 refine hK _ ?_;clear hK K
 refine AW_x rfl rfl λK hK=>?_
 simp (disch:=omega) [zG11,cU,↓zb8,↓zby]
 repeat' first|(refine zco (λ_=>xs_p xs_z) (zmz l hl _) rfl rfl ?_;simp (disch:=omega) [zG11,cU,↓zb8,↓zby]) | fail
 refine hK _ ?_;clear hK K
 refine AW_x rfl rfl λK hK=>?_
 simp (disch:=omega) [zG11,cU,↓zb8,↓zby]
 repeat' first|(refine ⟨by omega,?_⟩) | fail
 refine hK _ ?_;clear hK K
 refine zbo (zb7 [] [] (by simp [zG9,List.range_succ]) (by simp) ?_)
 simp (disch:=omega) [zG11,cU,↓zb8,↓zby]
 unfold below belowS stp4 four;simp only [Int.not_le.2, *,if_true,if_false,ite_true,ite_false];(simp (disch:=omega) [Int.tmod_eq_emod_of_nonneg];done)
theorem zkt(l:List Int)(hl:Code l)(c:Cur)(n:Int):XCall Tryd.prog 24 [.ptr 8 0,(.g (.int .i64 (n)))] [.cells (curC l c)] (.g (.bool (decide (below l n c=0)))) [.cells (curC l (belowS l n c))] []:=by
 refine zbq Tryd.func24 (by rfl) (by rfl) (by rw [Tryd.ntmps24];exact Nat.le_of_ble_eq_true rfl) rfl (by simp) rfl rfl ?_
 rw [Tryd.ntmps24]
 refine zhn (.cells (curC l c)) (by simp [cvO]<;>assumption) ?_
 refine AW_k [(0,_),(1,_)] ⟨rfl,rfl,trivial⟩ ?_
 refine AW_x rfl rfl λK hK=>?_
 simp (disch:=omega) [zG11,cU,↓zb8,↓zby]
 refine hK _ ?_;clear hK K
 refine AW_x rfl rfl λK hK=>?_
 simp (disch:=omega) [zG11,cU,↓zb8,↓zby]
 repeat' first|(refine zco (λ_=>xs_p (xs_g xs_z)) (zdi l hl _ _) rfl rfl ?_;simp (disch:=omega) [zG11,cU,↓zb8,↓zby]) | fail
 refine hK _ ?_;clear hK K
 refine zbo (zb7 [] [] (by simp [zG9,List.range_succ]) (by simp) ?_)
 simp (disch:=omega) [zG11,cU,↓zb8,↓zby]
 rfl
def pickZ(xs:List Int)(n:Int):Int:=xs.getD n.toNat 0
theorem zg5(l:List Int)(hl:Code l)(c:Cur)(xs:List Int)(hx:0<xs.length∧xs.length≤1048576):XCall Tryd.prog 39 [.ptr 8 0,.arr 9 0 xs.length] [.cells (curC l c),.own 1 (xs.map cI)] (.g (.int .i64 (pickZ xs (below l xs.length c)))) [.cells (curC l (belowS l xs.length c)),.own 1 (xs.map cI)] []:=by
 have hb:=zc5 l xs.length c
 refine zbq Tryd.func39 (by rfl) (by rfl) (by rw [Tryd.ntmps39];exact Nat.le_of_ble_eq_true rfl) rfl (by simp) rfl rfl ?_
 rw [Tryd.ntmps39]
 refine AW_x2 (.cells (curC l c)) (.own 1 (xs.map cI)) (by simp [cvO]<;>assumption) (by simp [cvO]<;>assumption) ?_
 refine AW_k [(0,_),(1,_)] ⟨rfl,rfl,trivial⟩ ?_
 refine AW_x rfl rfl λK hK=>?_
 simp (disch:=omega) [zG11,cI,cS,cU,↓zb8,↓zby]
 refine hK _ ?_;clear hK K
 refine AW_x rfl rfl λK hK=>?_
 simp (disch:=omega) [zG11,cI,cS,cU,↓zb8,↓zby]
 repeat' first|(refine zco (λ_=>xs_p (xs_g xs_z)) (zdi l hl _ _) rfl rfl ?_;simp (disch:=omega) [zG11,cI,cS,cU,↓zb8,↓zby])|(refine ⟨by omega,?_⟩) | fail
 refine hK _ ?_;clear hK K
 refine zbo (zb7 [] [] (by simp [zG9,List.range_succ]) (by simp) ?_)
 simp (disch:=omega) [zG11,cI,cS,cU,↓zb8,↓zby,cI]
 unfold pickZ;simp [List.getElem?_eq_getElem, *];done
theorem zsm(l:List Int)(hl:Code l)(c:Cur)(xs:List (List UInt8))(hx:0<xs.length∧xs.length≤1048576):XCall Tryd.prog 68 [.ptr 8 0,.arr 9 0 xs.length] [.cells (curC l c),.own 1 (xs.map cS)] (.s (xs.getD (below l xs.length c).toNat [])) [.cells (curC l (belowS l xs.length c)),.own 1 (xs.map cS)] []:=by
 have hb:=zc5 l xs.length c
 refine zbq Tryd.func68 (by rfl) (by rfl) (by rw [Tryd.ntmps68];exact Nat.le_of_ble_eq_true rfl) rfl (by simp) rfl rfl ?_
 rw [Tryd.ntmps68]
 refine AW_x2 (.cells (curC l c)) (.own 1 (xs.map cS)) (by simp [cvO]<;>assumption) (by simp [cvO]<;>assumption) ?_
 refine AW_k [(0,_),(1,_)] ⟨rfl,rfl,trivial⟩ ?_
 refine AW_x rfl rfl λK hK=>?_
 simp (disch:=omega) [zG11,cI,cS,cU,↓zb8,↓zby]
 refine hK _ ?_;clear hK K
 refine AW_x rfl rfl λK hK=>?_
 simp (disch:=omega) [zG11,cI,cS,cU,↓zb8,↓zby]
 repeat' first|(refine zco (λ_=>xs_p (xs_g xs_z)) (zdi l hl _ _) rfl rfl ?_;simp (disch:=omega) [zG11,cI,cS,cU,↓zb8,↓zby])|(refine ⟨by omega,?_⟩) | fail
 refine hK _ ?_;clear hK K
 refine zbo (zb7 [] [] (by simp [zG9,List.range_succ]) (by simp) ?_)
 simp (disch:=omega) [zG11,cI,cS,cU,↓zb8,↓zby,cS]
end Go.Proofs.YtodmafgmdlkhoaaDoor.Vs
end
section
namespace Go.Proofs.YtodmafgmdlkhoaaDoor.Vs
set_option linter.all false
set_option maxRecDepth 100000
set_option maxHeartbeats 2000000
attribute [local simp ↓] zp5 zw1 zp6 zp7 zp8 zp9
attribute [local simp] zmv zAnd_w zsd zNot_w
theorem zsn(x:Int):PCall Tryd.prog 62 [(.g (.int .i64 (x)))] (.g (.int .i64 (x % 4294967296))):=by
 refine zbp Tryd.func62 (by rfl) (by rfl) (by rw [Tryd.ntmps62];exact Nat.le_of_ble_eq_true rfl) rfl (by decide) ?_
 rw [Tryd.ntmps62]
 refine AW_k [(0,_)] ⟨rfl,trivial⟩ ?_
 refine AW_r rfl rfl λK hK=>?_
 simp (disch:=omega)
 refine hK _ ?_;clear hK K
 refine AW_r rfl rfl λK hK=>?_
 simp (disch:=omega)
 refine hK _ ?_;clear hK K
 refine zbo (zcc ?_)
 simp (disch:=omega)
theorem wrapU{n:Int}(h:0≤n∧n<18446744073709551616):IntKind.u64.wrap n=n:=by
 simp [IntKind.wrap,IntKind.bits,IntKind.signed]
 omega
theorem zqm(x:W32)(z:Int)(hz:0<z∧z<32):PCall Tryd.prog 61 [(.g (.int .i64 (wI x))),.g (.int .u64 z)] (.g (.int .i64 (wI (x.rotateRight z.toNat)))):=by
 have hw:=wrapU (n:=32-z) (by omega)
 have hr:=rot_w x z hz
 refine zbp Tryd.func61 (by rfl) (by rfl) (by rw [Tryd.ntmps61];exact Nat.le_of_ble_eq_true rfl) rfl (by decide) ?_
 rw [Tryd.ntmps61]
 refine AW_k [(0,_),(1,_)] ⟨rfl,rfl,trivial⟩ ?_
 refine AW_r rfl rfl λK hK=>?_
 simp (disch:=omega) [hw,hr]
 refine hK _ ?_;clear hK K
 refine AW_r rfl rfl λK hK=>?_
 simp (disch:=omega) [hw,hr]
 repeat' first|(refine zci (zbf zcb zbn) (zsn _) rfl ?_;simp (disch:=omega) [hw,hr])|(refine ⟨by omega,?_⟩) | fail
 refine hK _ ?_;clear hK K
 refine zbo (zcc ?_)
 simp (disch:=omega) [hw,hr]
attribute [local simp] cW shaK List.map_cons List.map_nil
attribute [-simp] zmv zAnd_w zsd zNot_w
theorem l3Keys:PCall Tryd.prog 54 [] (.sl 1 (shaK.map cW)):=by
 refine zbp Tryd.func54 (by rfl) (by rfl) (by rw [Tryd.ntmps54];exact Nat.le_of_ble_eq_true rfl) rfl (by decide) ?_
 rw [Tryd.ntmps54]
 refine AW_k [] trivial ?_
 refine AW_r rfl rfl λK hK=>?_
 simp (disch:=omega)
 refine hK _ ?_;clear hK K
 refine AW_r rfl rfl λK hK=>?_
 simp (disch:=omega)
 refine hK _ ?_;clear hK K
 refine zbo (zcc ?_)
 simp (disch:=omega) [wI]
end Go.Proofs.YtodmafgmdlkhoaaDoor.Vs
end
section
namespace Go.Proofs.YtodmafgmdlkhoaaDoor.Vs
set_option linter.all false
set_option maxRecDepth 100000
set_option maxHeartbeats 4000000
attribute [local simp ↓] zp5 zw1 zp6 zp7 zp8 zp9
/-- The words of a block. -/
def wd(b:List UInt8)(j:Nat):W32:=(sch b 64).getD j 0
theorem sch_at(b:List UInt8)(i j:Nat)(h:j<i)(hi:i≤64):(sch b i)[j]? = some (wd b j):=by
 rw [sch_get b i j h]
 unfold wd
 rw [List.getD_eq_getElem?_getD,sch_get b 64 j (by omega)]
 have:j<(sch b (j+1)).length:=by rw [zdy];omega
 rw [List.getElem?_eq_getElem this];rfl
def kd(j:Nat):W32:=shaK.getD j 0
theorem kd_at(j:Nat)(h:j<64):shaK[j]? = some (kd j):=by unfold kd;rw [List.getD_eq_getElem?_getD,List.getElem?_eq_getElem (by rw [zw2];exact h),Option.getD_some]
def schR(b:List UInt8)(i:Nat):List (List AV):=(sch b i).map cW++List.replicate (64-i) [.g (.int .i64 0)]
theorem zdh(b:List UInt8)(i:Nat)(h:i≤64):(schR b i).length=64:=by unfold schR;simp [zdy];omega
theorem zjl(b:List UInt8)(i j:Nat)(h:j<i)(hi:i≤64):(schR b i)[j]? = some (cW (wd b j)):=by
 unfold schR
 rw [List.getElem?_append_left (by simp [zdy];omega),List.getElem?_map,sch_at b i j h hi];rfl
theorem zxi(b:List UInt8)(i:Nat)(h:i<64)(x:W32)(hx:sch b (i+1)=sch b i++[x]):(schR b i).set i (cW x)=schR b (i+1):=by
 unfold schR
 rw [hx,List.set_append_right _ _ (by simp [zdy]),show 64-i=(64-(i+1))+1 by omega,List.replicate_succ]
 simp [zdy]
theorem zdo(b:List UInt8)(i:Nat):scR (schR b i)=true:=by
 unfold schR
 rw [zvh,zd8 cW (λ_=>rfl)]
 simp
 induction (64-i) with
 | zero=>rfl
 | succ n ih=>rw [List.replicate_succ];simpa [scR] using ih
theorem schR_z(b:List UInt8)(i:Nat)(h:i<64):(schR b i)[i]? = some [.g (.int .i64 0)]:=by
 unfold schR
 rw [List.getElem?_append_right (by simp [zdy])]
 simp [zdy,List.getElem?_replicate]
 omega
theorem zn6(a b n:Nat)(h:b<2^n):a*2^n ||| b=a*2^n+b:=by rw [←Nat.shiftLeft_eq,Nat.shiftLeft_add_eq_or_of_lt h]
theorem word_z{p0 p1 p2 p3:Nat}(h0:p0<256)(h1:p1<256)(h2:p2<256)(h3:p3<256):zOr (zOr (zOr (zShl (IntKind.i64.wrap (p0:Int)) 24) (zShl (IntKind.i64.wrap (p1:Int)) 16)) (zShl (IntKind.i64.wrap (p2:Int)) 8)) (IntKind.i64.wrap (p3:Int))=wI (BitVec.ofNat 32 ((p0*256+p1)*65536+p2*256+p3)):=by
 have e1:p0*2^24 ||| p1*2^16=p0*2^24+p1*2^16:=zn6 _ _ 24 (by omega)
 have e2:(p0*2^24+p1*2^16) ||| p2*2^8=p0*2^24+p1*2^16+p2*2^8:=by
  have:=zn6 (p0*2^8+p1) (p2*2^8) 16 (by omega)
  rw [show (p0*2^8+p1)*2^16=p0*2^24+p1*2^16 by omega] at this
  exact this
 have e3:(p0*2^24+p1*2^16+p2*2^8) ||| p3=p0*2^24+p1*2^16+p2*2^8+p3:=by
  have:=zn6 ((p0*2^8+p1)*2^8+p2) p3 8 (by omega)
  rw [show ((p0*2^8+p1)*2^8+p2)*2^8=p0*2^24+p1*2^16+p2*2^8 by omega] at this
  exact this
 rw [znj (by omega),znj (by omega),znj (by omega),znj (by omega),zji p0 24 24 rfl (by omega) (by omega),zji p1 16 16 rfl (by omega) (by omega),zji p2 8 8 rfl (by omega) (by omega)]
 rw [zqa (by omega) (by omega),e1,zqa (by omega) (by omega),e2,zqa (by omega) (by omega),e3]
 unfold wI
 rw [BitVec.toNat_ofNat,Nat.mod_eq_of_lt (by omega)]
 omega
theorem la_step(b:List UInt8)(hb:b.length=64)(i:Nat)(hi:i<16)(h0:(4*(i:Int)).toNat<b.length)(h1:(4*(i:Int)+1).toNat<b.length)(h2:(4*(i:Int)+2).toNat<b.length)(h3:(4*(i:Int)+3).toNat<b.length):(schR b i).set i (((schR b i)[i]?.getD []).set 0 (AV.g (.int .i64 (zOr (zOr (zOr (zShl (IntKind.i64.wrap (b[(4*(i:Int)).toNat].toNat:Int)) 24) (zShl (IntKind.i64.wrap (b[(4*(i:Int)+1).toNat].toNat:Int)) 16)) (zShl (IntKind.i64.wrap (b[(4*(i:Int)+2).toNat].toNat:Int)) 8)) (IntKind.i64.wrap (b[(4*(i:Int)+3).toNat].toNat:Int))))))=schR b (i+1):=by
 rw [word_z (UInt8.toNat_lt _) (UInt8.toNat_lt _) (UInt8.toNat_lt _) (UInt8.toNat_lt _),schR_z b i (by omega)]
 refine zxi b i (by omega) _ ?_
 have g:∀(z:Int) (n:Nat) (h:z.toNat<b.length),z.toNat=n→b.getD n 0=b[z.toNat]:=λz n h e=>by subst e;rw [List.getD_eq_getElem?_getD,List.getElem?_eq_getElem h];rfl
 rw [sch,if_pos hi,wrd,g _ (4*i) h0 (by omega),g _ (4*i+1) h1 (by omega),g _ (4*i+2) h2 (by omega),g _ (4*i+3) h3 (by omega)]
theorem zfd(x:Int):IntKind.i64.wrap x % 4294967296=x % 4294967296:=by
 simp [IntKind.wrap,IntKind.bits,IntKind.signed]
 split<;>omega
theorem wrap_l(x y:Int):(IntKind.i64.wrap x+y) % 4294967296=(x+y) % 4294967296:=by have:=zfd x;omega
theorem zShr_3(x:W32):zShr (wI x) 3=wI (x >>> 3):=by
 have h:=zShr_w x 3 (by omega)
 rw [show (3:Int).toNat=3 from rfl] at h
 exact h
theorem zShr_10(x:W32):zShr (wI x) 10=wI (x >>> 10):=by
 have h:=zShr_w x 10 (by omega)
 rw [show (10:Int).toNat=10 from rfl] at h
 exact h
theorem zso(b:List UInt8)(i j:Nat)(h:j<i)(hi:i≤64):(sch b i).getD j 0=wd b j:=by rw [List.getD_eq_getElem?_getD,sch_at b i j h hi,Option.getD_some]
theorem lb_step(b:List UInt8)(i:Nat)(h1:16≤i)(hi:i<64):(schR b i).set i (((schR b i)[i]?.getD []).set 0 (AV.g (.int .i64 (IntKind.i64.wrap (IntKind.i64.wrap (IntKind.i64.wrap (wI (wd b (i-16))+zXor (wI (BitVec.rotateRight (wd b (i-15)) 7 ^^^ BitVec.rotateRight (wd b (i-15)) 18)) (zShr (wI (wd b (i-15))) 3))+wI (wd b (i-7)))+zXor (wI (BitVec.rotateRight (wd b (i-2)) 17 ^^^ BitVec.rotateRight (wd b (i-2)) 19)) (zShr (wI (wd b (i-2))) 10)) % 4294967296))))=schR b (i+1):=by
 rw [zShr_3,zShr_10,zsd,zsd,schR_z b i hi,zfd,wrap_l]
 have e:∀a s c t:W32,(IntKind.i64.wrap (wI a+wI s)+wI c+wI t) % 4294967296=wI (a+s+c+t):=λa s c t=>by
  refine zvr _ _ (zvr _ _ ?_ _ _ (zmu c)) _ _ (zmu t)
  rw [zfd,add_w]
 rw [e]
 refine zxi b i hi _ ?_
 rw [sch,if_neg (by omega),zso b i _ (by omega) (by omega),zso b i _ (by omega) (by omega),zso b i _ (by omega) (by omega),zso b i _ (by omega) (by omega)]
 rfl
theorem zN_w(e:W32):zXor (if IntKind.i64.signed=true then -1 else 9223372036854775807) (wI e) % 4294967296=wI (~~~e):=not_w e
theorem sumC(a b:W32):IntKind.i64.wrap (wI a+wI b) % 4294967296=wI (a+b):=by rw [zfd,add_w]
theorem sumT(a s c k w:W32):IntKind.i64.wrap (IntKind.i64.wrap (IntKind.i64.wrap (IntKind.i64.wrap (wI a+wI s)+wI c)+wI k)+wI w) % 4294967296=wI (a+s+c+k+w):=by
 rw [zfd]
 refine zvr _ _ ?_ _ _ (zmu w)
 rw [zfd]
 refine zvr _ _ ?_ _ _ (zmu k)
 rw [zfd]
 refine zvr _ _ ?_ _ _ (zmu c)
 exact sumC a s
theorem sumA(a s c k w p q:W32):IntKind.i64.wrap (IntKind.i64.wrap (IntKind.i64.wrap (IntKind.i64.wrap (IntKind.i64.wrap (wI a+wI s)+wI c)+wI k)+wI w)+IntKind.i64.wrap (wI p+wI q)) % 4294967296=wI (a+s+c+k+w+(p+q)):=by
 rw [zfd]
 exact zvr _ _ (sumT a s c k w) _ _ (sumC p q)
theorem sumB(d a s c k w:W32):IntKind.i64.wrap (wI d+IntKind.i64.wrap (IntKind.i64.wrap (IntKind.i64.wrap (IntKind.i64.wrap (wI a+wI s)+wI c)+wI k)+wI w)) % 4294967296=wI (d+(a+s+c+k+w)):=by
 rw [zfd]
 exact zvr _ _ (zmu d) _ _ (sumT a s c k w)
theorem zsp(b:List UInt8)(h:W8)(i:Nat):runW b h (i+1)=rnd (kd i) (wd b i) (runW b h i):=by rw [runW];rfl
theorem zg6(b:List UInt8)(h:W8):runW b h 0=h:=rfl
theorem rnd_cells(k w:W32)(v:W8):(rnd k w v).cells=[[AV.g (.int .i64 (wI (v.h+(BitVec.rotateRight v.e 6 ^^^ BitVec.rotateRight v.e 11 ^^^ BitVec.rotateRight v.e 25)+(v.e &&& v.f ^^^ ~~~v.e &&& v.g)+k+w+((BitVec.rotateRight v.a 2 ^^^ BitVec.rotateRight v.a 13 ^^^ BitVec.rotateRight v.a 22)+(v.a &&& v.b ^^^ v.a &&& v.c ^^^ v.b &&& v.c)))))],[AV.g (.int .i64 (wI v.a))],[AV.g (.int .i64 (wI v.b))],[AV.g (.int .i64 (wI v.c))],[AV.g (.int .i64 (wI (v.d+(v.h+(BitVec.rotateRight v.e 6 ^^^ BitVec.rotateRight v.e 11 ^^^ BitVec.rotateRight v.e 25)+(v.e &&& v.f ^^^ ~~~v.e &&& v.g)+k+w))))],[AV.g (.int .i64 (wI v.e))],[AV.g (.int .i64 (wI v.f))],[AV.g (.int .i64 (wI v.g))]]:=rfl
theorem tk_len(h:W8)(i:Nat)(hi:i≤8):(h.cells.take i).length=i:=by rw [List.length_take];exact Nat.min_eq_left hi
theorem zxj(h:W8)(i:Nat):scR (h.cells.take i)=true:=by
 by_cases hi:i<8
 ·have:i=0∨i=1∨i=2∨i=3∨i=4∨i=5∨i=6∨i=7:=by omega
  rcases this with rfl | rfl | rfl | rfl | rfl | rfl | rfl | rfl<;>rfl
 ·rw [List.take_of_length_le (by show 8≤i;omega)];rfl
def W8.get(v:W8):Nat→W32
 | 0=>v.a | 1=>v.b | 2=>v.c | 3=>v.d | 4=>v.e | 5=>v.f | 6=>v.g | _=>v.h
theorem zm0(v:W8)(i:Nat)(h:i<8):v.cells[i]? = some (cW (v.get i)):=by
 have:i=0∨i=1∨i=2∨i=3∨i=4∨i=5∨i=6∨i=7:=by omega
 rcases this with rfl | rfl | rfl | rfl | rfl | rfl | rfl | rfl<;>rfl
theorem add8_take(h v:W8)(i:Nat)(hi:i<8):(add8 h v).cells.take (i+1)=(add8 h v).cells.take i++[cW (h.get i+v.get i)]:=by
 have:i=0∨i=1∨i=2∨i=3∨i=4∨i=5∨i=6∨i=7:=by omega
 rcases this with rfl | rfl | rfl | rfl | rfl | rfl | rfl | rfl<;>rfl
theorem cells_len(v:W8):v.cells.length=8:=rfl
theorem zcs(v:W8):scR v.cells=true:=rfl
theorem row8(h:W8):List.take 8 h.cells=h.cells:=rfl
attribute [local simp] cW zdh cells_len row8 zw2 zmv zAnd_w zsd zNot_w zN_w sumA sumB sumC zcs
theorem l3Block(h:W8)(b:List UInt8)(hb:b.length=64):XCall Tryd.prog 55 [.sl 1 h.cells,.s b,.sl 1 (shaK.map cW)] [] (.arr 16 0 8) [] [.own 1 (blk h b).cells]:=by
 refine zbq Tryd.func55 (by rfl) (by rfl) (by rw [Tryd.ntmps55];exact Nat.le_of_ble_eq_true rfl) rfl (by simp) rfl rfl ?_
 rw [Tryd.ntmps55]
 refine zdk   ?_
 refine AW_k [(0,_),(1,_),(2,_)] ⟨rfl,rfl,rfl,trivial⟩ ?_
 refine AW_x rfl rfl λK hK=>?_
 simp (disch:=omega)
 refine hK _ ?_;clear hK K
 refine AW_x rfl rfl λK hK=>?_
 simp (disch:=omega)
 refine hK _ ?_;clear hK K
 refine zbe ?_
 refine AW_x rfl rfl λK hK=>?_
 simp (disch:=omega)
 refine hK _ ?_;clear hK K
 refine zbi ?_
 refine zbt (λmM sS=>∃(i:Nat),mM=16-i∧(i≤16)∧sS = { env:=lkE [(0,.sl 1 h.cells),(1,.s b),(2,.sl 1 (shaK.map cW)),(7,.arr 501 0 64),(8,(.g (.int .i64 ((i:Nat)))))],ob:=lk [(501,.win 1 (schR b i))] }) ?_ ?_
 ·refine ⟨_,LeS.kx [(501,336)] [(0,.sl 1 h.cells),(1,.s b),(2,.sl 1 (shaK.map cW)),(7,.arr 501 0 64),(8,(.g (.int .i64 (((0):Nat)))))] [(501,.win 1 (schR b (0)))] (by simp [zG9,KpR,renV2,renV,zbj,zdo,zdh]) (by simp [zG9,KpOX,renO,plO,cvO,renV,pl1,zdo,zdh];(simp [schR,sch];done)) (by rfl) (by simp) (by simp) (by rfl) (by simp [zG10,formsX]),_,0,rfl,?_,rfl⟩
  ·simp
 ·rintro mM sS ⟨i,rfl,hi,rfl⟩
  refine zbe ?_
  refine AW_x rfl rfl λK hK=>?_
  simp (disch:=omega)
  refine hK _ ?_;clear hK K
  refine zbg rfl (λhc1=>?_) (λhc1=>?_)
  ·try simp at hc1
   have hi2:i<16:=by omega
   refine zbh ?_
   refine zbm ?_
   refine zbe ?_
   refine zbi ?_
   refine zje rfl mix (by kernel_rfl) (by kernel_rfl) λK hK=>?_
   simp (disch:=omega)
   repeat' first|(refine ⟨by omega,?_⟩) | fail
   refine hK _ _ (by kernel_rfl) ?_;clear hK K
   refine zbm ?_
   refine zb4 rfl rfl λK hK=>?_
   simp (disch:=omega)
   refine hK _ ?_;clear hK K
   refine ⟨_,LeS.kx [(501,501)] [(0,.sl 1 h.cells),(1,.s b),(2,.sl 1 (shaK.map cW)),(7,.arr 501 0 64),(8,(.g (.int .i64 (((i+1):Nat)))))] [(501,.win 1 (schR b (i+1)))] (by simp [zG9,KpR,renV2,renV,zbj,zdo,zdh]) (by simp [zG9,KpOX,renO,plO,cvO,renV,pl1,zdo,zdh];exact la_step b hb i hi2 _ _ _ _) (by rfl) (by simp) (by simp) (by rfl) (by simp [zG10,formsX]),_,?_,i+1,rfl,?_,rfl⟩
   ·omega
   ·omega
  ·try simp at hc1
   have hil:i=16:=by omega
   subst hil
   refine zbw ?_
   refine zbm ?_
   refine zbe ?_
   refine AW_x rfl rfl λK hK=>?_
   simp (disch:=omega)
   refine hK _ ?_;clear hK K
   refine zbi ?_
   refine zbt (λmM sS=>∃(i:Nat),mM=64-i∧(16≤i∧i≤64)∧sS = { env:=lkE [(0,.sl 1 h.cells),(1,.s b),(2,.sl 1 (shaK.map cW)),(7,.arr 501 0 64),(9,(.g (.int .i64 ((i:Nat)))))],ob:=lk [(501,.win 1 (schR b i))] }) ?_ ?_
   ·refine ⟨_,LeS.kx [(501,501)] [(0,.sl 1 h.cells),(1,.s b),(2,.sl 1 (shaK.map cW)),(7,.arr 501 0 64),(9,(.g (.int .i64 (((16):Nat)))))] [(501,.win 1 (schR b (16)))] (by simp [zG9,KpR,renV2,renV,zbj,zdo,zdh]) (by simp [zG9,KpOX,renO,plO,cvO,renV,pl1,zdo,zdh];trace_state) (by rfl) (by simp) (by simp) (by rfl) (by simp [zG10,formsX]),_,16,rfl,?_,rfl⟩
    ·simp
   ·rintro mM sS ⟨i,rfl,⟨hi1,hi⟩,rfl⟩
    refine zbe ?_
    refine AW_x rfl rfl λK hK=>?_
    simp (disch:=omega)
    refine hK _ ?_;clear hK K
    refine zbg rfl (λhc2=>?_) (λhc2=>?_)
    ·try simp at hc2
     have hi2:i<64:=by omega
     have g15:(schR b i)[((i:Int)-15).toNat]? = some (cW (wd b (i-15))):=by rw [show ((i:Int)-15).toNat=i-15 by omega];exact zjl b i _ (by omega) hi
     have g2:(schR b i)[((i:Int)-2).toNat]? = some (cW (wd b (i-2))):=by rw [show ((i:Int)-2).toNat=i-2 by omega];exact zjl b i _ (by omega) hi
     have g16:(schR b i)[((i:Int)-16).toNat]? = some (cW (wd b (i-16))):=by rw [show ((i:Int)-16).toNat=i-16 by omega];exact zjl b i _ (by omega) hi
     have g7:(schR b i)[((i:Int)-7).toNat]? = some (cW (wd b (i-7))):=by rw [show ((i:Int)-7).toNat=i-7 by omega];exact zjl b i _ (by omega) hi
     refine zbh ?_
     refine zbm ?_
     refine zbe ?_
     refine zbi ?_
     refine AW_d rfl mix (by kernel_rfl) (by kernel_rfl) λK hK=>?_
     simp (disch:=omega) [g15,g2,g16,g7]
     repeat' first|(refine zjf (λst'=>(zbf zcb (zbf zcb zbn))) (zqm _ _ (by decide)) rfl ?_;simp (disch:=omega) [g15,g2,g16,g7])|(refine ⟨by omega,?_⟩) | fail
     refine hK _ _ (by kernel_rfl) ?_;clear hK K
     refine AW_d rfl mix (by kernel_rfl) (by kernel_rfl) λK hK=>?_
     simp (disch:=omega) [g15,g2,g16,g7]
     repeat' first|(refine zjf (λst'=>(zbf zcb (zbf zcb zbn))) (zqm _ _ (by decide)) rfl ?_;simp (disch:=omega) [g15,g2,g16,g7])|(refine ⟨by omega,?_⟩) | fail
     refine hK _ _ (by kernel_rfl) ?_;clear hK K
     refine zje rfl mix (by kernel_rfl) (by kernel_rfl) λK hK=>?_
     simp (disch:=omega) [g15,g2,g16,g7]
     repeat' first|(refine zjf (λst'=>(zbf zcb zbn)) (zsn _) rfl ?_;simp (disch:=omega) [g15,g2,g16,g7])|(refine ⟨by omega,?_⟩) | fail
     refine hK _ _ (by kernel_rfl) ?_;clear hK K
     refine zbm ?_
     refine zb4 rfl rfl λK hK=>?_
     simp (disch:=omega) [g15,g2,g16,g7]
     refine hK _ ?_;clear hK K
     refine ⟨_,LeS.kx [(501,501)] [(0,.sl 1 h.cells),(1,.s b),(2,.sl 1 (shaK.map cW)),(7,.arr 501 0 64),(9,(.g (.int .i64 (((i+1):Nat)))))] [(501,.win 1 (schR b (i+1)))] (by simp [zG9,KpR,renV2,renV,zbj,zdo,zdh]) (by simp [zG9,KpOX,renO,plO,cvO,renV,pl1,zdo,zdh];exact lb_step b i hi1 hi2) (by rfl) (by simp) (by simp) (by rfl) (by simp [zG10,formsX]),_,?_,i+1,rfl,?_,rfl⟩
     ·omega
     ·omega
    ·try simp at hc2
     have hil:i=64:=by omega
     subst hil
     refine zbw ?_
     refine zbm ?_
     refine AW_x rfl rfl λK hK=>?_
     simp (disch:=omega)
     refine hK _ ?_;clear hK K
     refine zbe ?_
     refine AW_x rfl rfl λK hK=>?_
     simp (disch:=omega)
     refine hK _ ?_;clear hK K
     refine zbi ?_
     refine zbt (λmM sS=>∃(i:Nat),mM=64-i∧(i≤64)∧sS = { env:=lkE [(0,.sl 1 h.cells),(2,.sl 1 (shaK.map cW)),(7,.arr 501 0 64),(12,.arr 502 0 8),(13,(.g (.int .i64 ((i:Nat)))))],ob:=lk [(501,.win 1 (schR b 64)),(502,.win 1 (runW b h i).cells)] }) ?_ ?_
     ·refine ⟨_,LeS.kx [(501,501),(502,1968)] [(0,.sl 1 h.cells),(2,.sl 1 (shaK.map cW)),(7,.arr 501 0 64),(12,.arr 502 0 8),(13,(.g (.int .i64 (((0):Nat)))))] [(501,.win 1 (schR b 64)),(502,.win 1 (runW b h (0)).cells)] (by simp [zG9,KpR,renV2,renV,zbj,zdo,zdh,zcs,cells_len];trace_state) (by simp [zG9,KpOX,renO,plO,cvO,renV,pl1,zdo,zdh,zcs,cells_len];(rw [zg6];done)) (by rfl) (by simp) (by simp) (by rfl) (by simp [zG10,formsX]),_,0,rfl,?_,rfl⟩
      ·simp
     ·rintro mM sS ⟨i,rfl,hi,rfl⟩
      refine zbe ?_
      refine AW_x rfl rfl λK hK=>?_
      simp (disch:=omega)
      refine hK _ ?_;clear hK K
      refine zbg rfl (λhc3=>?_) (λhc3=>?_)
      ·try simp at hc3
       have hi2:i<64:=by omega
       have gw:(schR b 64)[i]? = some (cW (wd b i)):=zjl b 64 i hi2 (by omega)
       have gk:=kd_at i hi2
       obtain ⟨v,hv⟩:∃v,runW b h i=v:=⟨_,rfl⟩
       rw [hv]
       refine zbh ?_
       refine zbm ?_
       refine zbe ?_
       refine zbi ?_
       refine AW_x rfl rfl λK hK=>?_
       simp (disch:=omega) [gw,gk,W8.cells]
       refine hK _ ?_;clear hK K
       refine AW_x rfl rfl λK hK=>?_
       simp (disch:=omega) [gw,gk,W8.cells]
       refine hK _ ?_;clear hK K
       refine AW_d rfl mix (by kernel_rfl) (by kernel_rfl) λK hK=>?_
       simp (disch:=omega) [gw,gk,W8.cells]
       repeat' first|(refine zjf (λst'=>(zbf zcb (zbf zcb zbn))) (zqm _ _ (by decide)) rfl ?_;simp (disch:=omega) [gw,gk,W8.cells])|(refine zjf (λst'=>(zbf zcb zbn)) (zsn _) rfl ?_;simp (disch:=omega) [gw,gk,W8.cells])|(refine ⟨by omega,?_⟩) | fail
       refine hK _ _ (by kernel_rfl) ?_;clear hK K
       refine AW_d rfl mix (by kernel_rfl) (by kernel_rfl) λK hK=>?_
       simp (disch:=omega) [gw,gk,W8.cells]
       repeat' first|(refine zjf (λst'=>(zbf zcb (zbf zcb zbn))) (zqm _ _ (by decide)) rfl ?_;simp (disch:=omega) [gw,gk,W8.cells]) | fail
       refine hK _ _ (by kernel_rfl) ?_;clear hK K
       refine zje rfl mix (by kernel_rfl) (by kernel_rfl) λK hK=>?_
       simp (disch:=omega) [gw,gk,W8.cells]
       repeat' first|(refine zjf (λst'=>(zbf zcb zbn)) (zsn _) rfl ?_;simp (disch:=omega) [gw,gk,W8.cells]) | fail
       refine hK _ _ (by kernel_rfl) ?_;clear hK K
       refine zbm ?_
       refine zb4 rfl rfl λK hK=>?_
       simp (disch:=omega) [gw,gk,W8.cells]
       refine hK _ ?_;clear hK K
       refine ⟨_,LeS.kx [(501,501),(502,3616)] [(0,.sl 1 h.cells),(2,.sl 1 (shaK.map cW)),(7,.arr 501 0 64),(12,.arr 502 0 8),(13,(.g (.int .i64 (((i+1):Nat)))))] [(501,.win 1 (schR b 64)),(502,.win 1 (runW b h (i+1)).cells)] (by simp [zG9,KpR,renV2,renV,zbj,zdo,zdh,zcs,cells_len];exact (show _=W8.cells _ from rfl)) (by simp [zG9,KpOX,renO,plO,cvO,renV,pl1,zdo,zdh,zcs,cells_len];(rw [zsp,hv,rnd_cells];done)) (by rfl) (by simp) (by simp) (by rfl) (by simp [zG10,formsX]),_,?_,i+1,rfl,?_,rfl⟩
       ·omega
       ·omega
      ·try simp at hc3
       have hil:i=64:=by omega
       subst hil
       obtain ⟨v,hv⟩:∃v,runW b h 64=v:=⟨_,rfl⟩
       rw [hv]
       refine zbw ?_
       refine zbm ?_
       refine AW_x rfl rfl λK hK=>?_
       simp (disch:=omega)
       refine hK _ ?_;clear hK K
       refine zbe ?_
       refine AW_x rfl rfl λK hK=>?_
       simp (disch:=omega)
       refine hK _ ?_;clear hK K
       refine zbi ?_
       refine zbt (λmM sS=>∃(i:Nat),mM=8-i∧(i≤8)∧sS = { env:=lkE [(0,.sl 1 h.cells),(12,.arr 502 0 8),(18,.arr 503 0 i),(19,(.g (.int .i64 ((i:Nat)))))],ob:=lk [(502,.win 1 v.cells),(503,.win 1 ((add8 h v).cells.take i))] }) ?_ ?_
       ·refine ⟨_,LeS.kx [(502,502),(503,3632)] [(0,.sl 1 h.cells),(12,.arr 502 0 8),(18,.arr 503 0 (0)),(19,(.g (.int .i64 (((0):Nat)))))] [(502,.win 1 v.cells),(503,.win 1 ((add8 h v).cells.take (0)))] (by simp [zG9,KpR,renV2,renV,zbj,zcs,cells_len,zxj];trace_state) (by simp [zG9,KpOX,renO,plO,cvO,renV,pl1,zcs,cells_len,zxj];trace_state) (by rfl) (by simp) (by simp) (by rfl) (by simp [zG10,formsX]),_,0,rfl,?_,rfl⟩
        ·simp
       ·rintro mM sS ⟨i,rfl,hi,rfl⟩
        have htl:=tk_len (add8 h v) i hi
        refine zbe ?_
        refine AW_x rfl rfl λK hK=>?_
        simp (disch:=omega) [htl]
        refine hK _ ?_;clear hK K
        refine zbg rfl (λhc4=>?_) (λhc4=>?_)
        ·try simp at hc4
         have hi2:i<8:=by omega
         have gh:=zm0 h i hi2
         have gv:=zm0 v i hi2
         refine zbh ?_
         refine zbm ?_
         refine zbe ?_
         refine zbi ?_
         refine zje rfl mix (by kernel_rfl) (by kernel_rfl) λK hK=>?_
         simp (disch:=omega) [htl,gh,gv]
         repeat' first|(refine zjf (λst'=>(zbf zcb zbn)) (zsn _) rfl ?_;simp (disch:=omega) [htl,gh,gv])|(refine ⟨by omega,?_⟩) | fail
         refine hK _ _ (by kernel_rfl) ?_;clear hK K
         refine zbm ?_
         refine zb4 rfl rfl λK hK=>?_
         simp (disch:=omega) [htl,gh,gv]
         refine hK _ ?_;clear hK K
         refine ⟨_,LeS.kx [(502,502),(503,3904)] [(0,.sl 1 h.cells),(12,.arr 502 0 8),(18,.arr 503 0 (i+1)),(19,(.g (.int .i64 (((i+1):Nat)))))] [(502,.win 1 v.cells),(503,.win 1 ((add8 h v).cells.take (i+1)))] (by simp [zG9,KpR,renV2,renV,zbj,zcs,cells_len,zxj];trace_state) (by simp [zG9,KpOX,renO,plO,cvO,renV,pl1,zcs,cells_len,zxj];(rw [add8_take _ _ _ hi2,List.take_of_length_le (by simp [htl])];rfl)) (by rfl) (by simp) (by simp) (by rfl) (by simp [zG10,formsX]),_,?_,i+1,rfl,?_,rfl⟩
         ·omega
         ·omega
        ·try simp at hc4
         have hil:i=8:=by omega
         subst hil
         refine zbw ?_
         refine zbm ?_
         refine AW_x rfl rfl λK hK=>?_
         simp (disch:=omega) [htl]
         refine hK _ ?_;clear hK K
         refine zbo (zb7 [503] [] (by simp [zG9,List.range_succ]) (by simp) ?_)
         simp (disch:=omega) [htl]
         (unfold blk;rw [hv];done)
end Go.Proofs.YtodmafgmdlkhoaaDoor.Vs
end
