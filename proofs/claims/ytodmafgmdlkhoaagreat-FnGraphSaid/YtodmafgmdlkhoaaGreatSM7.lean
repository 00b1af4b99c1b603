import Derived.Test.YtodmafgmdlkhoaaGreatSM6
import Derived.Test.YtodmafgmdlkhoaaGreatVs10
section
open Go Go.Proofs Go.Proofs.YtodmafgmdlkhoaaGreat.Vs
namespace Go.Proofs.YtodmafgmdlkhoaaGreat.Vs
set_option linter.all false
set_option linter.unusedSimpArgs false
set_option linter.unusedVariables false
set_option maxRecDepth 100000
set_option maxHeartbeats 4000000
/-! the order in which all is done -/
noncomputable def partsR(l:List DtInst):List (List DtId):=bif decB (InstsP l) then partsL l else []
theorem zfp{l:List DtInst}(h:InstsP l):partsR l=partsL l:=by unfold partsR;rw [zcb h];rfl
theorem zgz{l:List DtInst}(h:¬InstsP l):partsR l=[]:=by unfold partsR;rw [zce h];rfl
theorem zfc(l:List DtInst):(partsR l).length≤18∧(∀p∈partsR l,p.length≤18)∧(partsR l).flatten.length≤324:=by
 by_cases h:InstsP l
 ·rw [zfp h];exact zl9 h (zgo h)
 ·rw [zgz h];simp
theorem znt(l:List DtInst)(i:Nat):((partsR l).take i).flatten.length≤324:=by
 have h:=(zfc l).2.2
 have e:=List.take_append_drop i (partsR l)
 rw [←e,List.flatten_append,List.length_append] at h
 omega
theorem zxc(ps:List (List DtId))(i:Nat)(h:i<ps.length):(ps.take (i+1)).flatten=(ps.take i).flatten++ps[i]:=by
 rw [List.take_succ_eq_append_getElem h,List.flatten_append];simp
theorem zxd(ps:List (List DtId))(i:Nat)(h:ps.length≤i):(ps.take i).flatten=ps.flatten:=by rw [List.take_of_length_le h]
theorem takeF_0(ps:List (List DtId)):(ps.take 0).flatten=[]:=by simp
def zG23:=And.intro @zb4 (And.intro @gE (And.intro @tP (And.intro @zbh (And.intro @zbv (And.intro @and_assoc (And.intro @zbb (And.intro @zbf (And.intro @zq8 (And.intro @zwi (And.intro @pcE_nil @zhh))))))))))
def zG24:=And.intro @zbb (And.intro @zbf (And.intro @zco @zcu))
theorem implPartsF(l:List DtInst)(hs:szS DtInst.sz l≤1048576)(hp:¬InstsP l):PCall Tryz.prog 15 [.sl 16 (l.map DtInst.cells)] (.sl 1 (([]:List (List DtId)).map cP)):=by
 have hpb:=zce hp
 have hpf:InstsP l=False:=propext ⟨hp,False.elim⟩
 refine zdt Tryz.func15 (by rfl) (by rfl) (by rw [Tryz.ntmps15];exact Nat.le_of_ble_eq_true rfl) ?_
 rw [Tryz.ntmps15]
 refine zfl ?_
 refine AW_k [(0,_)] ⟨rfl,trivial⟩ ?_
 refine AW_x rfl rfl λK hK=>?_
 simp (disch:=omega) [zG23,DtInst.cells,DtCmd.cells,DtId.cells,cP,-List.length_flatten,-List.map_flatten,hpb]
 repeat' first|(refine ⟨by omega,?_⟩)|(intro _)
 refine hK _ ?_;clear hK K
 refine zbj ?_
 refine AW_x rfl rfl λK hK=>?_
 simp (disch:=omega) [zG23,DtInst.cells,DtCmd.cells,DtId.cells,cP,-List.length_flatten,-List.map_flatten,hpb]
 repeat' first|(exfalso;omega)|(refine zcx (zbc zbw zbi) (zct _ (by assumption)) rfl ?_;simp (disch:=omega) [zG23,DtInst.cells,DtCmd.cells,DtId.cells,cP,-List.length_flatten,-List.map_flatten,hpb])|(refine zcy (zct _ (by assumption)) (by rfl) ?_ ?_;(focus (simp (disch:=omega) [zG23,DtInst.cells,DtCmd.cells,DtId.cells,cP,-List.length_flatten,-List.map_flatten,hpb];done));simp (disch:=omega) [zG23,DtInst.cells,DtCmd.cells,DtId.cells,cP,-List.length_flatten,-List.map_flatten,hpb])|(refine ⟨by omega,?_⟩)|(simp (disch:=omega) [zG23,DtInst.cells,DtCmd.cells,DtId.cells,cP,-List.length_flatten,-List.map_flatten,hpb])|(intro _)
 refine hK _ ?_;clear hK K
 refine zbm rfl (λhc1=>?_) (λhc1=>?_)
 ·try simp [zG24,zbe,zbd,hpf] at hc1
  all_goals
   refine AW_x rfl rfl λK hK=>?_
   simp (disch:=omega) [zG23,DtInst.cells,DtCmd.cells,DtId.cells,cP,-List.length_flatten,-List.map_flatten,hpb]
   repeat' first|(exfalso;omega)|(refine ⟨λ_=>?_,λ_=>?_⟩)|(refine ⟨by omega,?_⟩)|(simp (disch:=omega) [zG23,DtInst.cells,DtCmd.cells,DtId.cells,cP,-List.length_flatten,-List.map_flatten,hpb])|(intro _)
   all_goals (refine hK _ ?_;clear hK K)
   all_goals
    refine zbr (zh6 ?_)
    simp (disch:=omega) [zG23,DtInst.cells,DtCmd.cells,DtId.cells,cP,-List.length_flatten,-List.map_flatten,hpb]
    all_goals first|(simp;done) | trace_state
 ·try simp [zG24,zbe,zbd,hpf] at hc1
def zG25:=And.intro @List.range_succ (And.intro @zbp @zb0)
theorem specPartsF(l:List DtInst)(hs:szS DtInst.sz l≤1048576)(hp:¬InstsP l):PCall Tryz.prog 33 [.sl 16 (l.map DtInst.cells)] (.sl 1 (([]:List (List DtId)).map cP)):=by
 have hpb:=zce hp
 have hpf:InstsP l=False:=propext ⟨hp,False.elim⟩
 refine zdt Tryz.func33 (by rfl) (by rfl) (by rw [Tryz.ntmps33];exact Nat.le_of_ble_eq_true rfl) ?_
 rw [Tryz.ntmps33]
 refine zfl ?_
 refine AW_k [(0,_)] ⟨rfl,trivial⟩ ?_
 refine AW_x rfl rfl λK hK=>?_
 simp (disch:=omega) [zG23,DtInst.cells,DtCmd.cells,DtId.cells,cP,-List.length_flatten,-List.map_flatten,hpb]
 repeat' first|(exfalso;omega)|(refine ⟨λ_=>?_,λ_=>?_⟩)|(refine ⟨by omega,?_⟩)|(simp (disch:=omega) [zG23,DtInst.cells,DtCmd.cells,DtId.cells,cP,-List.length_flatten,-List.map_flatten,hpb])|(intro _)
 all_goals (refine hK _ ?_;clear hK K)
 all_goals
  refine AW_x rfl rfl λK hK=>?_
  simp (disch:=omega) [zG23,DtInst.cells,DtCmd.cells,DtId.cells,cP,-List.length_flatten,-List.map_flatten,hpb]
  repeat' first|(refine ⟨by omega,?_⟩)|(simp (disch:=omega) [zG23,DtInst.cells,DtCmd.cells,DtId.cells,cP,-List.length_flatten,-List.map_flatten,hpb])|(intro _)
  refine hK _ ?_;clear hK K
  refine AW_x rfl rfl λK hK=>?_
  simp (disch:=omega) [zG23,DtInst.cells,DtCmd.cells,DtId.cells,cP,-List.length_flatten,-List.map_flatten,hpb]
  repeat' first|(refine ⟨by omega,?_⟩)|(simp (disch:=omega) [zG23,DtInst.cells,DtCmd.cells,DtId.cells,cP,-List.length_flatten,-List.map_flatten,hpb])|(intro _)
  refine hK _ ?_;clear hK K
  refine zbj ?_
  refine zbl ?_
  refine zby (λmM sS=>∃(out:List (List DtId)),mM=0*out.length∧(out=[])∧sS = { env:=lkE [(0,.sl 16 (l.map DtInst.cells)),(3,.arr 501 0 out.length),(4,.arr 502 0 out.flatten.length)],ob:=lk [(501,.win 1 (out.map cP)),(502,.win 2 (out.flatten.map DtId.cells))] }) ?_ ?_
  ·refine ⟨_,LeS.kw [(501,144),(502,160)] [(0,.sl 16 (l.map DtInst.cells)),(3,.arr 501 0 ([]).length),(4,.arr 502 0 ([]).flatten.length)] [(501,.win 1 (([]).map cP)),(502,.win 2 (([]).flatten.map DtId.cells))] (by simp [KpR,renV2,renV,zbt,zbk,zbp,zb0,DtId.cells,zbv,cP,zc5,zhh];try rfl) (by simp [KpOW,wnO,renO,plO,cvO,renV,pl1,zbp,zb0,zbt,DtId.cells,zbv,cP,zc5,zhh];try rfl) (by rfl) (by simp) (by simp) (by rfl) (by simp [zG25,formsX]),_,[],rfl,?_,rfl⟩
   ·rfl
  ·rintro mM sS ⟨out,rfl,ho,rfl⟩
   refine zbj ?_
   refine AW_x rfl rfl λK hK=>?_
   simp (disch:=omega) [zG23,DtInst.cells,DtCmd.cells,DtId.cells,cP,-List.length_flatten,-List.map_flatten,hpb]
   repeat' first|(exfalso;omega)|(refine zcx (zbc zbw zbi) (zdv _ (by assumption)) rfl ?_;simp (disch:=omega) [zG23,DtInst.cells,DtCmd.cells,DtId.cells,cP,-List.length_flatten,-List.map_flatten,hpb])|(refine zcy (zdv _ (by assumption)) (by rfl) ?_ ?_;(focus (simp (disch:=omega) [zG23,DtInst.cells,DtCmd.cells,DtId.cells,cP,-List.length_flatten,-List.map_flatten,hpb];done));simp (disch:=omega) [zG23,DtInst.cells,DtCmd.cells,DtId.cells,cP,-List.length_flatten,-List.map_flatten,hpb])|(refine ⟨by omega,?_⟩)|(simp (disch:=omega) [zG23,DtInst.cells,DtCmd.cells,DtId.cells,cP,-List.length_flatten,-List.map_flatten,hpb])|(intro _)
   refine hK _ ?_;clear hK K
   refine zbm rfl (λhc2=>?_) (λhc2=>?_)
   ·try simp [zG24,zbe,zbd,hpf] at hc2
    all_goals
     refine zbn ?_
     refine zbq ?_
     refine zbl ?_
     refine AW_x rfl rfl λK hK=>?_
     simp (disch:=omega) [zG23,DtInst.cells,DtCmd.cells,DtId.cells,cP,-List.length_flatten,-List.map_flatten,hpb]
     repeat' first|(exfalso;omega)|(refine ⟨λ_=>?_,λ_=>?_⟩)|(refine ⟨by omega,?_⟩)|(simp (disch:=omega) [zG23,DtInst.cells,DtCmd.cells,DtId.cells,cP,-List.length_flatten,-List.map_flatten,hpb])|(intro _)
     all_goals (refine hK _ ?_;clear hK K)
     all_goals
      refine zbj ?_
      refine AW_x rfl rfl λK hK=>?_
      simp (disch:=omega) [zG23,DtInst.cells,DtCmd.cells,DtId.cells,cP,-List.length_flatten,-List.map_flatten,hpb]
      repeat' first|(refine ⟨by omega,?_⟩)|(intro _)
      refine hK _ ?_;clear hK K
      refine zbl ?_
      done
   ·try simp [zG24,zbe,zbd,hpf] at hc2
    all_goals
     refine zb3 ?_
     refine zbq ?_
     refine AW_x rfl rfl λK hK=>?_
     simp (disch:=omega) [zG23,DtInst.cells,DtCmd.cells,DtId.cells,cP,-List.length_flatten,-List.map_flatten,hpb]
     repeat' first|(exfalso;omega)|(refine ⟨λ_=>?_,λ_=>?_⟩)|(refine ⟨by omega,?_⟩)|(simp (disch:=omega) [zG23,DtInst.cells,DtCmd.cells,DtId.cells,cP,-List.length_flatten,-List.map_flatten,hpb])|(intro _)
     all_goals (refine hK _ ?_;clear hK K)
     all_goals
      refine zbr (zh6 ?_)
      simp (disch:=omega) [zG23,DtInst.cells,DtCmd.cells,DtId.cells,cP,-List.length_flatten,-List.map_flatten,hpb]
      all_goals first|(subst ho;simp;done) | trace_state
theorem zh0(l:List DtInst)(hs:szS DtInst.sz l≤1048576)(hn:l.length≤1048576)(hm:∀x∈l,InstSm x):PCall Tryz.prog 15 [.sl 16 (l.map DtInst.cells)] (.sl 1 ((partsR l).map cP)):=by
 by_cases h:InstsP l
 ·rw [zfp h];exact implParts l hs hn hm h
 ·rw [zgz h];exact implPartsF l hs h
theorem zp3(l:List DtInst)(hs:szS DtInst.sz l≤1048576)(hn:l.length≤1048576):PCall Tryz.prog 33 [.sl 16 (l.map DtInst.cells)] (.sl 1 ((partsR l).map cP)):=by
 by_cases h:InstsP l
 ·rw [zfp h];exact specParts l hs hn h
 ·rw [zgz h];exact specPartsF l hs h
def zG26:=And.intro @zbp (And.intro @zb0 (And.intro @zbt (And.intro @zbv @takeF_0)))
theorem implOrder(l:List DtInst)(hs:szS DtInst.sz l≤1048576)(hn:l.length≤1048576)(hm:∀x∈l,InstSm x):PCall Tryz.prog 7 [.sl 16 (l.map DtInst.cells)] (.sl 2 ((partsR l).flatten.map DtId.cells)):=by
 have hpr:=(zfc l).1
 refine zdt Tryz.func7 (by rfl) (by rfl) (by rw [Tryz.ntmps7];exact Nat.le_of_ble_eq_true rfl) ?_
 rw [Tryz.ntmps7]
 refine zfl ?_
 refine AW_k [(0,_)] ⟨rfl,trivial⟩ ?_
 refine AW_x rfl rfl λK hK=>?_
 simp (disch:=omega) [zG23,DtInst.cells,DtCmd.cells,DtId.cells,cP,-List.length_flatten,-List.map_flatten]
 repeat' first|(refine ⟨by omega,?_⟩)|(intro _)
 refine hK _ ?_;clear hK K
 refine AW_x rfl rfl λK hK=>?_
 simp (disch:=omega) [zG23,DtInst.cells,DtCmd.cells,DtId.cells,cP,-List.length_flatten,-List.map_flatten]
 repeat' first|(refine ⟨by omega,?_⟩)|(simp (disch:=omega) [zG23,DtInst.cells,DtCmd.cells,DtId.cells,cP,-List.length_flatten,-List.map_flatten])|(intro _)
 refine hK _ ?_;clear hK K
 refine zbj ?_
 refine AW_x rfl rfl λK hK=>?_
 simp (disch:=omega) [zG23,DtInst.cells,DtCmd.cells,DtId.cells,cP,-List.length_flatten,-List.map_flatten]
 repeat' first|(exfalso;omega)|(refine zcx (zbc zbw zbi) (zh0 l hs hn hm) rfl ?_;simp (disch:=omega) [zG23,DtInst.cells,DtCmd.cells,DtId.cells,cP,-List.length_flatten,-List.map_flatten])|(refine zcy (zh0 l hs hn hm) (by rfl) ?_ ?_;(focus (simp (disch:=omega) [zG23,DtInst.cells,DtCmd.cells,DtId.cells,cP,-List.length_flatten,-List.map_flatten];done));simp (disch:=omega) [zG23,DtInst.cells,DtCmd.cells,DtId.cells,cP,-List.length_flatten,-List.map_flatten])|(refine ⟨by omega,?_⟩)|(simp (disch:=omega) [zG23,DtInst.cells,DtCmd.cells,DtId.cells,cP,-List.length_flatten,-List.map_flatten])|(intro _)
 refine hK _ ?_;clear hK K
 refine zbl ?_
 refine zby (λmM sS=>∃(i:Nat),mM=(partsR l).length-i∧(i≤(partsR l).length)∧sS = { env:=lkE [(3,.arr 501 0 ((partsR l).take i).flatten.length),(8,.sl 1 ((partsR l).map cP)),(9,(.g (.int .i64 (((partsR l).length:Nat))))),(10,(.g (.int .i64 ((i:Nat)))))],ob:=lk [(501,.win 2 (((partsR l).take i).flatten.map DtId.cells))] }) ?_ ?_
 ·refine ⟨_,LeS.kx [(501,112)] [(3,.arr 501 0 ((partsR l).take (0)).flatten.length),(8,.sl 1 ((partsR l).map cP)),(9,(.g (.int .i64 (((partsR l).length:Nat))))),(10,(.g (.int .i64 (((0):Nat)))))] [(501,.win 2 (((partsR l).take (0)).flatten.map DtId.cells))] (by simp [zG26,KpR,renV2,renV,zbk,DtId.cells,-List.length_flatten,-List.map_flatten];try (first | rfl|(rw [hts];simp;done))) (by simp [zG26,KpOX,renO,plO,cvO,renV,pl1,DtId.cells,-List.length_flatten,-List.map_flatten];try (first | rfl|(rw [hts];simp;done))) (by rfl) (by simp) (by simp) (by rfl) (by simp [zG25,formsX]),_,0,rfl,?_,rfl⟩
  ·simp
 ·rintro mM sS ⟨i,rfl,hi,rfl⟩
  have htk:=znt l i
  refine AW_x rfl rfl λK hK=>?_
  simp (disch:=omega) [zG23,DtInst.cells,DtCmd.cells,DtId.cells,cP,-List.length_flatten,-List.map_flatten]
  repeat' first|(refine ⟨by omega,?_⟩)|(intro _)
  refine hK _ ?_;clear hK K
  refine zbj ?_
  refine zbm rfl (λhc3=>?_) (λhc3=>?_)
  ·try simp [zG24,zbe,zbd] at hc3
   all_goals
    have hts:=zxc (partsR l) i (by omega)
    have hp18:=(zfc l).2.1 (partsR l)[i] (List.getElem_mem _)
    refine zbn ?_
    refine zbq ?_
    refine zbj ?_
    refine zbl ?_
    refine AW_x rfl rfl λK hK=>?_
    simp (disch:=omega) [zG23,DtInst.cells,DtCmd.cells,DtId.cells,cP,-List.length_flatten,-List.map_flatten]
    repeat' first|(exfalso;omega)|(refine ⟨λ_=>?_,λ_=>?_⟩)|(refine ⟨by omega,?_⟩)|(simp (disch:=omega) [zG23,DtInst.cells,DtCmd.cells,DtId.cells,cP,-List.length_flatten,-List.map_flatten])|(intro _)
    all_goals (refine hK _ ?_;clear hK K)
    all_goals
     refine zcc rfl rfl λK hK=>?_
     simp (disch:=omega) [zG23,DtInst.cells,DtCmd.cells,DtId.cells,cP,-List.length_flatten,-List.map_flatten]
     repeat' first|(refine ⟨by omega,?_⟩)|(simp (disch:=omega) [zG23,DtInst.cells,DtCmd.cells,DtId.cells,cP,-List.length_flatten,-List.map_flatten])|(intro _)
     refine hK _ ?_;clear hK K
     refine zbq ?_
     refine zcc rfl rfl λK hK=>?_
     simp (disch:=omega) [zG23,DtInst.cells,DtCmd.cells,DtId.cells,cP,-List.length_flatten,-List.map_flatten]
     repeat' first|(refine ⟨by omega,?_⟩)|(intro _)
     refine hK _ ?_;clear hK K
     refine ⟨_,LeS.kx [(501,272)] [(3,.arr 501 0 ((partsR l).take (i+1)).flatten.length),(8,.sl 1 ((partsR l).map cP)),(9,(.g (.int .i64 (((partsR l).length:Nat))))),(10,(.g (.int .i64 (((i+1):Nat)))))] [(501,.win 2 (((partsR l).take (i+1)).flatten.map DtId.cells))] (by simp [zG26,KpR,renV2,renV,zbk,DtId.cells,-List.length_flatten,-List.map_flatten];try (first | rfl|(rw [hts];simp;done))) (by simp [zG26,KpOX,renO,plO,cvO,renV,pl1,DtId.cells,-List.length_flatten,-List.map_flatten];try (first | rfl|(rw [hts];simp;done))) (by rfl) (by simp) (by simp) (by rfl) (by simp [zG25,formsX]),_,?_,i+1,rfl,?_,rfl⟩
     ·omega
     ·omega
  ·try simp [zG24,zbe,zbd] at hc3
   all_goals
    refine zb3 ?_
    refine zbq ?_
    refine AW_x rfl rfl λK hK=>?_
    simp (disch:=omega) [zG23,DtInst.cells,DtCmd.cells,DtId.cells,cP,-List.length_flatten,-List.map_flatten]
    repeat' first|(exfalso;omega)|(refine ⟨λ_=>?_,λ_=>?_⟩)|(refine ⟨by omega,?_⟩)|(simp (disch:=omega) [zG23,DtInst.cells,DtCmd.cells,DtId.cells,cP,-List.length_flatten,-List.map_flatten])|(intro _)
    all_goals (refine hK _ ?_;clear hK K)
    all_goals
     refine zbr (zh6 ?_)
     simp (disch:=omega) [zG23,DtInst.cells,DtCmd.cells,DtId.cells,cP,-List.length_flatten,-List.map_flatten]
     all_goals first|(rw [zxd _ i (by omega)];exact ⟨zjq _ (λ_=>rfl) _,rfl⟩) | trace_state
theorem specOrder(l:List DtInst)(hs:szS DtInst.sz l≤1048576)(hn:l.length≤1048576):PCall Tryz.prog 9 [.sl 16 (l.map DtInst.cells)] (.sl 2 ((partsR l).flatten.map DtId.cells)):=by
 have hpr:=(zfc l).1
 refine zdt Tryz.func9 (by rfl) (by rfl) (by rw [Tryz.ntmps9];exact Nat.le_of_ble_eq_true rfl) ?_
 rw [Tryz.ntmps9]
 refine zfl ?_
 refine AW_k [(0,_)] ⟨rfl,trivial⟩ ?_
 refine AW_x rfl rfl λK hK=>?_
 simp (disch:=omega) [zG23,DtInst.cells,DtCmd.cells,DtId.cells,cP,-List.length_flatten,-List.map_flatten]
 repeat' first|(refine ⟨by omega,?_⟩)|(intro _)
 refine hK _ ?_;clear hK K
 refine AW_x rfl rfl λK hK=>?_
 simp (disch:=omega) [zG23,DtInst.cells,DtCmd.cells,DtId.cells,cP,-List.length_flatten,-List.map_flatten]
 repeat' first|(refine ⟨by omega,?_⟩)|(simp (disch:=omega) [zG23,DtInst.cells,DtCmd.cells,DtId.cells,cP,-List.length_flatten,-List.map_flatten])|(intro _)
 refine hK _ ?_;clear hK K
 refine AW_x rfl rfl λK hK=>?_
 simp (disch:=omega) [zG23,DtInst.cells,DtCmd.cells,DtId.cells,cP,-List.length_flatten,-List.map_flatten]
 repeat' first|(exfalso;omega)|(refine zcx (zbc zbw zbi) (zp3 l hs hn) rfl ?_;simp (disch:=omega) [zG23,DtInst.cells,DtCmd.cells,DtId.cells,cP,-List.length_flatten,-List.map_flatten])|(refine zcy (zp3 l hs hn) (by rfl) ?_ ?_;(focus (simp (disch:=omega) [zG23,DtInst.cells,DtCmd.cells,DtId.cells,cP,-List.length_flatten,-List.map_flatten];done));simp (disch:=omega) [zG23,DtInst.cells,DtCmd.cells,DtId.cells,cP,-List.length_flatten,-List.map_flatten])|(refine ⟨by omega,?_⟩)|(simp (disch:=omega) [zG23,DtInst.cells,DtCmd.cells,DtId.cells,cP,-List.length_flatten,-List.map_flatten])|(intro _)
 refine hK _ ?_;clear hK K
 refine zbj ?_
 refine AW_x rfl rfl λK hK=>?_
 simp (disch:=omega) [zG23,DtInst.cells,DtCmd.cells,DtId.cells,cP,-List.length_flatten,-List.map_flatten]
 repeat' first|(refine ⟨by omega,?_⟩)|(intro _)
 refine hK _ ?_;clear hK K
 refine zbl ?_
 refine zby (λmM sS=>∃(i:Nat),mM=(partsR l).length-i∧(i≤(partsR l).length)∧sS = { env:=lkE [(3,.arr 501 0 ((partsR l).take i).flatten.length),(4,.sl 1 ((partsR l).map cP)),(5,(.g (.int .i64 ((i:Nat)))))],ob:=lk [(501,.win 2 (((partsR l).take i).flatten.map DtId.cells))] }) ?_ ?_
 ·refine ⟨_,LeS.kx [(501,112)] [(3,.arr 501 0 ((partsR l).take (0)).flatten.length),(4,.sl 1 ((partsR l).map cP)),(5,(.g (.int .i64 (((0):Nat)))))] [(501,.win 2 (((partsR l).take (0)).flatten.map DtId.cells))] (by simp [zG26,KpR,renV2,renV,zbk,DtId.cells,-List.length_flatten,-List.map_flatten];try (first | rfl|(rw [hts];simp;done))) (by simp [zG26,KpOX,renO,plO,cvO,renV,pl1,DtId.cells,-List.length_flatten,-List.map_flatten];try (first | rfl|(rw [hts];simp;done))) (by rfl) (by simp) (by simp) (by rfl) (by simp [zG25,formsX]),_,0,rfl,?_,rfl⟩
  ·simp
 ·rintro mM sS ⟨i,rfl,hi,rfl⟩
  have htk:=znt l i
  refine zbj ?_
  refine AW_x rfl rfl λK hK=>?_
  simp (disch:=omega) [zG23,DtInst.cells,DtCmd.cells,DtId.cells,cP,-List.length_flatten,-List.map_flatten]
  repeat' first|(refine ⟨by omega,?_⟩)|(simp (disch:=omega) [zG23,DtInst.cells,DtCmd.cells,DtId.cells,cP,-List.length_flatten,-List.map_flatten])|(intro _)
  refine hK _ ?_;clear hK K
  refine zbm rfl (λhc4=>?_) (λhc4=>?_)
  ·try simp [zG24,zbe,zbd] at hc4
   all_goals
    have hts:=zxc (partsR l) i (by omega)
    have hp18:=(zfc l).2.1 (partsR l)[i] (List.getElem_mem _)
    refine zbn ?_
    refine zbq ?_
    refine zbj ?_
    refine zbl ?_
    refine zcc rfl rfl λK hK=>?_
    simp (disch:=omega) [zG23,DtInst.cells,DtCmd.cells,DtId.cells,cP,-List.length_flatten,-List.map_flatten]
    repeat' first|(exfalso;omega)|(refine ⟨λ_=>?_,λ_=>?_⟩)|(refine ⟨by omega,?_⟩)|(simp (disch:=omega) [zG23,DtInst.cells,DtCmd.cells,DtId.cells,cP,-List.length_flatten,-List.map_flatten])|(intro _)
    all_goals (refine hK _ ?_;clear hK K)
    all_goals
     refine zbq ?_
     refine zcc rfl rfl λK hK=>?_
     simp (disch:=omega) [zG23,DtInst.cells,DtCmd.cells,DtId.cells,cP,-List.length_flatten,-List.map_flatten]
     repeat' first|(refine ⟨by omega,?_⟩)|(intro _)
     refine hK _ ?_;clear hK K
     refine ⟨_,LeS.kx [(501,336)] [(3,.arr 501 0 ((partsR l).take (i+1)).flatten.length),(4,.sl 1 ((partsR l).map cP)),(5,(.g (.int .i64 (((i+1):Nat)))))] [(501,.win 2 (((partsR l).take (i+1)).flatten.map DtId.cells))] (by simp [zG26,KpR,renV2,renV,zbk,DtId.cells,-List.length_flatten,-List.map_flatten];try (first | rfl|(rw [hts];simp;done))) (by simp [zG26,KpOX,renO,plO,cvO,renV,pl1,DtId.cells,-List.length_flatten,-List.map_flatten];try (first | rfl|(rw [hts];simp;done))) (by rfl) (by simp) (by simp) (by rfl) (by simp [zG25,formsX]),_,?_,i+1,rfl,?_,rfl⟩
     ·omega
     ·omega
  ·try simp [zG24,zbe,zbd] at hc4
   all_goals
    refine zb3 ?_
    refine zbq ?_
    refine AW_x rfl rfl λK hK=>?_
    simp (disch:=omega) [zG23,DtInst.cells,DtCmd.cells,DtId.cells,cP,-List.length_flatten,-List.map_flatten]
    repeat' first|(exfalso;omega)|(refine ⟨λ_=>?_,λ_=>?_⟩)|(refine ⟨by omega,?_⟩)|(simp (disch:=omega) [zG23,DtInst.cells,DtCmd.cells,DtId.cells,cP,-List.length_flatten,-List.map_flatten])|(intro _)
    all_goals (refine hK _ ?_;clear hK K)
    all_goals
     refine zbr (zh6 ?_)
     simp (disch:=omega) [zG23,DtInst.cells,DtCmd.cells,DtId.cells,cP,-List.length_flatten,-List.map_flatten]
     all_goals first|(rw [zxd _ i (by omega)];exact ⟨zjq _ (λ_=>rfl) _,rfl⟩) | trace_state
noncomputable def ordR(l:List DtInst):List DtId:=(partsR l).flatten
theorem zma(l:List DtInst):(ordR l).length≤324:=(zfc l).2.2
theorem zh1(l:List DtInst)(hs:szS DtInst.sz l≤1048576)(hn:l.length≤1048576)(hm:∀x∈l,InstSm x):PCall Tryz.prog 7 [.sl 16 (l.map DtInst.cells)] (.sl 2 ((ordR l).map DtId.cells)):=implOrder l hs hn hm
theorem zmb(l:List DtInst)(hs:szS DtInst.sz l≤1048576)(hn:l.length≤1048576):PCall Tryz.prog 9 [.sl 16 (l.map DtInst.cells)] (.sl 2 ((ordR l).map DtId.cells)):=specOrder l hs hn
end Go.Proofs.YtodmafgmdlkhoaaGreat.Vs
end
section
open Go Go.Proofs Go.Proofs.YtodmafgmdlkhoaaGreat.Vs
namespace Go.Proofs.YtodmafgmdlkhoaaGreat.Vs
set_option linter.all false
set_option linter.unusedSimpArgs false
set_option linter.unusedVariables false
set_option maxRecDepth 100000
set_option maxHeartbeats 4000000
/-! instances, copied into rows of the caller's own -/
def cmdO(c:DtCmd)(n:Nat):List AV:=[.g (.int .i64 c.fKind),.g (.int .i64 c.fClient),.g (.int .i64 c.fNo),.s c.fSet,.s c.fName,.s c.fTag,.g (.int .i64 c.fN),.arr n 0 c.fChunks.length]
def instO(u:DtInst)(n m:Nat):List AV:=[.g (.int .i64 u.fId.fRep),.g (.int .i64 u.fId.fSlot),.g (.int .i64 u.fBal),.g (.int .i64 u.fVBal),.g (.int .i64 u.fStatus),.g (.int .i64 u.fCmd.fKind),.g (.int .i64 u.fCmd.fClient),.g (.int .i64 u.fCmd.fNo),.s u.fCmd.fSet,.s u.fCmd.fName,.s u.fCmd.fTag,.g (.int .i64 u.fCmd.fN),.arr n 0 u.fCmd.fChunks.length,.g (.int .i64 u.fSeq),.arr m 0 u.fDeps.length,.g (.bool u.fSame)]
attribute [local simp] cmdO instO
def zG27:=And.intro @zb4 (And.intro @gE (And.intro @tP (And.intro @zbh (And.intro @zbv @and_assoc))))
theorem copyTextsX(l:List (List UInt8))(hl:l.length≤1048576):XCall Tryz.prog 106 [.sl 1 (l.map cS)] [] (.arr 16 0 l.length) [] [.own 1 (l.map cS)]:=by
 refine zb5 Tryz.func106 (by rfl) (by rfl) (by rw [Tryz.ntmps106];exact Nat.le_of_ble_eq_true rfl) rfl (by simp) rfl rfl ?_
 rw [Tryz.ntmps106]
 refine zfl   ?_
 refine AW_k [(0,_)] ⟨rfl,trivial⟩ ?_
 refine AW_x rfl rfl λK hK=>?_
 simp (disch:=omega) [zG27,DtInst.cells,DtCmd.cells,DtId.cells,cmdO,instO]
 repeat' first|(refine ⟨by omega,?_⟩)|(intro _)
 refine hK _ ?_;clear hK K
 refine AW_x rfl rfl λK hK=>?_
 simp (disch:=omega) [zG27,DtInst.cells,DtCmd.cells,DtId.cells,cmdO,instO]
 repeat' first|(refine ⟨by omega,?_⟩)|(simp (disch:=omega) [zG27,DtInst.cells,DtCmd.cells,DtId.cells,cmdO,instO])|(intro _)
 refine hK _ ?_;clear hK K
 refine zbr (zc2 [80] [] (by simp [zG25,zbt]) (by simp) ?_)
 simp (disch:=omega) [zG27,DtInst.cells,DtCmd.cells,DtId.cells,cmdO,instO]
 all_goals first | omega | trace_state
theorem copyIdsX(l:List DtId)(hl:l.length≤1048576):XCall Tryz.prog 134 [.sl 2 (l.map DtId.cells)] [] (.arr 16 0 l.length) [] [.own 2 (l.map DtId.cells)]:=by
 refine zb5 Tryz.func134 (by rfl) (by rfl) (by rw [Tryz.ntmps134];exact Nat.le_of_ble_eq_true rfl) rfl (by simp) rfl rfl ?_
 rw [Tryz.ntmps134]
 refine zfl   ?_
 refine AW_k [(0,_)] ⟨rfl,trivial⟩ ?_
 refine AW_x rfl rfl λK hK=>?_
 simp (disch:=omega) [zG27,DtInst.cells,DtCmd.cells,DtId.cells,cmdO,instO]
 repeat' first|(refine ⟨by omega,?_⟩)|(intro _)
 refine hK _ ?_;clear hK K
 refine AW_x rfl rfl λK hK=>?_
 simp (disch:=omega) [zG27,DtInst.cells,DtCmd.cells,DtId.cells,cmdO,instO]
 repeat' first|(refine ⟨by omega,?_⟩)|(simp (disch:=omega) [zG27,DtInst.cells,DtCmd.cells,DtId.cells,cmdO,instO])|(intro _)
 refine hK _ ?_;clear hK K
 refine zbr (zc2 [80] [] (by simp [zG25,zbt]) (by simp) ?_)
 simp (disch:=omega) [zG27,DtInst.cells,DtCmd.cells,DtId.cells,cmdO,instO]
 all_goals first | omega | trace_state
theorem copyCmdX(c:DtCmd)(hn:c.fChunks.length≤1048576):XCall Tryz.prog 133 [.agg (DtCmd.cells c)] [] (.agg (cmdO c 16)) [] [.own 1 (c.fChunks.map cS)]:=by
 refine zb5 Tryz.func133 (by rfl) (by rfl) (by rw [Tryz.ntmps133];exact Nat.le_of_ble_eq_true rfl) rfl (by simp) rfl rfl ?_
 rw [Tryz.ntmps133]
 refine zfl   ?_
 refine AW_k [(0,_)] ⟨rfl,trivial⟩ ?_
 refine AW_x rfl rfl λK hK=>?_
 simp (disch:=omega) [zG27,DtInst.cells,DtCmd.cells,DtId.cells,cmdO,instO]
 repeat' first|(refine ⟨by omega,?_⟩)|(intro _)
 refine hK _ ?_;clear hK K
 refine AW_x rfl rfl λK hK=>?_
 simp (disch:=omega) [zG27,DtInst.cells,DtCmd.cells,DtId.cells,cmdO,instO]
 repeat' first|(exfalso;omega)|(refine zjy [] true [] (copyTextsX c.fChunks hn) ?_ ?_ ?_;(focus (simp [List.range_succ,nmC];done));(focus (simp (disch:=omega) [zG27,DtInst.cells,DtCmd.cells,DtId.cells,cmdO,instO];done));simp (disch:=omega) [zG27,DtInst.cells,DtCmd.cells,DtId.cells,cmdO,instO])|(refine ⟨by omega,?_⟩)|(simp (disch:=omega) [zG27,DtInst.cells,DtCmd.cells,DtId.cells,cmdO,instO])|(intro _)
 refine hK _ ?_;clear hK K
 refine AW_x rfl rfl λK hK=>?_
 simp (disch:=omega) [zG27,DtInst.cells,DtCmd.cells,DtId.cells,cmdO,instO]
 repeat' first|(refine ⟨by omega,?_⟩)|(simp (disch:=omega) [zG27,DtInst.cells,DtCmd.cells,DtId.cells,cmdO,instO])|(intro _)
 refine hK _ ?_;clear hK K
 refine zbr (zc2 [96] [] (by simp [zG25,zbt]) (by simp) ?_)
 simp (disch:=omega) [zG27,DtInst.cells,DtCmd.cells,DtId.cells,cmdO,instO]
 all_goals first | omega | trace_state
theorem copyInstX(x:DtInst)(hn:x.fCmd.fChunks.length≤1048576)(hd:x.fDeps.length≤1048576):XCall Tryz.prog 92 [.agg (DtInst.cells x)] [] (.agg (instO x 16 17)) [] [.own 1 (x.fCmd.fChunks.map cS),.own 2 (x.fDeps.map DtId.cells)]:=by
 refine zb5 Tryz.func92 (by rfl) (by rfl) (by rw [Tryz.ntmps92];exact Nat.le_of_ble_eq_true rfl) rfl (by simp) rfl rfl ?_
 rw [Tryz.ntmps92]
 refine zfl   ?_
 refine AW_k [(0,_)] ⟨rfl,trivial⟩ ?_
 refine AW_x rfl rfl λK hK=>?_
 simp (disch:=omega) [zG27,DtInst.cells,DtCmd.cells,DtId.cells,cmdO,instO]
 repeat' first|(refine ⟨by omega,?_⟩)|(intro _)
 refine hK _ ?_;clear hK K
 refine AW_x rfl rfl λK hK=>?_
 simp (disch:=omega) [zG27,DtInst.cells,DtCmd.cells,DtId.cells,cmdO,instO]
 repeat' first|(exfalso;omega)|(refine zjy [] true [] (copyCmdX x.fCmd hn) ?_ ?_ ?_;(focus (simp [List.range_succ,nmC];done));(focus (simp (disch:=omega) [zG27,DtInst.cells,DtCmd.cells,DtId.cells,cmdO,instO];done));simp (disch:=omega) [zG27,DtInst.cells,DtCmd.cells,DtId.cells,cmdO,instO])|(refine ⟨by omega,?_⟩)|(simp (disch:=omega) [zG27,DtInst.cells,DtCmd.cells,DtId.cells,cmdO,instO])|(intro _)
 refine hK _ ?_;clear hK K
 refine AW_x rfl rfl λK hK=>?_
 simp (disch:=omega) [zG27,DtInst.cells,DtCmd.cells,DtId.cells,cmdO,instO]
 repeat' first|(exfalso;omega)|(refine zjy [] true [] (copyIdsX x.fDeps hd) ?_ ?_ ?_;(focus (simp [List.range_succ,nmC];done));(focus (simp (disch:=omega) [zG27,DtInst.cells,DtCmd.cells,DtId.cells,cmdO,instO];done));simp (disch:=omega) [zG27,DtInst.cells,DtCmd.cells,DtId.cells,cmdO,instO])|(refine ⟨by omega,?_⟩)|(simp (disch:=omega) [zG27,DtInst.cells,DtCmd.cells,DtId.cells,cmdO,instO])|(intro _)
 refine hK _ ?_;clear hK K
 refine AW_x rfl rfl λK hK=>?_
 simp (disch:=omega) [zG27,DtInst.cells,DtCmd.cells,DtId.cells,cmdO,instO]
 repeat' first|(refine ⟨by omega,?_⟩)|(simp (disch:=omega) [zG27,DtInst.cells,DtCmd.cells,DtId.cells,cmdO,instO])|(intro _)
 refine hK _ ?_;clear hK K
 refine zbr (zc2 [96,160] [] (by simp [zG25,zbt]) (by simp) ?_)
 simp (disch:=omega) [zG27,DtInst.cells,DtCmd.cells,DtId.cells,cmdO,instO]
 all_goals first | omega | trace_state
end Go.Proofs.YtodmafgmdlkhoaaGreat.Vs
end
section
open Go Go.Proofs Go.Proofs.YtodmafgmdlkhoaaGreat.Vs
namespace Go.Proofs.YtodmafgmdlkhoaaGreat.Vs
set_option linter.all false
set_option linter.unusedSimpArgs false
set_option linter.unusedVariables false
set_option maxRecDepth 100000
set_option maxHeartbeats 4000000
attribute [local simp] cmdO instO
theorem zxe(l:List DtInst)(id:DtId)(hn:l.length≤1048576)(hm:∀x∈l,InstSm x)(h3:(instAt l id).fStatus=3):XCall Tryz.prog 35 [.sl 16 (l.map DtInst.cells),.agg (DtId.cells id)] [] (.agg (instO (instAt l id) 16 17)) [] [.own 1 ((instAt l id).fCmd.fChunks.map cS),.own 2 ((instAt l id).fDeps.map DtId.cells)]:=by
 rcases zrd l id with ⟨i,hi,h1,h2⟩ | ⟨h1,h2⟩
 ·rw [h2]
  have hx:=hm _ (List.getElem_mem hi)
  have hx1:=hx.1
  have hx2:=hx.2.1
  refine zb5 Tryz.func35 (by rfl) (by rfl) (by rw [Tryz.ntmps35];exact Nat.le_of_ble_eq_true rfl) rfl (by simp) rfl rfl ?_
  rw [Tryz.ntmps35]
  refine zfl   ?_
  refine AW_k [(0,_),(1,_)] ⟨rfl,rfl,trivial⟩ ?_
  refine AW_x rfl rfl λK hK=>?_
  simp (disch:=omega) [zG27,DtInst.cells,DtCmd.cells,DtId.cells,cmdO,instO,List.range_succ,h1]
  repeat' first|(refine ⟨by omega,?_⟩)|(intro _)
  refine hK _ ?_;clear hK K
  refine zbj ?_
  refine AW_x rfl rfl λK hK=>?_
  simp (disch:=omega) [zG27,DtInst.cells,DtCmd.cells,DtId.cells,cmdO,instO,List.range_succ,h1]
  repeat' first|(exfalso;omega)|(refine zcx (zbc zbw (zbc (zbu rfl) zbi)) (zhw _ _ (by assumption)) rfl ?_;simp (disch:=omega) [zG27,DtInst.cells,DtCmd.cells,DtId.cells,cmdO,instO,List.range_succ,h1])|(refine zcy (zhw _ _ (by assumption)) (by rfl) ?_ ?_;(focus (simp (disch:=omega) [zG27,DtInst.cells,DtCmd.cells,DtId.cells,cmdO,instO,List.range_succ,h1];done));simp (disch:=omega) [zG27,DtInst.cells,DtCmd.cells,DtId.cells,cmdO,instO,List.range_succ,h1])|(refine ⟨by omega,?_⟩)|(simp (disch:=omega) [zG27,DtInst.cells,DtCmd.cells,DtId.cells,cmdO,instO,List.range_succ,h1])|(intro _)
  refine hK _ ?_;clear hK K
  refine AW_x rfl rfl λK hK=>?_
  simp (disch:=omega) [zG27,DtInst.cells,DtCmd.cells,DtId.cells,cmdO,instO,List.range_succ,h1]
  repeat' first|(refine ⟨by omega,?_⟩)|(intro _)
  refine hK _ ?_;clear hK K
  refine zbm rfl (λhc1=>?_) (λhc1=>?_)
  ·try simp [zG24,zbe,zbd] at hc1
   all_goals
    refine AW_x rfl rfl λK hK=>?_
    simp (disch:=omega) [zG27,DtInst.cells,DtCmd.cells,DtId.cells,cmdO,instO,List.range_succ,h1]
    repeat' first|(exfalso;omega)|(refine zjy [] true [] (copyInstX l[i] hx.1 hx.2.1) ?_ ?_ ?_;(focus (simp [List.range_succ,nmC];done));(focus (simp (disch:=omega) [zG27,DtInst.cells,DtCmd.cells,DtId.cells,cmdO,instO,List.range_succ,h1];done));simp (disch:=omega) [zG27,DtInst.cells,DtCmd.cells,DtId.cells,cmdO,instO,List.range_succ,h1])|(refine ⟨λ_=>?_,λ_=>?_⟩)|(refine ⟨by omega,?_⟩)|(simp (disch:=omega) [zG27,DtInst.cells,DtCmd.cells,DtId.cells,cmdO,instO,List.range_succ,h1])|(intro _)
    all_goals (refine hK _ ?_;clear hK K)
    all_goals
     refine zbr (zc2 [256,257] [] (by simp [zG25,zbt]) (by simp) ?_)
     simp (disch:=omega) [zG27,DtInst.cells,DtCmd.cells,DtId.cells,cmdO,instO,List.range_succ,h1]
     all_goals first | omega|(simp;done) | trace_state
  ·try simp [zG24,zbe,zbd] at hc1
 ·rw [h2] at h3;simp [zeroInst] at h3
noncomputable def cmT(l:List DtInst)(i:Nat):List DtCmd:=(((ordR l).take i).map λx=>(instAt l x).fCmd).filter λc=>!decide (c.fKind=0)
noncomputable def cmA(l:List DtInst):List DtCmd:=((ordR l).map λx=>(instAt l x).fCmd).filter λc=>!decide (c.fKind=0)
theorem cmT_0(l:List DtInst):cmT l 0=[]:=by unfold cmT;simp
theorem cmT_e(l:List DtInst)(i:Nat)(h:(ordR l).length≤i):cmT l i=cmA l:=by unfold cmT cmA;rw [List.take_of_length_le h]
theorem cmT_len(l:List DtInst)(i:Nat):(cmT l i).length≤i:=by
 unfold cmT
 refine Nat.le_trans (List.length_filter_le _ _) ?_
 rw [List.length_map,List.length_take];omega
theorem cmT_s(l:List DtInst)(i:Nat)(h:i<(ordR l).length):(¬(instAt l (ordR l)[i]).fCmd.fKind=0→cmT l (i+1)=cmT l i++[(instAt l (ordR l)[i]).fCmd])∧((instAt l (ordR l)[i]).fCmd.fKind=0→cmT l (i+1)=cmT l i):=by
 unfold cmT
 rw [List.take_succ_eq_append_getElem h,List.map_append,List.filter_append]
 constructor
 ·intro hk
  simp [hk]
 ·intro hk
  simp [hk]
theorem ordR_st{l:List DtInst}{x:DtId}(hx:x∈ordR l):(instAt l x).fStatus=3:=by
 unfold ordR at hx
 by_cases h:InstsP l
 ·rw [zfp h,List.mem_flatten] at hx
  obtain ⟨p,hp,hx⟩:=hx
  exact (zw6 h (zgn h (zgo h) p hp) x hx).2
 ·rw [zgz h] at hx;simp at hx
theorem implExecX(l:List DtInst)(hs:szS DtInst.sz l≤1048576)(hn:l.length≤1048576)(hm:∀x∈l,InstSm x):XCall Tryz.prog 17 [.sl 16 (l.map DtInst.cells)] [] (.arr 16 0 (cmA l).length) [] [.own 8 ((cmA l).map DtCmd.cells)]:=by
 have hor:=zma l
 refine zb5 Tryz.func17 (by rfl) (by rfl) (by rw [Tryz.ntmps17];exact Nat.le_of_ble_eq_true rfl) rfl (by simp) rfl rfl ?_
 rw [Tryz.ntmps17]
 refine zfl   ?_
 refine AW_k [(0,_)] ⟨rfl,trivial⟩ ?_
 refine AW_x rfl rfl λK hK=>?_
 simp (disch:=omega) [zG27,DtInst.cells,DtCmd.cells,DtId.cells,cmdO,instO,List.range_succ,zbs]
 repeat' first|(exfalso;omega)|(refine ⟨λ_=>?_,λ_=>?_⟩)|(refine ⟨by omega,?_⟩)|(simp (disch:=omega) [zG27,DtInst.cells,DtCmd.cells,DtId.cells,cmdO,instO,List.range_succ,zbs])|(intro _)
 all_goals (refine hK _ ?_;clear hK K)
 all_goals
  refine AW_x rfl rfl λK hK=>?_
  simp (disch:=omega) [zG27,DtInst.cells,DtCmd.cells,DtId.cells,cmdO,instO,List.range_succ,zbs]
  repeat' first|(refine ⟨by omega,?_⟩)|(simp (disch:=omega) [zG27,DtInst.cells,DtCmd.cells,DtId.cells,cmdO,instO,List.range_succ,zbs])|(intro _)
  refine hK _ ?_;clear hK K
  refine zbj ?_
  refine AW_x rfl rfl λK hK=>?_
  simp (disch:=omega) [zG27,DtInst.cells,DtCmd.cells,DtId.cells,cmdO,instO,List.range_succ,zbs]
  repeat' first|(exfalso;omega)|(refine zcx (zbc zbw zbi) (zh1 l hs hn hm) rfl ?_;simp (disch:=omega) [zG27,DtInst.cells,DtCmd.cells,DtId.cells,cmdO,instO,List.range_succ,zbs])|(refine zcy (zh1 l hs hn hm) (by rfl) ?_ ?_;(focus (simp (disch:=omega) [zG27,DtInst.cells,DtCmd.cells,DtId.cells,cmdO,instO,List.range_succ,zbs];done));simp (disch:=omega) [zG27,DtInst.cells,DtCmd.cells,DtId.cells,cmdO,instO,List.range_succ,zbs])|(refine ⟨by omega,?_⟩)|(simp (disch:=omega) [zG27,DtInst.cells,DtCmd.cells,DtId.cells,cmdO,instO,List.range_succ,zbs])|(intro _)
  refine hK _ ?_;clear hK K
  refine zbl ?_
  refine zby (λmM sS=>∃(i:Nat),mM=(ordR l).length-i∧(i≤(ordR l).length)∧sS = { env:=lkE [(0,.sl 16 (l.map DtInst.cells)),(3,.arr 501 0 (cmT l i).length),(9,.sl 2 ((ordR l).map DtId.cells)),(10,(.g (.int .i64 (((ordR l).length:Nat))))),(11,(.g (.int .i64 ((i:Nat)))))],ob:=lk [(501,.own 8 ((cmT l i).map DtCmd.cells))] }) ?_ ?_
  ·refine ⟨_,LeS.kx [(501,128)] [(0,.sl 16 (l.map DtInst.cells)),(3,.arr 501 0 (cmT l (0)).length),(9,.sl 2 ((ordR l).map DtId.cells)),(10,(.g (.int .i64 (((ordR l).length:Nat))))),(11,(.g (.int .i64 (((0):Nat)))))] [(501,.own 8 ((cmT l (0)).map DtCmd.cells))] (by simp [KpR,renV2,renV,zbt,zbk,zbp,zb0,DtCmd.cells,DtId.cells,cmT_0];try (first | rfl|(rw [hsx];done)|(rw [hsx];simp;done))) (by simp [KpOX,renO,plO,cvO,renV,pl1,zbp,zb0,zbt,DtCmd.cells,DtId.cells,cmT_0];try (first | rfl|(rw [hsx];done)|(rw [hsx];simp [DtCmd.cells];done))) (by rfl) (by simp) (by simp) (by rfl) (by simp [zG25,formsX]),_,0,rfl,?_,rfl⟩
   ·simp
  ·rintro mM sS ⟨i,rfl,hi,rfl⟩
   have hcl:=cmT_len l i
   refine AW_x rfl rfl λK hK=>?_
   simp (disch:=omega) [zG27,DtInst.cells,DtCmd.cells,DtId.cells,cmdO,instO,List.range_succ,zbs]
   repeat' first|(refine ⟨by omega,?_⟩)|(intro _)
   refine hK _ ?_;clear hK K
   refine zbj ?_
   refine zbm rfl (λhc4=>?_) (λhc4=>?_)
   ·try simp [zbb,zbf,zbe,zbd] at hc4
    all_goals
     have hst:=ordR_st (l:=l) (x:=(ordR l)[i]) (List.getElem_mem _)
     have hcs:=cmT_s l i (by omega)
     refine zbn ?_
     refine zbq ?_
     refine zbj ?_
     refine zbl ?_
     refine AW_x rfl rfl λK hK=>?_
     simp (disch:=omega) [zG27,DtInst.cells,DtCmd.cells,DtId.cells,cmdO,instO,List.range_succ,zbs]
     repeat' first|(exfalso;omega)|(refine ⟨λ_=>?_,λ_=>?_⟩)|(refine ⟨by omega,?_⟩)|(simp (disch:=omega) [zG27,DtInst.cells,DtCmd.cells,DtId.cells,cmdO,instO,List.range_succ,zbs])|(intro _)
     all_goals (refine hK _ ?_;clear hK K)
     all_goals
      refine AW_x rfl rfl λK hK=>?_
      simp (disch:=omega) [zG27,DtInst.cells,DtCmd.cells,DtId.cells,cmdO,instO,List.range_succ,zbs]
      repeat' first|(exfalso;omega)|(refine zjy [] true [] (zxe l (ordR l)[i] hn hm hst) ?_ ?_ ?_;(focus (simp [List.range_succ,nmC];done));(focus (simp (disch:=omega) [zG27,DtInst.cells,DtCmd.cells,DtId.cells,cmdO,instO,List.range_succ,zbs];done));simp (disch:=omega) [zG27,DtInst.cells,DtCmd.cells,DtId.cells,cmdO,instO,List.range_succ,zbs])|(refine ⟨by omega,?_⟩)|(simp (disch:=omega) [zG27,DtInst.cells,DtCmd.cells,DtId.cells,cmdO,instO,List.range_succ,zbs])|(intro _)
      refine hK _ ?_;clear hK K
      refine AW_x rfl rfl λK hK=>?_
      simp (disch:=omega) [zG27,DtInst.cells,DtCmd.cells,DtId.cells,cmdO,instO,List.range_succ,zbs]
      repeat' first|(refine ⟨by omega,?_⟩)|(intro _)
      refine hK _ ?_;clear hK K
      refine zbm rfl (λhc5=>?_) (λhc5=>?_)
      ·try simp [zbb,zbf,zbe,zbd] at hc5
       all_goals
        refine zcc rfl rfl λK hK=>?_
        simp (disch:=omega) [zG27,DtInst.cells,DtCmd.cells,DtId.cells,cmdO,instO,List.range_succ,zbs]
        repeat' first|(exfalso;omega)|(refine ⟨λ_=>?_,λ_=>?_⟩)|(refine ⟨by omega,?_⟩)|(simp (disch:=omega) [zG27,DtInst.cells,DtCmd.cells,DtId.cells,cmdO,instO,List.range_succ,zbs])|(intro _)
        all_goals (refine hK _ ?_;clear hK K)
        all_goals
         refine zbq ?_
         refine zcc rfl rfl λK hK=>?_
         simp (disch:=omega) [zG27,DtInst.cells,DtCmd.cells,DtId.cells,cmdO,instO,List.range_succ,zbs]
         repeat' first|(refine ⟨by omega,?_⟩)|(intro _)
         refine hK _ ?_;clear hK K
         first | have hsx:=hcs.1 (by assumption) | have hsx:=hcs.2 (by assumption)
         refine ⟨_,LeS.kx [(501,416)] [(0,.sl 16 (l.map DtInst.cells)),(3,.arr 501 0 (cmT l (i+1)).length),(9,.sl 2 ((ordR l).map DtId.cells)),(10,(.g (.int .i64 (((ordR l).length:Nat))))),(11,(.g (.int .i64 (((i+1):Nat)))))] [(501,.own 8 ((cmT l (i+1)).map DtCmd.cells))] (by simp [KpR,renV2,renV,zbt,zbk,zbp,zb0,DtCmd.cells,DtId.cells,cmT_0];try (first | rfl|(rw [hsx];done)|(rw [hsx];simp;done))) (by simp [KpOX,renO,plO,cvO,renV,pl1,zbp,zb0,zbt,DtCmd.cells,DtId.cells,cmT_0];try (first | rfl|(rw [hsx];done)|(rw [hsx];simp [DtCmd.cells];done))) (by rfl) (by simp) (by simp) (by rfl) (by simp [zG25,formsX]),_,?_,i+1,rfl,?_,rfl⟩
         ·omega
         ·omega
      ·try simp [zbb,zbf,zbe,zbd] at hc5
       all_goals
        refine zbn ?_
        refine zbq ?_
        refine zcc rfl rfl λK hK=>?_
        simp (disch:=omega) [zG27,DtInst.cells,DtCmd.cells,DtId.cells,cmdO,instO,List.range_succ,zbs]
        repeat' first|(exfalso;omega)|(refine ⟨λ_=>?_,λ_=>?_⟩)|(refine ⟨by omega,?_⟩)|(simp (disch:=omega) [zG27,DtInst.cells,DtCmd.cells,DtId.cells,cmdO,instO,List.range_succ,zbs])|(intro _)
        all_goals (refine hK _ ?_;clear hK K)
        all_goals
         first | have hsx:=hcs.1 (by assumption) | have hsx:=hcs.2 (by assumption)
         refine ⟨_,LeS.kx [(501,501)] [(0,.sl 16 (l.map DtInst.cells)),(3,.arr 501 0 (cmT l (i+1)).length),(9,.sl 2 ((ordR l).map DtId.cells)),(10,(.g (.int .i64 (((ordR l).length:Nat))))),(11,(.g (.int .i64 (((i+1):Nat)))))] [(501,.own 8 ((cmT l (i+1)).map DtCmd.cells))] (by simp [KpR,renV2,renV,zbt,zbk,zbp,zb0,DtCmd.cells,DtId.cells,cmT_0];try (first | rfl|(rw [hsx];done)|(rw [hsx];simp;done))) (by simp [KpOX,renO,plO,cvO,renV,pl1,zbp,zb0,zbt,DtCmd.cells,DtId.cells,cmT_0];try (first | rfl|(rw [hsx];done)|(rw [hsx];simp [DtCmd.cells];done))) (by rfl) (by simp) (by simp) (by rfl) (by simp [zG25,formsX]),_,?_,i+1,rfl,?_,rfl⟩
         ·omega
         ·omega
   ·try simp [zbb,zbf,zbe,zbd] at hc4
    all_goals
     refine zb3 ?_
     refine zbq ?_
     refine AW_x rfl rfl λK hK=>?_
     simp (disch:=omega) [zG27,DtInst.cells,DtCmd.cells,DtId.cells,cmdO,instO,List.range_succ,zbs]
     repeat' first|(exfalso;omega)|(refine ⟨λ_=>?_,λ_=>?_⟩)|(refine ⟨by omega,?_⟩)|(simp (disch:=omega) [zG27,DtInst.cells,DtCmd.cells,DtId.cells,cmdO,instO,List.range_succ,zbs])|(intro _)
     all_goals (refine hK _ ?_;clear hK K)
     all_goals
      refine zbr (zc2 [501] [] (by simp [zG25,zbt]) (by simp) ?_)
      simp (disch:=omega) [zG27,DtInst.cells,DtCmd.cells,DtId.cells,cmdO,instO,List.range_succ,zbs]
      all_goals first|(rw [cmT_e l i (by omega)];exact ⟨rfl,rfl⟩)|(rw [cmT_e l i (by omega)];done) | trace_state
end Go.Proofs.YtodmafgmdlkhoaaGreat.Vs
end
section
open Go Go.Proofs Go.Proofs.YtodmafgmdlkhoaaGreat.Vs
namespace Go.Proofs.YtodmafgmdlkhoaaGreat.Vs
set_option linter.all false
set_option linter.unusedSimpArgs false
set_option linter.unusedVariables false
set_option maxRecDepth 100000
/-! instances whose rows are parked; one is put among them -/
abbrev InstV:=DtInst × (Nat→Value)
def instV(z:InstV):List AV:=ux z.2 0 (DtInst.cells z.1)
def instP(z:InstV):List (AV × Value):=pkc z.2 0 (DtInst.cells z.1)
theorem znu(z:InstV):instV z=[.g (.int .i64 z.1.fId.fRep),.g (.int .i64 z.1.fId.fSlot),.g (.int .i64 z.1.fBal),.g (.int .i64 z.1.fVBal),.g (.int .i64 z.1.fStatus),.g (.int .i64 z.1.fCmd.fKind),.g (.int .i64 z.1.fCmd.fClient),.g (.int .i64 z.1.fCmd.fNo),.s z.1.fCmd.fSet,.s z.1.fCmd.fName,.s z.1.fCmd.fTag,.g (.int .i64 z.1.fCmd.fN),.g (z.2 12),.g (.int .i64 z.1.fSeq),.g (z.2 14),.g (.bool z.1.fSame)]:=rfl
theorem instP_c(z:InstV):instP z=[(.sl 1 (z.1.fCmd.fChunks.map cS),z.2 12),(.sl 2 (z.1.fDeps.map DtId.cells),z.2 14)]:=rfl
theorem zcz(zs:List InstV):scR (zs.map instV)=true:=zkl _ (λ_=>rfl) zs
section
variable {P:Program}{nt:Nat}{fs:List Nat}{Q:AExit→St→Prop}{st:St}{c:Code}
theorem AW_putEnd(n pk:Nat){zs ks1 ks2:List InstV}{x:DtInst}(p:Nat)(h1:ks1.Sublist (zs.take p))(h2:ks2.Sublist (zs.drop p))(hn:st.ob n=some (.win 16 (ks1.map instV++instO x 9 10 :: ks2.map instV)))(hp:st.ob pk=some (.park (zs.flatMap instP)))(h9:st.ob 9=some (.own 1 (x.fCmd.fChunks.map cS)))(h10:st.ob 10=some (.own 2 (x.fDeps.map DtId.cells)))
 (e1:n≠9) (e2:n≠10) (e3:pk≠9) (e4:pk≠10) (e5:n≠pk)
 (h:AW P nt fs c Q { st with ob:=upd (upd (upd (upd st.ob 9 (some .dead)) 10 (some .dead)) pk (some .dead)) n (some (.own 16 ((ks1.map (·.1)++x :: ks2.map (·.1)).map DtInst.cells))) }):AW P nt fs c Q st:=by
 refine zs4 (s:=1) (sz:=16) (k:=ks1.length) (j:=12) (x:=instO x 9 10) (ys:=x.fCmd.fChunks.map cS) (ps1:=(zs.take p).flatMap instP) (ps2:=(zs.drop p).flatMap instP) n pk 9 hn (by rw [hp,←List.flatMap_append,List.take_append_drop]) h9 (by simp) (by simp [instO]) λv1 hv1=>?_
 refine zs4 (s:=2) (sz:=16) (k:=ks1.length) (j:=14) (x:=(instO x 9 10).set 12 (.g v1)) (ys:=x.fDeps.map DtId.cells) (ps1:=(zs.take p).flatMap instP++[(.sl 1 (x.fCmd.fChunks.map cS),v1)]) (ps2:=(zs.drop p).flatMap instP) n pk 10 (zbg _ _ _) ?_ ?_ (by simp) (by simp [instO]) λv2 hv2=>?_
 ·show upd (upd (upd st.ob 9 _) pk _) n _ pk=_
  rw [zba _ _ (Ne.symm e5),zbg];simp
 ·show upd (upd (upd st.ob 9 _) pk _) n _ 10=_
  rw [zba _ _ (Ne.symm e2),zba _ _ (Ne.symm e4),zba _ _ (by decide)];exact h10
 let z':InstV:=(x,λj=>if j=12 then v1 else v2)
 have hrow:((ks1.map instV++instO x 9 10 :: ks2.map instV).set ks1.length ((instO x 9 10).set 12 (.g v1))).set ks1.length (((instO x 9 10).set 12 (.g v1)).set 14 (.g v2))=(ks1++z' :: ks2).map instV:=by
  rw [List.set_set,List.map_append,List.map_cons]
  have:(ks1.map instV).length=ks1.length:=by simp
  rw [←this,List.set_append_right _ _ (Nat.le_refl _)]
  simp only [Nat.sub_self,List.set_cons_zero]
  rfl
 have hpark:(zs.take p).flatMap instP++[(AV.sl 1 (x.fCmd.fChunks.map cS),v1)]++(AV.sl 2 (x.fDeps.map DtId.cells),v2) :: (zs.drop p).flatMap instP=(zs.take p++z' :: zs.drop p).flatMap instP:=by
  rw [List.flatMap_append,List.flatMap_cons]
  have:instP z'=[(AV.sl 1 (x.fCmd.fChunks.map cS),v1),(AV.sl 2 (x.fDeps.map DtId.cells),v2)]:=rfl
  rw [this]
  simp
 refine zg2 (LeS.join DtInst.cells (λ_=>rfl) n pk (ks:=ks1++z' :: ks2) (zs:=zs.take p++z' :: zs.drop p) (sz:=16) ?_ ?_ (h1.append (h2.cons_cons z'))) ?_
 ·show upd _ n _ n=_
  rw [zbg,hrow];rfl
 ·show upd (upd (upd _ 10 _) pk _) n _ pk=_
  rw [zba _ _ (Ne.symm e5),zbg,hpark];rfl
 ·refine Eq.mp (congrArg (λo=>AW P nt fs c Q { env:=st.env,ob:=o }) ?_) h
  funext m
  have hks:(ks1++z' :: ks2).map (λz=>DtInst.cells z.1)=(ks1.map (·.1)++x :: ks2.map (·.1)).map DtInst.cells:=by
   simp only [List.map_append,List.map_cons,List.map_map];rfl
  by_cases m1:m=n
  ·subst m1;rw [zbg,zbg,hks]
  ·rw [zba _ _ m1,zba _ _ m1]
   by_cases m2:m=pk
   ·subst m2;rw [zbg,zbg]
   ·rw [zba _ _ m2,zba _ _ m2]
    show _=upd (upd (upd (upd (upd (upd st.ob 9 _) pk _) n _) 10 _) pk _) n _ m
    rw [zba _ _ m1,zba _ _ m2]
    by_cases m3:m=10
    ·subst m3;rw [zbg,zbg]
    ·rw [zba _ _ m3,zba _ _ m3,zba _ _ m1,zba _ _ m2]
end
theorem le1_arr{s:St}{ρ:Ren}{n off len:Nat}(h:lk ρ n=some n):le1 s ρ (.arr n off len) (.arr n off len):=by
 show AV.arr n off len=renV ρ (.arr n off len)
 simp [renV,h]
theorem zhi{s:St}{ρ:Ren}(ks1 ks2:List InstV)(x:DtInst)(h9:lk ρ 9=some 9)(h10:lk ρ 10=some 10):wn s ρ (ks1.map instV++instO x 9 10 :: ks2.map instV) (ks1.map instV++instO x 9 10 :: ks2.map instV):=by
 refine ⟨rfl,λi x' hx=>⟨x',hx,?_⟩⟩
 have hm:=List.mem_of_getElem? hx
 rcases List.mem_append.1 hm with hm | hm
 ·obtain ⟨z,-,rfl⟩:=List.mem_map.1 hm
  exact zl4 _ rfl
 ·rcases List.mem_cons.1 hm with rfl | hm
  ·unfold instO
   exact ⟨zdu rfl,zdu rfl,zdu rfl,zdu rfl,zdu rfl,zdu rfl,zdu rfl,zdu rfl,zdu rfl,zdu rfl,zdu rfl,zdu rfl,le1_arr h9,zdu rfl,le1_arr h10,zdu rfl,rfl⟩
  ·obtain ⟨z,-,rfl⟩:=List.mem_map.1 hm
   exact zl4 _ rfl
structure PutI (zs:List InstV) (i:Nat) (put:Bool) (ks1 ks2:List InstV):Prop where
 le:i≤zs.length
 no:put=false→ks2=[]∧ks1.Sublist (zs.take i)
 yes:put=true→∃p,p≤i∧ks1.Sublist (zs.take p)∧ks2.Sublist ((zs.take i).drop p)
theorem putI_0(zs:List InstV):PutI zs 0 false [] []:=⟨by omega,λ_=>⟨rfl,by simp⟩,λh=>by cases h⟩
theorem ztl{zs:List InstV}{i:Nat}{put:Bool}{ks1 ks2:List InstV}(h:PutI zs i put ks1 ks2)(hi:i<zs.length):PutI zs (i+1) put ks1 ks2:=by
 have e:=List.take_succ_eq_append_getElem hi
 refine ⟨by omega,λhp=>⟨(h.no hp).1,?_⟩,λhp=>?_⟩
 ·rw [e];exact (h.no hp).2.trans (List.sublist_append_left _ _)
 ·obtain ⟨p,h1,h2,h3⟩:=h.yes hp
  refine ⟨p,by omega,h2,?_⟩
  rw [e,List.drop_append_of_le_length (by rw [List.length_take];omega)]
  exact h3.trans (List.sublist_append_left _ _)
theorem zzm{zs:List InstV}{i:Nat}{ks1 ks2:List InstV}(h:PutI zs i false ks1 ks2):PutI zs i true ks1 [] :=
 ⟨h.le,λh=>(by cases h),λ_=>⟨i,Nat.le_refl _,(h.no rfl).2,by simp⟩⟩
theorem putI_add0{zs:List InstV}{i:Nat}{ks1 ks2:List InstV}(h:PutI zs i false ks1 ks2)(hi:i<zs.length):PutI zs (i+1) false (ks1++[zs[i]]) []:=by
 have e:=List.take_succ_eq_append_getElem hi
 refine ⟨by omega,λ_=>⟨rfl,?_⟩,λh=>by cases h⟩
 rw [e];exact (h.no rfl).2.append (List.Sublist.refl _)
theorem putI_add1{zs:List InstV}{i:Nat}{ks1 ks2:List InstV}(h:PutI zs i true ks1 ks2)(hi:i<zs.length):PutI zs (i+1) true ks1 (ks2++[zs[i]]):=by
 have e:=List.take_succ_eq_append_getElem hi
 refine ⟨by omega,λh=>(by cases h),λ_=>?_⟩
 obtain ⟨p,h1,h2,h3⟩:=h.yes rfl
 refine ⟨p,by omega,h2,?_⟩
 rw [e,List.drop_append_of_le_length (by rw [List.length_take];have:=h.le;omega)]
 exact h3.append (List.Sublist.refl _)
theorem putI_e{zs:List InstV}{i:Nat}{ks1 ks2:List InstV}(h:PutI zs i true ks1 ks2)(hi:zs.length≤i):∃p,ks1.Sublist (zs.take p)∧ks2.Sublist (zs.drop p):=by
 obtain ⟨p,h1,h2,h3⟩:=h.yes rfl
 rw [List.take_of_length_le hi] at h3
 exact ⟨p,h2,h3⟩
noncomputable def rowP(ks1 ks2:List InstV)(x:DtInst)(put:Bool):List (List AV):=ks1.map instV++(bif put then instO x 9 10 :: ks2.map instV else [])
theorem zka(ks1 ks2:List InstV)(x:DtInst):rowP ks1 ks2 x false=ks1.map instV:=by unfold rowP;simp
theorem zkb(ks1 ks2:List InstV)(x:DtInst):rowP ks1 ks2 x true=ks1.map instV++instO x 9 10 :: ks2.map instV:=by unfold rowP;simp
theorem zp4(x:DtInst):rowP [] [] x false=[]:=by unfold rowP;simp
theorem zhj{s:St}{ρ:Ren}(ks1 ks2:List InstV)(x:DtInst)(put:Bool)(h9:lk ρ 9=some 9)(h10:lk ρ 10=some 10):wn s ρ (rowP ks1 ks2 x put) (rowP ks1 ks2 x put):=by
 cases put
 ·rw [zka];exact zc5 (zjb (zcz _))
 ·rw [zkb];exact zhi ks1 ks2 x h9 h10
noncomputable def addA(put:Bool)(ka:List InstV)(z:InstV):List InstV:=bif put then ka else ka++[z]
noncomputable def addB(put:Bool)(kb:List InstV)(z:InstV):List InstV:=bif put then kb++[z] else kb
theorem zg0{ka kb:List InstV}{x:DtInst}{put:Bool}(z:InstV):rowP ka kb x put++[instV z]=rowP (addA put ka z) (addB put kb z) x put:=by
 unfold rowP addA addB
 cases put<;>simp
theorem zxf{s:St}{ρ:Ren}(ka kb:List InstV)(x:DtInst)(put:Bool)(z:InstV)(h9:lk ρ 9=some 9)(h10:lk ρ 10=some 10):wn s ρ (rowP ka kb x put++[instV z]) (rowP ka kb x put++[instV z]):=by
 rw [zg0];exact zhj _ _ _ _ h9 h10
theorem zzn{zs:List InstV}{i:Nat}{put:Bool}{ka kb:List InstV}(h:PutI zs i put ka kb)(hi:i<zs.length):PutI zs (i+1) put (addA put ka zs[i]) (addB put kb zs[i]):=by
 unfold addA addB
 cases put
 ·have:=putI_add0 h hi
  rw [(h.no rfl).1];exact this
 ·exact putI_add1 h hi
theorem zzo{zs:List InstV}{i:Nat}{put:Bool}{ka kb:List InstV}(h:PutI zs i put ka kb)(x:DtInst):(rowP ka kb x put).length≤zs.length+1:=by
 unfold rowP
 cases put
 ·have:=(h.no rfl).2.length_le
  simp at this ⊢
  omega
 ·obtain ⟨p,h1,h2,h3⟩:=h.yes rfl
  have:=h2.length_le
  have:=h3.length_le
  simp at *
  omega
theorem sub_put{zs ka kb:List InstV}{x:DtInst}{p:Nat}(h1:ka.Sublist (zs.take p))(h2:kb.Sublist (zs.drop p)):(ka.map (·.1)++x :: kb.map (·.1)).length≤zs.length+1∧∀y∈ka.map (·.1)++x :: kb.map (·.1),y∈zs.map (·.1)∨y=x:=by
 have l1:=h1.length_le
 have l2:=h2.length_le
 refine ⟨by simp at *;omega,λy hy=>?_⟩
 rcases List.mem_append.1 hy with hy | hy
 ·obtain ⟨z,hz,rfl⟩:=List.mem_map.1 hy
  exact .inl (List.mem_map.2 ⟨z,List.mem_of_mem_take (h1.subset hz),rfl⟩)
 ·rcases List.mem_cons.1 hy with rfl | hy
  ·exact .inr rfl
  ·obtain ⟨z,hz,rfl⟩:=List.mem_map.1 hy
   exact .inl (List.mem_map.2 ⟨z,List.mem_of_mem_drop (h2.subset hz),rfl⟩)
section
variable {P:Program}{nt:Nat}{fs:List Nat}{Q:AExit→St→Prop}{st:St}{c:Code}
theorem ztm(n pk:Nat){us:List DtInst}(hob:st.ob n=some (.own 16 (us.map DtInst.cells)))(hpk:st.ob pk=none)
 (h:∀zs:List InstV,zs.map (·.1)=us→(∀z∈zs,∀j,(z.2 j).oneCell'=true)→AW P nt fs c Q { st with ob:=upd (upd st.ob pk (some (.park (zs.flatMap instP)))) n (some (.win 16 (zs.map instV))) }):AW P nt fs c Q st :=
 AW_split DtInst.cells n pk hob hpk h
end
theorem one_int(k:IntKind)(n:Int):(Value.int k n).oneCell'=true:=(rfl)
theorem one_bool(b:Bool):(Value.bool b).oneCell'=true:=(rfl)
theorem one_slice(a:Option Addr)(n c:Nat):(Value.slice a n c).oneCell'=true:=(rfl)
end Go.Proofs.YtodmafgmdlkhoaaGreat.Vs
end
