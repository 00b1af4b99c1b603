import Derived.Test.YtchpfloemfoomaaSM7
section
namespace Go.Proofs.Ytchpfloemfoomaa.Vs
set_option linter.all false
set_option maxRecDepth 100000
set_option maxHeartbeats 2000000
def zG22:=And.intro @zce (And.intro @gE (And.intro @tP (And.intro @zh0 (And.intro @and_assoc (And.intro @List.range_succ (And.intro @zbz (And.intro @zbk (And.intro @zbh (And.intro @zbd @zbs)))))))))
def zG23:=And.intro @zbt (And.intro @zb0 @zcb)
theorem zqm(s:List UInt8)(hs:s.length≤1048576)(hb:bdV s 0=true):XCall Try.prog 4 [.s s] [] (.tup [.agg [.arr 16 0 (RSS s).1.fCat.fSets.length,.arr 17 0 (RSS s).1.fSaid.length],(.g (.bool ((RSS s).2)))]) [] [.own 2 ((RSS s).1.fCat.fSets.map DtCSet.cells),.own 3 ((RSS s).1.fSaid.map DtSaid.cells)]:=by
 have hv:=zgg s 0 1 hs (by omega)
 have hw:=hv
 rw [zlw hb] at hv
 rw [znz (.inl hb)]
 refine zbu Try.func4 (by rfl) (by rfl) (by rw [Try.ntmps4];exact Nat.le_of_ble_eq_true rfl) rfl (by simp) rfl rfl ?_
 rw [Try.ntmps4]
 refine zf1   ?_
 refine AW_k [(0,_)] ⟨rfl,trivial⟩ ?_
 refine AW_x rfl rfl λK hK=>?_
 simp (disch:=omega) [zG22,cI,cS,DtState.cells,DtCatalog.cells,DtCSet.cells,DtSaid.cells,-aAppZ]
 repeat' first|(refine ⟨by omega,?_⟩)|(intro _)
 refine hK _ ?_;clear hK K
 refine AW_x rfl rfl λK hK=>?_
 simp (disch:=omega) [zG22,cI,cS,DtState.cells,DtCatalog.cells,DtCSet.cells,DtSaid.cells,-aAppZ]
 repeat' first|(refine ⟨by omega,?_⟩)|(simp (disch:=omega) [zG22,cI,cS,DtState.cells,DtCatalog.cells,DtCSet.cells,DtSaid.cells,-aAppZ])|(intro _)
 refine hK _ ?_;clear hK K
 refine AW_x rfl rfl λK hK=>?_
 simp (disch:=omega) [zG22,cI,cS,DtState.cells,DtCatalog.cells,DtCSet.cells,DtSaid.cells,-aAppZ]
 repeat' first|(exfalso;omega)|(refine zb6 [] false [] (hv) ?_ ?_ ?_;(focus (simp [List.range_succ,nmC];done));(focus (simp (disch:=omega) [zG22,cI,cS,DtState.cells,DtCatalog.cells,DtCSet.cells,DtSaid.cells,-aAppZ];done));simp (disch:=omega) [zG22,cI,cS,DtState.cells,DtCatalog.cells,DtCSet.cells,DtSaid.cells,-aAppZ])|(refine zb6 [] false [] (hw) ?_ ?_ ?_;(focus (simp [List.range_succ,nmC];done));(focus (simp (disch:=omega) [zG22,cI,cS,DtState.cells,DtCatalog.cells,DtCSet.cells,DtSaid.cells,-aAppZ];done));simp (disch:=omega) [zG22,cI,cS,DtState.cells,DtCatalog.cells,DtCSet.cells,DtSaid.cells,-aAppZ])|(refine ⟨by omega,?_⟩)|(simp (disch:=omega) [zG22,cI,cS,DtState.cells,DtCatalog.cells,DtCSet.cells,DtSaid.cells,-aAppZ])|(intro _)
 refine hK _ ?_;clear hK K
 refine zbf ?_
 refine AW_x rfl rfl λK hK=>?_
 simp (disch:=omega) [zG22,cI,cS,DtState.cells,DtCatalog.cells,DtCSet.cells,DtSaid.cells,-aAppZ]
 repeat' first|(exfalso;omega)|(refine ⟨λ_=>?_,λ_=>?_⟩)|(refine ⟨by omega,?_⟩)|(simp (disch:=omega) [zG22,cI,cS,DtState.cells,DtCatalog.cells,DtCSet.cells,DtSaid.cells,-aAppZ])|(intro _)
 all_goals (refine hK _ ?_;clear hK K)
 all_goals
  refine zbi rfl (λhc1=>?_) (λhc1=>?_)
  ·try simp [zbk,zbh,zbb,zba] at hc1
   all_goals
    refine AW_x rfl rfl λK hK=>?_
    simp (disch:=omega) [zG22,cI,cS,DtState.cells,DtCatalog.cells,DtCSet.cells,DtSaid.cells,-aAppZ]
    repeat' first|(exfalso;omega)|(refine ⟨λ_=>?_,λ_=>?_⟩)|(refine ⟨by omega,?_⟩)|(simp (disch:=omega) [zG22,cI,cS,DtState.cells,DtCatalog.cells,DtCSet.cells,DtSaid.cells,-aAppZ])|(intro _)
    all_goals (refine hK _ ?_;clear hK K)
    all_goals
     refine zbl (zcd [1000,1001] [(1000,2),(1001,3)] (by simp [zG23,List.range_succ]) (by simp) ?_)
     simp (disch:=omega) [zG22,cI,cS,DtState.cells,DtCatalog.cells,DtCSet.cells,DtSaid.cells,-aAppZ]
     all_goals first | exact ⟨rfl,rfl,rfl⟩ | rfl | omega | trace_state
  ·try simp [zbk,zbh,zbb,zba] at hc1
   all_goals
    refine zbj ?_
    refine zbo ?_
    refine zbf ?_
    refine AW_x rfl rfl λK hK=>?_
    simp (disch:=omega) [zG22,cI,cS,DtState.cells,DtCatalog.cells,DtCSet.cells,DtSaid.cells,-aAppZ]
    repeat' first|(exfalso;omega)|(refine ⟨λ_=>?_,λ_=>?_⟩)|(refine ⟨by omega,?_⟩)|(simp (disch:=omega) [zG22,cI,cS,DtState.cells,DtCatalog.cells,DtCSet.cells,DtSaid.cells,-aAppZ])|(intro _)
    all_goals (refine hK _ ?_;clear hK K)
    all_goals
     refine zbm ?_
     done
theorem zqn(s:List UInt8)(hs:s.length≤1048576)(hb:¬bdV s 0=true)(h5:5<v1 s 0):XCall Try.prog 4 [.s s] [] (.tup [.agg [.arr 16 0 (RSS s).1.fCat.fSets.length,.arr 17 0 (RSS s).1.fSaid.length],(.g (.bool ((RSS s).2)))]) [] [.own 2 ((RSS s).1.fCat.fSets.map DtCSet.cells),.own 3 ((RSS s).1.fSaid.map DtSaid.cells)]:=by
 have hv:=zgg s 0 1 hs (by omega)
 have hw:=hv
 rw [zfu hb] at hv
 have hbt:=zfv hb
 rw [znz (.inr (.inl h5))]
 generalize v1 s 0=v at *
 generalize e1 s 0=e at *
 refine zbu Try.func4 (by rfl) (by rfl) (by rw [Try.ntmps4];exact Nat.le_of_ble_eq_true rfl) rfl (by simp) rfl rfl ?_
 rw [Try.ntmps4]
 refine zf1   ?_
 refine AW_k [(0,_)] ⟨rfl,trivial⟩ ?_
 refine AW_x rfl rfl λK hK=>?_
 simp (disch:=omega) [zG22,cI,cS,DtState.cells,DtCatalog.cells,DtCSet.cells,DtSaid.cells,-aAppZ]
 repeat' first|(refine ⟨by omega,?_⟩)|(intro _)
 refine hK _ ?_;clear hK K
 refine AW_x rfl rfl λK hK=>?_
 simp (disch:=omega) [zG22,cI,cS,DtState.cells,DtCatalog.cells,DtCSet.cells,DtSaid.cells,-aAppZ]
 repeat' first|(refine ⟨by omega,?_⟩)|(simp (disch:=omega) [zG22,cI,cS,DtState.cells,DtCatalog.cells,DtCSet.cells,DtSaid.cells,-aAppZ])|(intro _)
 refine hK _ ?_;clear hK K
 refine AW_x rfl rfl λK hK=>?_
 simp (disch:=omega) [zG22,cI,cS,DtState.cells,DtCatalog.cells,DtCSet.cells,DtSaid.cells,-aAppZ]
 repeat' first|(exfalso;omega)|(refine zb6 [] false [] (hv) ?_ ?_ ?_;(focus (simp [List.range_succ,nmC];done));(focus (simp (disch:=omega) [zG22,cI,cS,DtState.cells,DtCatalog.cells,DtCSet.cells,DtSaid.cells,-aAppZ];done));simp (disch:=omega) [zG22,cI,cS,DtState.cells,DtCatalog.cells,DtCSet.cells,DtSaid.cells,-aAppZ])|(refine zb6 [] false [] (hw) ?_ ?_ ?_;(focus (simp [List.range_succ,nmC];done));(focus (simp (disch:=omega) [zG22,cI,cS,DtState.cells,DtCatalog.cells,DtCSet.cells,DtSaid.cells,-aAppZ];done));simp (disch:=omega) [zG22,cI,cS,DtState.cells,DtCatalog.cells,DtCSet.cells,DtSaid.cells,-aAppZ])|(refine ⟨by omega,?_⟩)|(simp (disch:=omega) [zG22,cI,cS,DtState.cells,DtCatalog.cells,DtCSet.cells,DtSaid.cells,-aAppZ])|(intro _)
 refine hK _ ?_;clear hK K
 refine zbf ?_
 refine AW_x rfl rfl λK hK=>?_
 simp (disch:=omega) [zG22,cI,cS,DtState.cells,DtCatalog.cells,DtCSet.cells,DtSaid.cells,-aAppZ]
 repeat' first|(exfalso;omega)|(refine ⟨λ_=>?_,λ_=>?_⟩)|(refine ⟨by omega,?_⟩)|(simp (disch:=omega) [zG22,cI,cS,DtState.cells,DtCatalog.cells,DtCSet.cells,DtSaid.cells,-aAppZ])|(intro _)
 all_goals (refine hK _ ?_;clear hK K)
 all_goals
  refine zbi rfl (λhc2=>?_) (λhc2=>?_)
  ·try simp [zbk,zbh,zbb,zba] at hc2
   all_goals
    refine AW_x rfl rfl λK hK=>?_
    simp (disch:=omega) [zG22,cI,cS,DtState.cells,DtCatalog.cells,DtCSet.cells,DtSaid.cells,-aAppZ]
    repeat' first|(exfalso;omega)|(refine ⟨λ_=>?_,λ_=>?_⟩)|(refine ⟨by omega,?_⟩)|(simp (disch:=omega) [zG22,cI,cS,DtState.cells,DtCatalog.cells,DtCSet.cells,DtSaid.cells,-aAppZ])|(intro _)
    all_goals (refine hK _ ?_;clear hK K)
    all_goals
     refine zbl (zcd [1000,1001] [(1000,2),(1001,3)] (by simp [zG23,List.range_succ]) (by simp) ?_)
     simp (disch:=omega) [zG22,cI,cS,DtState.cells,DtCatalog.cells,DtCSet.cells,DtSaid.cells,-aAppZ]
     all_goals first | exact ⟨rfl,rfl,rfl⟩ | rfl | omega | trace_state
  ·try simp [zbk,zbh,zbb,zba] at hc2
   all_goals
    refine zbj ?_
    refine zbo ?_
    refine zbf ?_
    refine AW_x rfl rfl λK hK=>?_
    simp (disch:=omega) [zG22,cI,cS,DtState.cells,DtCatalog.cells,DtCSet.cells,DtSaid.cells,-aAppZ]
    repeat' first|(exfalso;omega)|(refine ⟨λ_=>?_,λ_=>?_⟩)|(refine ⟨by omega,?_⟩)|(simp (disch:=omega) [zG22,cI,cS,DtState.cells,DtCatalog.cells,DtCSet.cells,DtSaid.cells,-aAppZ])|(intro _)
    all_goals (refine hK _ ?_;clear hK K)
    all_goals
     refine zbm ?_
     done
theorem zqo(s:List UInt8)(hs:s.length≤1048576)(hb:¬bdV s 0=true)(h5:¬5<v1 s 0)(hc:bdV s (aS s).2=true):XCall Try.prog 4 [.s s] [] (.tup [.agg [.arr 16 0 (RSS s).1.fCat.fSets.length,.arr 17 0 (RSS s).1.fSaid.length],(.g (.bool ((RSS s).2)))]) [] [.own 2 ((RSS s).1.fCat.fSets.map DtCSet.cells),.own 3 ((RSS s).1.fSaid.map DtSaid.cells)]:=by
 rw [znz (.inr (.inr (.inr (.inl hc))))]
 have hv:=zgg s 0 1 hs (by omega)
 rw [zfu hb] at hv
 have hbt:=zfv hb
 obtain ⟨Al,Ab,hAs⟩:∃Al Ab,aS s=(Al,Ab):=⟨_,_,rfl⟩
 have hw:=zgg s Ab 1 hs (by omega)
 have hA:=hAs
 unfold aS at hA
 obtain ⟨K,hK⟩:∃K:Nat,v1 s 0=K:=Int.eq_ofNat_of_zero_le (by omega)
 rw [hK,Int.toNat_natCast] at hA
 rw [hK] at hv hbt
 have h5':¬5<(K:Int):=by rw [←hK];exact h5
 generalize he:e1 s 0=e at *
 rw [hAs] at hc
 rw [zlw hc] at hw
 refine zbu Try.func4 (by rfl) (by rfl) (by rw [Try.ntmps4];exact Nat.le_of_ble_eq_true rfl) rfl (by simp) rfl rfl ?_
 rw [Try.ntmps4]
 refine zf1   ?_
 refine AW_k [(0,_)] ⟨rfl,trivial⟩ ?_
 refine AW_x rfl rfl λK hK=>?_
 simp (disch:=omega) [zG22,cI,cS,DtState.cells,DtCatalog.cells,DtCSet.cells,DtSaid.cells,-aAppZ]
 repeat' first|(refine ⟨by omega,?_⟩)|(intro _)
 refine hK _ ?_;clear hK K
 refine AW_x rfl rfl λK hK=>?_
 simp (disch:=omega) [zG22,cI,cS,DtState.cells,DtCatalog.cells,DtCSet.cells,DtSaid.cells,-aAppZ]
 repeat' first|(refine ⟨by omega,?_⟩)|(simp (disch:=omega) [zG22,cI,cS,DtState.cells,DtCatalog.cells,DtCSet.cells,DtSaid.cells,-aAppZ])|(intro _)
 refine hK _ ?_;clear hK K
 refine AW_x rfl rfl λK hK=>?_
 simp (disch:=omega) [zG22,cI,cS,DtState.cells,DtCatalog.cells,DtCSet.cells,DtSaid.cells,-aAppZ]
 repeat' first|(exfalso;omega)|(refine zb6 [] false [] (hv) ?_ ?_ ?_;(focus (simp [List.range_succ,nmC];done));(focus (simp (disch:=omega) [zG22,cI,cS,DtState.cells,DtCatalog.cells,DtCSet.cells,DtSaid.cells,-aAppZ];done));simp (disch:=omega) [zG22,cI,cS,DtState.cells,DtCatalog.cells,DtCSet.cells,DtSaid.cells,-aAppZ])|(refine zb6 [] false [] (hw) ?_ ?_ ?_;(focus (simp [List.range_succ,nmC];done));(focus (simp (disch:=omega) [zG22,cI,cS,DtState.cells,DtCatalog.cells,DtCSet.cells,DtSaid.cells,-aAppZ];done));simp (disch:=omega) [zG22,cI,cS,DtState.cells,DtCatalog.cells,DtCSet.cells,DtSaid.cells,-aAppZ])|(refine ⟨by omega,?_⟩)|(simp (disch:=omega) [zG22,cI,cS,DtState.cells,DtCatalog.cells,DtCSet.cells,DtSaid.cells,-aAppZ])|(intro _)
 refine hK _ ?_;clear hK K
 refine zbf ?_
 refine AW_x rfl rfl λK hK=>?_
 simp (disch:=omega) [zG22,cI,cS,DtState.cells,DtCatalog.cells,DtCSet.cells,DtSaid.cells,-aAppZ]
 repeat' first|(exfalso;omega)|(refine ⟨λ_=>?_,λ_=>?_⟩)|(refine ⟨by omega,?_⟩)|(simp (disch:=omega) [zG22,cI,cS,DtState.cells,DtCatalog.cells,DtCSet.cells,DtSaid.cells,-aAppZ])|(intro _)
 all_goals (refine hK _ ?_;clear hK K)
 all_goals
  refine zbi rfl (λhc3=>?_) (λhc3=>?_)
  ·try simp [zbk,zbh,zbb,zba] at hc3
   all_goals
    refine AW_x rfl rfl λK hK=>?_
    simp (disch:=omega) [zG22,cI,cS,DtState.cells,DtCatalog.cells,DtCSet.cells,DtSaid.cells,-aAppZ]
    repeat' first|(exfalso;omega)|(refine ⟨λ_=>?_,λ_=>?_⟩)|(refine ⟨by omega,?_⟩)|(simp (disch:=omega) [zG22,cI,cS,DtState.cells,DtCatalog.cells,DtCSet.cells,DtSaid.cells,-aAppZ])|(intro _)
    all_goals (refine hK _ ?_;clear hK K)
    all_goals
     refine zbl (zcd [1000,1001] [(1000,2),(1001,3)] (by simp [zG23,List.range_succ]) (by simp) ?_)
     simp (disch:=omega) [zG22,cI,cS,DtState.cells,DtCatalog.cells,DtCSet.cells,DtSaid.cells,-aAppZ]
     all_goals first | exact ⟨rfl,rfl,rfl⟩ | rfl | omega | trace_state
  ·try simp [zbk,zbh,zbb,zba] at hc3
   all_goals
    refine zbj ?_
    refine zbo ?_
    refine zbf ?_
    refine AW_x rfl rfl λK hK=>?_
    simp (disch:=omega) [zG22,cI,cS,DtState.cells,DtCatalog.cells,DtCSet.cells,DtSaid.cells,-aAppZ]
    repeat' first|(exfalso;omega)|(refine ⟨λ_=>?_,λ_=>?_⟩)|(refine ⟨by omega,?_⟩)|(simp (disch:=omega) [zG22,cI,cS,DtState.cells,DtCatalog.cells,DtCSet.cells,DtSaid.cells,-aAppZ])|(intro _)
    all_goals (refine hK _ ?_;clear hK K)
    all_goals
     refine zbm ?_
     refine zbw (λmM sS=>∃(i:Nat) (l:List DtCSet) (b:Int),mM=K-i∧(i≤K∧l.length=i∧setsS s (K-i) (l,b)=(Al,Ab)∧b≤s.length∧0≤b)∧sS = { env:=lkE [(0,.s s),(2,.ptr 48 0),(4,.ptr 80 0),(5,.arr 304 0 1),(6,(.g (.int .i64 (b)))),(7,(.g (.int .i64 ((i:Nat)))))],ob:=lk [(48,.cells [.g (.slice none 0 0),.g (.slice none 0 0)]),(80,.cells [.arr 500 0 l.length,.g (.slice none 0 0)]),(304,.own 1 [[(.g (.int .i64 ((K:Nat))))]]),(500,.own 2 (l.map DtCSet.cells))] }) ?_ ?_
     ·refine ⟨_,LeS.trans (LeS.znc (cs:=[.g (.slice none 0 0),.g (.slice none 0 0)]) 500 2 80 0 (by simp [zG23,zby]) (by simp [zG23,zby,DtCSet.cells]) (by rfl)) (LeS.kx [(48,48),(80,80),(304,304),(500,500)] [(0,.s s),(2,.ptr 48 0),(4,.ptr 80 0),(5,.arr 304 0 1),(6,(.g (.int .i64 ((e))))),(7,(.g (.int .i64 (((0):Nat)))))] [(48,.cells [.g (.slice none 0 0),.g (.slice none 0 0)]),(80,.cells [.arr 500 0 ([]).length,.g (.slice none 0 0)]),(304,.own 1 [[(.g (.int .i64 ((K:Nat))))]]),(500,.own 2 (([]).map DtCSet.cells))] (by simp [zG23,KpR,renV2,renV,zby,DtCSet.cells];try (first | with_reducible rfl | omega|(simp;done))) (by simp [zG23,KpOX,renO,plO,cvO,renV,pl1,DtCSet.cells];try (first | with_reducible rfl|(simp [DtCSet.cells];done) | trace_state)) (by rfl) (by simp) (by simp) (by rfl) (by simp [formsX,List.range_succ,zbt,zb0])),_,0,[],e,rfl,?_,rfl⟩
      ·exact ⟨by omega,rfl,hA,by omega,by omega⟩
     ·rintro mM sS ⟨i,l,b,rfl,⟨hin,hli,htx,hbl,hb0⟩,rfl⟩
      refine zbf ?_
      refine AW_x rfl rfl λK hK=>?_
      simp (disch:=omega) [zG22,cI,cS,DtState.cells,DtCatalog.cells,DtCSet.cells,DtSaid.cells,-aAppZ]
      repeat' first|(refine ⟨by omega,?_⟩)|(intro _)
      refine hK _ ?_;clear hK K
      refine zbi rfl (λhc4=>?_) (λhc4=>?_)
      ·try simp [zbk,zbh,zbb,zba] at hc4
       all_goals
        refine zbj ?_
        refine zbo ?_
        refine zbf ?_
        refine zbm ?_
        refine AW_x rfl rfl λK hK=>?_
        simp (disch:=omega) [zG22,cI,cS,DtState.cells,DtCatalog.cells,DtCSet.cells,DtSaid.cells,-aAppZ]
        repeat' first|(exfalso;omega)|(refine zb6 [] false [] (zx6 s b hs hbl) ?_ ?_ ?_;(focus (simp [List.range_succ,nmC];done));(focus (simp (disch:=omega) [zG22,cI,cS,DtState.cells,DtCatalog.cells,DtCSet.cells,DtSaid.cells,-aAppZ];done));simp (disch:=omega) [zG22,cI,cS,DtState.cells,DtCatalog.cells,DtCSet.cells,DtSaid.cells,-aAppZ])|(refine ⟨λ_=>?_,λ_=>?_⟩)|(refine ⟨by omega,?_⟩)|(simp (disch:=omega) [zG22,cI,cS,DtState.cells,DtCatalog.cells,DtCSet.cells,DtSaid.cells,-aAppZ])|(intro _)
        all_goals (refine hK _ ?_;clear hK K)
        all_goals
         refine zbf ?_
         refine AW_x rfl rfl λK hK=>?_
         simp (disch:=omega) [zG22,cI,cS,DtState.cells,DtCatalog.cells,DtCSet.cells,DtSaid.cells,-aAppZ]
         repeat' first|(refine ⟨by omega,?_⟩)|(intro _)
         refine hK _ ?_;clear hK K
         refine zbi rfl (λhc5=>?_) (λhc5=>?_)
         ·try simp [zbk,zbh,zbb,zba] at hc5
          all_goals
           have hz:=zsb htx (by omega) (by assumption)
           refine AW_x rfl rfl λK hK=>?_
           simp (disch:=omega) [zG22,cI,cS,DtState.cells,DtCatalog.cells,DtCSet.cells,DtSaid.cells,-aAppZ]
           repeat' first|(exfalso;omega)|(refine ⟨λ_=>?_,λ_=>?_⟩)|(refine ⟨by omega,?_⟩)|(simp (disch:=omega) [zG22,cI,cS,DtState.cells,DtCatalog.cells,DtCSet.cells,DtSaid.cells,-aAppZ])|(intro _)
           all_goals (refine hK _ ?_;clear hK K)
           all_goals
            refine zbl (zcd [1000,1001] [(1000,2),(1001,3)] (by simp [zG23,List.range_succ]) (by simp) ?_)
            simp (disch:=omega) [zG22,cI,cS,DtState.cells,DtCatalog.cells,DtCSet.cells,DtSaid.cells,-aAppZ]
            all_goals first | exact ⟨rfl,rfl,rfl⟩ | rfl | omega | trace_state
         ·try simp [zbk,zbh,zbb,zba] at hc5
          all_goals
           refine zbj ?_
           refine zbo ?_
           refine AW_x rfl rfl λK hK=>?_
           simp (disch:=omega) [zG22,cI,cS,DtState.cells,DtCatalog.cells,DtCSet.cells,DtSaid.cells,-aAppZ]
           repeat' first|(exfalso;omega)|(refine ⟨λ_=>?_,λ_=>?_⟩)|(refine ⟨by omega,?_⟩)|(simp (disch:=omega) [zG22,cI,cS,DtState.cells,DtCatalog.cells,DtCSet.cells,DtSaid.cells,-aAppZ])|(intro _)
           all_goals (refine hK _ ?_;clear hK K)
           all_goals
            refine zdc rfl rfl λK hK=>?_
            simp (disch:=omega) [zG22,cI,cS,DtState.cells,DtCatalog.cells,DtCSet.cells,DtSaid.cells,-aAppZ]
            repeat' first|(refine ⟨by omega,?_⟩)|(intro _)
            refine hK _ ?_;clear hK K
            refine zbo ?_
            refine zdc rfl rfl λK hK=>?_
            simp (disch:=omega) [zG22,cI,cS,DtState.cells,DtCatalog.cells,DtCSet.cells,DtSaid.cells,-aAppZ]
            repeat' first|(refine ⟨by omega,?_⟩)|(intro _)
            refine hK _ ?_;clear hK K
            refine ⟨_,LeS.kx [(48,48),(80,80),(304,304),(500,832)] [(0,.s s),(2,.ptr 48 0),(4,.ptr 80 0),(5,.arr 304 0 1),(6,(.g (.int .i64 (((setS s b).2))))),(7,(.g (.int .i64 (((i+1):Nat)))))] [(48,.cells [.g (.slice none 0 0),.g (.slice none 0 0)]),(80,.cells [.arr 500 0 (l++[(setS s b).1]).length,.g (.slice none 0 0)]),(304,.own 1 [[(.g (.int .i64 ((K:Nat))))]]),(500,.own 2 ((l++[(setS s b).1]).map DtCSet.cells))] (by simp [zG23,KpR,renV2,renV,zby,DtCSet.cells];try (first | with_reducible rfl | omega|(simp;done))) (by simp [zG23,KpOX,renO,plO,cvO,renV,pl1,DtCSet.cells];try (first | with_reducible rfl|(simp [DtCSet.cells];done) | trace_state)) (by rfl) (by simp) (by simp) (by rfl) (by simp [formsX,List.range_succ,zbt,zb0]),_,?_,i+1,l++[(setS s b).1],(setS s b).2,rfl,?_,rfl⟩
            ·omega
            ·exact ⟨by omega,by simp;omega,zsc htx (by omega) (by omega),zsa s b hbl,by omega⟩
      ·try simp [zbk,zbh,zbb,zba] at hc4
       all_goals
        have hN:K-i=0:=by omega
        rw [hN,setsS] at htx
        obtain ⟨rfl,rfl⟩:=Prod.mk.inj htx
        refine zb4 ?_
        refine zbo ?_
        refine AW_x rfl rfl λK hK=>?_
        simp (disch:=omega) [zG22,cI,cS,DtState.cells,DtCatalog.cells,DtCSet.cells,DtSaid.cells,-aAppZ]
        repeat' first|(exfalso;omega)|(refine zb6 [] false [] (hv) ?_ ?_ ?_;(focus (simp [List.range_succ,nmC];done));(focus (simp (disch:=omega) [zG22,cI,cS,DtState.cells,DtCatalog.cells,DtCSet.cells,DtSaid.cells,-aAppZ];done));simp (disch:=omega) [zG22,cI,cS,DtState.cells,DtCatalog.cells,DtCSet.cells,DtSaid.cells,-aAppZ])|(refine zb6 [] false [] (hw) ?_ ?_ ?_;(focus (simp [List.range_succ,nmC];done));(focus (simp (disch:=omega) [zG22,cI,cS,DtState.cells,DtCatalog.cells,DtCSet.cells,DtSaid.cells,-aAppZ];done));simp (disch:=omega) [zG22,cI,cS,DtState.cells,DtCatalog.cells,DtCSet.cells,DtSaid.cells,-aAppZ])|(refine ⟨λ_=>?_,λ_=>?_⟩)|(refine ⟨by omega,?_⟩)|(simp (disch:=omega) [zG22,cI,cS,DtState.cells,DtCatalog.cells,DtCSet.cells,DtSaid.cells,-aAppZ])|(intro _)
        all_goals (refine hK _ ?_;clear hK K)
        all_goals
         refine zbf ?_
         refine AW_x rfl rfl λK hK=>?_
         simp (disch:=omega) [zG22,cI,cS,DtState.cells,DtCatalog.cells,DtCSet.cells,DtSaid.cells,-aAppZ]
         repeat' first|(exfalso;omega)|(refine ⟨λ_=>?_,λ_=>?_⟩)|(refine ⟨by omega,?_⟩)|(simp (disch:=omega) [zG22,cI,cS,DtState.cells,DtCatalog.cells,DtCSet.cells,DtSaid.cells,-aAppZ])|(intro _)
         all_goals (refine hK _ ?_;clear hK K)
         all_goals
          refine zbi rfl (λhc6=>?_) (λhc6=>?_)
          ·try simp [zbk,zbh,zbb,zba] at hc6
           all_goals
            refine AW_x rfl rfl λK hK=>?_
            simp (disch:=omega) [zG22,cI,cS,DtState.cells,DtCatalog.cells,DtCSet.cells,DtSaid.cells,-aAppZ]
            repeat' first|(exfalso;omega)|(refine ⟨λ_=>?_,λ_=>?_⟩)|(refine ⟨by omega,?_⟩)|(simp (disch:=omega) [zG22,cI,cS,DtState.cells,DtCatalog.cells,DtCSet.cells,DtSaid.cells,-aAppZ])|(intro _)
            all_goals (refine hK _ ?_;clear hK K)
            all_goals
             refine zbl (zcd [1000,1001] [(1000,2),(1001,3)] (by simp [zG23,List.range_succ]) (by simp) ?_)
             simp (disch:=omega) [zG22,cI,cS,DtState.cells,DtCatalog.cells,DtCSet.cells,DtSaid.cells,-aAppZ]
             all_goals first | exact ⟨rfl,rfl,rfl⟩ | rfl | omega | trace_state
          ·try simp [zbk,zbh,zbb,zba] at hc6
           all_goals
            refine zbj ?_
            refine zbo ?_
            refine zbf ?_
            refine AW_x rfl rfl λK hK=>?_
            simp (disch:=omega) [zG22,cI,cS,DtState.cells,DtCatalog.cells,DtCSet.cells,DtSaid.cells,-aAppZ]
            repeat' first|(exfalso;omega)|(refine ⟨λ_=>?_,λ_=>?_⟩)|(refine ⟨by omega,?_⟩)|(simp (disch:=omega) [zG22,cI,cS,DtState.cells,DtCatalog.cells,DtCSet.cells,DtSaid.cells,-aAppZ])|(intro _)
            all_goals (refine hK _ ?_;clear hK K)
            all_goals
             refine zbm ?_
             done
theorem zqp(s:List UInt8)(hs:s.length≤1048576)(hb:¬bdV s 0=true)(h5:¬5<v1 s 0)(hc:¬bdV s (aS s).2=true)(h9:9<v1 s (aS s).2):XCall Try.prog 4 [.s s] [] (.tup [.agg [.arr 16 0 (RSS s).1.fCat.fSets.length,.arr 17 0 (RSS s).1.fSaid.length],(.g (.bool ((RSS s).2)))]) [] [.own 2 ((RSS s).1.fCat.fSets.map DtCSet.cells),.own 3 ((RSS s).1.fSaid.map DtSaid.cells)]:=by
 rw [znz (.inr (.inr (.inr (.inr (.inl h9)))))]
 have hv:=zgg s 0 1 hs (by omega)
 rw [zfu hb] at hv
 have hbt:=zfv hb
 obtain ⟨Al,Ab,hAs⟩:∃Al Ab,aS s=(Al,Ab):=⟨_,_,rfl⟩
 have hw:=zgg s Ab 1 hs (by omega)
 have hA:=hAs
 unfold aS at hA
 obtain ⟨K,hK⟩:∃K:Nat,v1 s 0=K:=Int.eq_ofNat_of_zero_le (by omega)
 rw [hK,Int.toNat_natCast] at hA
 rw [hK] at hv hbt
 have h5':¬5<(K:Int):=by rw [←hK];exact h5
 generalize he:e1 s 0=e at *
 rw [hAs] at hc h9
 rw [zfu hc] at hw
 have hct:=zfv hc
 dsimp only at h9
 generalize hv2:v1 s Ab=v2 at *
 generalize he2:e1 s Ab=e2 at *
 refine zbu Try.func4 (by rfl) (by rfl) (by rw [Try.ntmps4];exact Nat.le_of_ble_eq_true rfl) rfl (by simp) rfl rfl ?_
 rw [Try.ntmps4]
 refine zf1   ?_
 refine AW_k [(0,_)] ⟨rfl,trivial⟩ ?_
 refine AW_x rfl rfl λK hK=>?_
 simp (disch:=omega) [zG22,cI,cS,DtState.cells,DtCatalog.cells,DtCSet.cells,DtSaid.cells,-aAppZ]
 repeat' first|(refine ⟨by omega,?_⟩)|(intro _)
 refine hK _ ?_;clear hK K
 refine AW_x rfl rfl λK hK=>?_
 simp (disch:=omega) [zG22,cI,cS,DtState.cells,DtCatalog.cells,DtCSet.cells,DtSaid.cells,-aAppZ]
 repeat' first|(refine ⟨by omega,?_⟩)|(simp (disch:=omega) [zG22,cI,cS,DtState.cells,DtCatalog.cells,DtCSet.cells,DtSaid.cells,-aAppZ])|(intro _)
 refine hK _ ?_;clear hK K
 refine AW_x rfl rfl λK hK=>?_
 simp (disch:=omega) [zG22,cI,cS,DtState.cells,DtCatalog.cells,DtCSet.cells,DtSaid.cells,-aAppZ]
 repeat' first|(exfalso;omega)|(refine zb6 [] false [] (hv) ?_ ?_ ?_;(focus (simp [List.range_succ,nmC];done));(focus (simp (disch:=omega) [zG22,cI,cS,DtState.cells,DtCatalog.cells,DtCSet.cells,DtSaid.cells,-aAppZ];done));simp (disch:=omega) [zG22,cI,cS,DtState.cells,DtCatalog.cells,DtCSet.cells,DtSaid.cells,-aAppZ])|(refine zb6 [] false [] (hw) ?_ ?_ ?_;(focus (simp [List.range_succ,nmC];done));(focus (simp (disch:=omega) [zG22,cI,cS,DtState.cells,DtCatalog.cells,DtCSet.cells,DtSaid.cells,-aAppZ];done));simp (disch:=omega) [zG22,cI,cS,DtState.cells,DtCatalog.cells,DtCSet.cells,DtSaid.cells,-aAppZ])|(refine ⟨by omega,?_⟩)|(simp (disch:=omega) [zG22,cI,cS,DtState.cells,DtCatalog.cells,DtCSet.cells,DtSaid.cells,-aAppZ])|(intro _)
 refine hK _ ?_;clear hK K
 refine zbf ?_
 refine AW_x rfl rfl λK hK=>?_
 simp (disch:=omega) [zG22,cI,cS,DtState.cells,DtCatalog.cells,DtCSet.cells,DtSaid.cells,-aAppZ]
 repeat' first|(exfalso;omega)|(refine ⟨λ_=>?_,λ_=>?_⟩)|(refine ⟨by omega,?_⟩)|(simp (disch:=omega) [zG22,cI,cS,DtState.cells,DtCatalog.cells,DtCSet.cells,DtSaid.cells,-aAppZ])|(intro _)
 all_goals (refine hK _ ?_;clear hK K)
 all_goals
  refine zbi rfl (λhc7=>?_) (λhc7=>?_)
  ·try simp [zbk,zbh,zbb,zba] at hc7
   all_goals
    refine AW_x rfl rfl λK hK=>?_
    simp (disch:=omega) [zG22,cI,cS,DtState.cells,DtCatalog.cells,DtCSet.cells,DtSaid.cells,-aAppZ]
    repeat' first|(exfalso;omega)|(refine ⟨λ_=>?_,λ_=>?_⟩)|(refine ⟨by omega,?_⟩)|(simp (disch:=omega) [zG22,cI,cS,DtState.cells,DtCatalog.cells,DtCSet.cells,DtSaid.cells,-aAppZ])|(intro _)
    all_goals (refine hK _ ?_;clear hK K)
    all_goals
     refine zbl (zcd [1000,1001] [(1000,2),(1001,3)] (by simp [zG23,List.range_succ]) (by simp) ?_)
     simp (disch:=omega) [zG22,cI,cS,DtState.cells,DtCatalog.cells,DtCSet.cells,DtSaid.cells,-aAppZ]
     all_goals first | exact ⟨rfl,rfl,rfl⟩ | rfl | omega | trace_state
  ·try simp [zbk,zbh,zbb,zba] at hc7
   all_goals
    refine zbj ?_
    refine zbo ?_
    refine zbf ?_
    refine AW_x rfl rfl λK hK=>?_
    simp (disch:=omega) [zG22,cI,cS,DtState.cells,DtCatalog.cells,DtCSet.cells,DtSaid.cells,-aAppZ]
    repeat' first|(exfalso;omega)|(refine ⟨λ_=>?_,λ_=>?_⟩)|(refine ⟨by omega,?_⟩)|(simp (disch:=omega) [zG22,cI,cS,DtState.cells,DtCatalog.cells,DtCSet.cells,DtSaid.cells,-aAppZ])|(intro _)
    all_goals (refine hK _ ?_;clear hK K)
    all_goals
     refine zbm ?_
     refine zbw (λmM sS=>∃(i:Nat) (l:List DtCSet) (b:Int),mM=K-i∧(i≤K∧l.length=i∧setsS s (K-i) (l,b)=(Al,Ab)∧b≤s.length∧0≤b)∧sS = { env:=lkE [(0,.s s),(2,.ptr 48 0),(4,.ptr 80 0),(5,.arr 304 0 1),(6,(.g (.int .i64 (b)))),(7,(.g (.int .i64 ((i:Nat)))))],ob:=lk [(48,.cells [.g (.slice none 0 0),.g (.slice none 0 0)]),(80,.cells [.arr 500 0 l.length,.g (.slice none 0 0)]),(304,.own 1 [[(.g (.int .i64 ((K:Nat))))]]),(500,.own 2 (l.map DtCSet.cells))] }) ?_ ?_
     ·refine ⟨_,LeS.trans (LeS.znc (cs:=[.g (.slice none 0 0),.g (.slice none 0 0)]) 500 2 80 0 (by simp [zG23,zby]) (by simp [zG23,zby,DtCSet.cells]) (by rfl)) (LeS.kx [(48,48),(80,80),(304,304),(500,500)] [(0,.s s),(2,.ptr 48 0),(4,.ptr 80 0),(5,.arr 304 0 1),(6,(.g (.int .i64 ((e))))),(7,(.g (.int .i64 (((0):Nat)))))] [(48,.cells [.g (.slice none 0 0),.g (.slice none 0 0)]),(80,.cells [.arr 500 0 ([]).length,.g (.slice none 0 0)]),(304,.own 1 [[(.g (.int .i64 ((K:Nat))))]]),(500,.own 2 (([]).map DtCSet.cells))] (by simp [zG23,KpR,renV2,renV,zby,DtCSet.cells];try (first | with_reducible rfl | omega|(simp;done))) (by simp [zG23,KpOX,renO,plO,cvO,renV,pl1,DtCSet.cells];try (first | with_reducible rfl|(simp [DtCSet.cells];done) | trace_state)) (by rfl) (by simp) (by simp) (by rfl) (by simp [formsX,List.range_succ,zbt,zb0])),_,0,[],e,rfl,?_,rfl⟩
      ·exact ⟨by omega,rfl,hA,by omega,by omega⟩
     ·rintro mM sS ⟨i,l,b,rfl,⟨hin,hli,htx,hbl,hb0⟩,rfl⟩
      refine zbf ?_
      refine AW_x rfl rfl λK hK=>?_
      simp (disch:=omega) [zG22,cI,cS,DtState.cells,DtCatalog.cells,DtCSet.cells,DtSaid.cells,-aAppZ]
      repeat' first|(refine ⟨by omega,?_⟩)|(intro _)
      refine hK _ ?_;clear hK K
      refine zbi rfl (λhc8=>?_) (λhc8=>?_)
      ·try simp [zbk,zbh,zbb,zba] at hc8
       all_goals
        refine zbj ?_
        refine zbo ?_
        refine zbf ?_
        refine zbm ?_
        refine AW_x rfl rfl λK hK=>?_
        simp (disch:=omega) [zG22,cI,cS,DtState.cells,DtCatalog.cells,DtCSet.cells,DtSaid.cells,-aAppZ]
        repeat' first|(exfalso;omega)|(refine zb6 [] false [] (zx6 s b hs hbl) ?_ ?_ ?_;(focus (simp [List.range_succ,nmC];done));(focus (simp (disch:=omega) [zG22,cI,cS,DtState.cells,DtCatalog.cells,DtCSet.cells,DtSaid.cells,-aAppZ];done));simp (disch:=omega) [zG22,cI,cS,DtState.cells,DtCatalog.cells,DtCSet.cells,DtSaid.cells,-aAppZ])|(refine ⟨λ_=>?_,λ_=>?_⟩)|(refine ⟨by omega,?_⟩)|(simp (disch:=omega) [zG22,cI,cS,DtState.cells,DtCatalog.cells,DtCSet.cells,DtSaid.cells,-aAppZ])|(intro _)
        all_goals (refine hK _ ?_;clear hK K)
        all_goals
         refine zbf ?_
         refine AW_x rfl rfl λK hK=>?_
         simp (disch:=omega) [zG22,cI,cS,DtState.cells,DtCatalog.cells,DtCSet.cells,DtSaid.cells,-aAppZ]
         repeat' first|(refine ⟨by omega,?_⟩)|(intro _)
         refine hK _ ?_;clear hK K
         refine zbi rfl (λhc9=>?_) (λhc9=>?_)
         ·try simp [zbk,zbh,zbb,zba] at hc9
          all_goals
           have hz:=zsb htx (by omega) (by assumption)
           refine AW_x rfl rfl λK hK=>?_
           simp (disch:=omega) [zG22,cI,cS,DtState.cells,DtCatalog.cells,DtCSet.cells,DtSaid.cells,-aAppZ]
           repeat' first|(exfalso;omega)|(refine ⟨λ_=>?_,λ_=>?_⟩)|(refine ⟨by omega,?_⟩)|(simp (disch:=omega) [zG22,cI,cS,DtState.cells,DtCatalog.cells,DtCSet.cells,DtSaid.cells,-aAppZ])|(intro _)
           all_goals (refine hK _ ?_;clear hK K)
           all_goals
            refine zbl (zcd [1000,1001] [(1000,2),(1001,3)] (by simp [zG23,List.range_succ]) (by simp) ?_)
            simp (disch:=omega) [zG22,cI,cS,DtState.cells,DtCatalog.cells,DtCSet.cells,DtSaid.cells,-aAppZ]
            all_goals first | exact ⟨rfl,rfl,rfl⟩ | rfl | omega | trace_state
         ·try simp [zbk,zbh,zbb,zba] at hc9
          all_goals
           refine zbj ?_
           refine zbo ?_
           refine AW_x rfl rfl λK hK=>?_
           simp (disch:=omega) [zG22,cI,cS,DtState.cells,DtCatalog.cells,DtCSet.cells,DtSaid.cells,-aAppZ]
           repeat' first|(exfalso;omega)|(refine ⟨λ_=>?_,λ_=>?_⟩)|(refine ⟨by omega,?_⟩)|(simp (disch:=omega) [zG22,cI,cS,DtState.cells,DtCatalog.cells,DtCSet.cells,DtSaid.cells,-aAppZ])|(intro _)
           all_goals (refine hK _ ?_;clear hK K)
           all_goals
            refine zdc rfl rfl λK hK=>?_
            simp (disch:=omega) [zG22,cI,cS,DtState.cells,DtCatalog.cells,DtCSet.cells,DtSaid.cells,-aAppZ]
            repeat' first|(refine ⟨by omega,?_⟩)|(intro _)
            refine hK _ ?_;clear hK K
            refine zbo ?_
            refine zdc rfl rfl λK hK=>?_
            simp (disch:=omega) [zG22,cI,cS,DtState.cells,DtCatalog.cells,DtCSet.cells,DtSaid.cells,-aAppZ]
            repeat' first|(refine ⟨by omega,?_⟩)|(intro _)
            refine hK _ ?_;clear hK K
            refine ⟨_,LeS.kx [(48,48),(80,80),(304,304),(500,832)] [(0,.s s),(2,.ptr 48 0),(4,.ptr 80 0),(5,.arr 304 0 1),(6,(.g (.int .i64 (((setS s b).2))))),(7,(.g (.int .i64 (((i+1):Nat)))))] [(48,.cells [.g (.slice none 0 0),.g (.slice none 0 0)]),(80,.cells [.arr 500 0 (l++[(setS s b).1]).length,.g (.slice none 0 0)]),(304,.own 1 [[(.g (.int .i64 ((K:Nat))))]]),(500,.own 2 ((l++[(setS s b).1]).map DtCSet.cells))] (by simp [zG23,KpR,renV2,renV,zby,DtCSet.cells];try (first | with_reducible rfl | omega|(simp;done))) (by simp [zG23,KpOX,renO,plO,cvO,renV,pl1,DtCSet.cells];try (first | with_reducible rfl|(simp [DtCSet.cells];done) | trace_state)) (by rfl) (by simp) (by simp) (by rfl) (by simp [formsX,List.range_succ,zbt,zb0]),_,?_,i+1,l++[(setS s b).1],(setS s b).2,rfl,?_,rfl⟩
            ·omega
            ·exact ⟨by omega,by simp;omega,zsc htx (by omega) (by omega),zsa s b hbl,by omega⟩
      ·try simp [zbk,zbh,zbb,zba] at hc8
       all_goals
        have hN:K-i=0:=by omega
        rw [hN,setsS] at htx
        obtain ⟨rfl,rfl⟩:=Prod.mk.inj htx
        refine zb4 ?_
        refine zbo ?_
        refine AW_x rfl rfl λK hK=>?_
        simp (disch:=omega) [zG22,cI,cS,DtState.cells,DtCatalog.cells,DtCSet.cells,DtSaid.cells,-aAppZ]
        repeat' first|(exfalso;omega)|(refine zb6 [] false [] (hv) ?_ ?_ ?_;(focus (simp [List.range_succ,nmC];done));(focus (simp (disch:=omega) [zG22,cI,cS,DtState.cells,DtCatalog.cells,DtCSet.cells,DtSaid.cells,-aAppZ];done));simp (disch:=omega) [zG22,cI,cS,DtState.cells,DtCatalog.cells,DtCSet.cells,DtSaid.cells,-aAppZ])|(refine zb6 [] false [] (hw) ?_ ?_ ?_;(focus (simp [List.range_succ,nmC];done));(focus (simp (disch:=omega) [zG22,cI,cS,DtState.cells,DtCatalog.cells,DtCSet.cells,DtSaid.cells,-aAppZ];done));simp (disch:=omega) [zG22,cI,cS,DtState.cells,DtCatalog.cells,DtCSet.cells,DtSaid.cells,-aAppZ])|(refine ⟨λ_=>?_,λ_=>?_⟩)|(refine ⟨by omega,?_⟩)|(simp (disch:=omega) [zG22,cI,cS,DtState.cells,DtCatalog.cells,DtCSet.cells,DtSaid.cells,-aAppZ])|(intro _)
        all_goals (refine hK _ ?_;clear hK K)
        all_goals
         refine zbf ?_
         refine AW_x rfl rfl λK hK=>?_
         simp (disch:=omega) [zG22,cI,cS,DtState.cells,DtCatalog.cells,DtCSet.cells,DtSaid.cells,-aAppZ]
         repeat' first|(exfalso;omega)|(refine ⟨λ_=>?_,λ_=>?_⟩)|(refine ⟨by omega,?_⟩)|(simp (disch:=omega) [zG22,cI,cS,DtState.cells,DtCatalog.cells,DtCSet.cells,DtSaid.cells,-aAppZ])|(intro _)
         all_goals (refine hK _ ?_;clear hK K)
         all_goals
          refine zbi rfl (λhc10=>?_) (λhc10=>?_)
          ·try simp [zbk,zbh,zbb,zba] at hc10
           all_goals
            refine AW_x rfl rfl λK hK=>?_
            simp (disch:=omega) [zG22,cI,cS,DtState.cells,DtCatalog.cells,DtCSet.cells,DtSaid.cells,-aAppZ]
            repeat' first|(exfalso;omega)|(refine ⟨λ_=>?_,λ_=>?_⟩)|(refine ⟨by omega,?_⟩)|(simp (disch:=omega) [zG22,cI,cS,DtState.cells,DtCatalog.cells,DtCSet.cells,DtSaid.cells,-aAppZ])|(intro _)
            all_goals (refine hK _ ?_;clear hK K)
            all_goals
             refine zbl (zcd [1000,1001] [(1000,2),(1001,3)] (by simp [zG23,List.range_succ]) (by simp) ?_)
             simp (disch:=omega) [zG22,cI,cS,DtState.cells,DtCatalog.cells,DtCSet.cells,DtSaid.cells,-aAppZ]
             all_goals first | exact ⟨rfl,rfl,rfl⟩ | rfl | omega | trace_state
          ·try simp [zbk,zbh,zbb,zba] at hc10
           all_goals
            refine zbj ?_
            refine zbo ?_
            refine zbf ?_
            refine AW_x rfl rfl λK hK=>?_
            simp (disch:=omega) [zG22,cI,cS,DtState.cells,DtCatalog.cells,DtCSet.cells,DtSaid.cells,-aAppZ]
            repeat' first|(exfalso;omega)|(refine ⟨λ_=>?_,λ_=>?_⟩)|(refine ⟨by omega,?_⟩)|(simp (disch:=omega) [zG22,cI,cS,DtState.cells,DtCatalog.cells,DtCSet.cells,DtSaid.cells,-aAppZ])|(intro _)
            all_goals (refine hK _ ?_;clear hK K)
            all_goals
             refine zbm ?_
             done
theorem zn1(s:List UInt8)(hs:s.length≤1048576):XCall Try.prog 4 [.s s] [] (.tup [.agg [.arr 16 0 (RSS s).1.fCat.fSets.length,.arr 17 0 (RSS s).1.fSaid.length],(.g (.bool ((RSS s).2)))]) [] [.own 2 ((RSS s).1.fCat.fSets.map DtCSet.cells),.own 3 ((RSS s).1.fSaid.map DtSaid.cells)]:=by
 by_cases hb:bdV s 0=true
 ·exact zqm s hs hb
 ·by_cases h5:5<v1 s 0
  ·exact zqn s hs hb h5
  ·by_cases hc:bdV s (aS s).2=true
   ·exact zqo s hs hb h5 hc
   ·by_cases h9:9<v1 s (aS s).2
    ·exact zqp s hs hb h5 hc h9
    ·exact zql s hs hb h5 hc h9
end Go.Proofs.Ytchpfloemfoomaa.Vs
end
section
namespace Go.Proofs.Ytchpfloemfoomaa.Vs
set_option linter.all false
set_option maxRecDepth 100000
/-! what is shown is read: the program -/
theorem zh2(n:Int)(h:0≤n∧n≤562949953421311)(r:List UInt8):numI (varZ n++r,false)=(n,(r,false)):=by
 have e:=zxv n h r
 have hp:1≤(varZ n).length:=by unfold varZ;rw [if_pos h];exact zhz _
 unfold numI
 rw [e]
 rw [if_neg (by rintro (h | h);cases h;dsimp only at h;omega)]
 simp
theorem zf6(t:List UInt8)(h:t.length≤1048576)(r:List UInt8):textI (piece t++r,false)=(t,(r,false)):=by
 unfold textI piece
 rw [List.append_assoc,zh2 _ (by omega)]
 unfold cutI
 rw [if_neg (by rintro (h | h | h);cases h;omega;simp only [List.length_append] at h;omega)]
 simp
theorem zg5(m n:Int)(h:0≤n∧n≤562949953421311)(hm:n≤m)(r:List UInt8):manyI m (varZ n++r,false)=(n,(r,false)):=by
 unfold manyI
 rw [zh2 n h]
 rw [if_neg (by rintro (h | h);dsimp only at h;omega;cases h)]
theorem zqq:∀(ts acc:List (List UInt8)) (r:List UInt8),(∀t∈ts,t.length≤1048576)→txsI ts.length (acc,(catM piece ts++r,false))=(acc++ts,(r,false))
 | [],acc,r,_=>by simp [txsI,catM]
 | t :: ts,acc,r,h=>by
  rw [List.length_cons,txsI]
  have e:catM piece (t :: ts)++r=piece t++(catM piece ts++r):=by simp [catM]
  rw [e,zf6 t (h t List.mem_cons_self),zqq ts _ r λx hx=>h x (List.mem_cons_of_mem _ hx)]
  simp
theorem zve(p:DtCSnap)(h:SnapP p)(r:List UInt8):snapI (showSnap p++r,false)=(p,(r,false)):=by
 obtain ⟨h1,h2,h3,h4,-⟩:=zhf h
 have e:showSnap p++r=piece p.fName++(piece p.fTag++(varZ p.fChunks.length++(catM piece p.fChunks++r))):=by simp [showSnap]
 unfold snapI
 rw [e,zf6 _ (by omega),zf6 _ (by omega),zg5 4 _ (by omega) (by omega)]
 rw [Int.toNat_natCast,zqq _ _ _ (λt ht=>by rw [h4 t ht];omega)]
 simp
theorem zqr:∀(ts acc:List DtCSnap) (r:List UInt8),(∀t∈ts,SnapP t)→snsI ts.length (acc,(catM showSnap ts++r,false))=(acc++ts,(r,false))
 | [],acc,r,_=>by simp [snsI,catM]
 | t :: ts,acc,r,h=>by
  rw [List.length_cons,snsI]
  have e:catM showSnap (t :: ts)++r=showSnap t++(catM showSnap ts++r):=by simp [catM]
  rw [e,zve t (h t List.mem_cons_self),zqr ts _ r λx hx=>h x (List.mem_cons_of_mem _ hx)]
  simp
theorem zza(p:DtCSet)(h:SetP p)(r:List UInt8):setI (showSet p++r,false)=(p,(r,false)):=by
 obtain ⟨h1,h2,h3,-⟩:=zjw h
 have e:showSet p++r=piece p.fName++(varZ p.fSnaps.length++(catM showSnap p.fSnaps++r)):=by simp [showSet]
 unfold setI
 rw [e,zf6 _ (by omega),zg5 5 _ (by omega) (by omega)]
 rw [Int.toNat_natCast,zqr _ _ _ h3]
 simp
theorem zmv:∀(ts acc:List DtCSet) (r:List UInt8),(∀t∈ts,SetP t)→setsI ts.length (acc,(catM showSet ts++r,false))=(acc++ts,(r,false))
 | [],acc,r,_=>by simp [setsI,catM]
 | t :: ts,acc,r,h=>by
  rw [List.length_cons,setsI]
  have e:catM showSet (t :: ts)++r=showSet t++(catM showSet ts++r):=by simp [catM]
  rw [e,zza t (h t List.mem_cons_self),zmv ts _ r λx hx=>h x (List.mem_cons_of_mem _ hx)]
  simp
end Go.Proofs.Ytchpfloemfoomaa.Vs
end
section
namespace Go.Proofs.Ytchpfloemfoomaa.Vs
set_option linter.all false
set_option maxRecDepth 100000
theorem said_asc{s:DtState}(h:StateP s):∀(i:Nat) x,s.fSaid[i]? = some x→(i:Int)+1≤x.fClient:=by
 intro i
 induction i with
 | zero=>intro x hx;have:=(h.2 0 x hx).1;omega
 | succ i ih =>
  intro x hx
  have hi:=(List.getElem?_eq_some_iff.1 hx).1
  have hy:s.fSaid[i]? = some s.fSaid[i]:=List.getElem?_eq_getElem (by omega)
  have h1:=ih _ hy
  have h2:=(h.2 (i+1) x hx).2.2.2.2 s.fSaid[i] (by omega) (by rw [Nat.add_sub_cancel];exact hy)
  omega
theorem zte{s:DtState}(h:StateP s):s.fSaid.length≤9:=by
 by_cases h0:s.fSaid.length=0
 ·omega
 ·have hl:s.fSaid.length-1<s.fSaid.length:=by omega
  have hx:s.fSaid[s.fSaid.length-1]? = some s.fSaid[s.fSaid.length-1]:=List.getElem?_eq_getElem hl
  have h1:=said_asc h _ _ hx
  have h2:=(h.2 _ _ hx).2.1
  omega
def SaidB(x:DtSaid):Prop:=0≤x.fClient∧x.fClient≤1000∧0≤x.fNo∧x.fNo≤1000∧x.fText.length≤1048576
theorem said_B{s:DtState}(h:StateP s)(hl:(showSt s).length≤1048576):∀x∈s.fSaid,SaidB x:=by
 intro x hx
 obtain ⟨i,hi⟩:=List.getElem?_of_mem hx
 obtain ⟨g1,g2,g3,g4,-⟩:=h.2 i x hi
 refine ⟨by omega,by omega,by omega,by omega,?_⟩
 have h1:(showSaid x).length≤(catM showSaid s.fSaid).length:=by
  unfold catM
  exact (List.sublist_flatten_of_mem (List.mem_map_of_mem hx)).length_le
 have h2:x.fText.length≤(showSaid x).length:=by simp [showSaid,piece];omega
 have h3:(catM showSaid s.fSaid).length≤(showSt s).length:=by simp [showSt];omega
 omega
theorem sets_P{s:DtState}(h:StateP s):s.fCat.fSets.length≤5∧∀x∈s.fCat.fSets,SetP x:=by
 refine ⟨h.1.1,λx hx=>?_⟩
 obtain ⟨i,hi⟩:=List.getElem?_of_mem hx
 exact (h.1.2 i x hi).1
theorem zvf(p:DtSaid)(h:SaidB p)(r:List UInt8):saidI (showSaid p++r,false)=(p,(r,false)):=by
 obtain ⟨h1,h2,h3,h4,h5⟩:=h
 have e:showSaid p++r=varZ p.fClient++(varZ p.fNo++(piece p.fText++r)):=by simp [showSaid]
 unfold saidI
 rw [e,zh2 _ (by omega),zh2 _ (by omega),zf6 _ h5]
theorem zly:∀(ts acc:List DtSaid) (r:List UInt8),(∀t∈ts,SaidB t)→saidsI ts.length (acc,(catM showSaid ts++r,false))=(acc++ts,(r,false))
 | [],acc,r,_=>by simp [saidsI,catM]
 | t :: ts,acc,r,h=>by
  rw [List.length_cons,saidsI]
  have e:catM showSaid (t :: ts)++r=showSaid t++(catM showSaid ts++r):=by simp [catM]
  rw [e,zvf t (h t List.mem_cons_self),zly ts _ r λx hx=>h x (List.mem_cons_of_mem _ hx)]
  simp
theorem zhh{s:DtState}(h:StateP s):showState s=showSt s:=by unfold showState;rw [zcw h];rfl
theorem zzb(s:DtState)(h:StateP s):¬showSt s=[]:=by
 intro e
 have h1:=h.1.1
 have h2:1≤(varZ s.fCat.fSets.length).length:=by unfold varZ;rw [if_pos (by omega)];exact zhz _
 unfold showSt at e
 rw [List.append_eq_nil_iff] at e
 rw [e.1] at h2
 simp at h2
theorem RSI_show{X:DtState}(h:StateP X)(hl:(showSt X).length≤1048576):RSI (showSt X)=(X,true):=by
 obtain ⟨h1,h2⟩:=sets_P h
 have h3:=zte h
 have h4:=said_B h hl
 have hA:rsA (showSt X)=(X.fCat.fSets,(varZ X.fSaid.length++catM showSaid X.fSaid,false)):=by
  unfold rsA showSt
  rw [zg5 5 _ (by omega) (by omega),Int.toNat_natCast,zmv _ _ _ h2]
  simp
 have hB:rsB (varZ X.fSaid.length++catM showSaid X.fSaid,false)=(X.fSaid,([],false)):=by
  unfold rsB
  rw [zg5 9 _ (by omega) (by omega),Int.toNat_natCast]
  have:=zly X.fSaid [] [] h4
  rw [List.append_nil] at this
  rw [this]
  simp
 have hR:readI (showSt X)=(X,([],false)):=by
  unfold readI
  rw [hA,hB]
 rw [rsi_t (by rw [hR];simp) (zzb X h) (by rw [hR];exact zhh h),hR]
end Go.Proofs.Ytchpfloemfoomaa.Vs
end
section
namespace Go.Proofs.Ytchpfloemfoomaa.Vs
set_option linter.all false
set_option maxRecDepth 100000
/-! what is shown is read: the reference -/
def Pl(s:List UInt8)(a:Int)(r:List UInt8):Prop:=0≤a∧a≤s.length∧s.drop a.toNat=r
theorem zdq{s:List UInt8}{a:Int}{x r:List UInt8}(h:Pl s a (x++r)):Pl s (a+x.length) r:=by
 obtain ⟨h1,h2,h3⟩:=h
 have hl:=congrArg List.length h3
 simp only [List.length_drop,List.length_append] at hl
 refine ⟨by omega,by omega,?_⟩
 have e:(a+x.length).toNat=a.toNat+x.length:=by omega
 rw [e,←List.drop_drop,h3]
 simp
theorem zge{s:List UInt8}{a n:Int}{r:List UInt8}(h:Pl s a (varZ n++r))(hn:0≤n∧n≤562949953421311):¬bdV s a=true∧v1 s a=n∧e1 s a=a+(varZ n).length∧Pl s (e1 s a) r:=by
 have hp:=zdq h
 obtain ⟨h1,h2,h3⟩:=h
 have e:=zxv n hn r
 have hv:1≤(varZ n).length:=by unfold varZ;rw [if_pos hn];exact zhz _
 have hE:e1 s a=a+(varZ n).length:=by unfold e1;rw [h3,e]
 refine ⟨?_,?_,hE,by rw [hE];exact hp⟩
 ·unfold bdV
  rw [decide_eq_true_iff,h3,e]
  rintro (g | g | g)
  ·omega
  ·omega
  ·dsimp only at g;omega
 ·unfold v1;rw [h3,e]
theorem zqs{s:List UInt8}{a:Int}{t r:List UInt8}(h:Pl s a (piece t++r))(ht:t.length≤1048576):takeS s a=(t,a+(piece t).length)∧Pl s (a+(piece t).length) r:=by
 have hp:=zdq h
 unfold piece at h
 rw [List.append_assoc] at h
 obtain ⟨g1,g2,g3,g4⟩:=zge h (by omega)
 obtain ⟨q1,q2,q3⟩:=g4
 have hl:=congrArg List.length q3
 simp only [List.length_drop,List.length_append] at hl
 refine ⟨?_,hp⟩
 rw [zx4 g1 (by omega),q3,g2,g3]
 simp [piece]
 omega
theorem zh3{s:List UInt8}:∀(ts acc:List (List UInt8)) (a:Int) (r:List UInt8),(∀t∈ts,t.length≤1048576)→Pl s a (catM piece ts++r)→readS s ts.length (acc,a)=(acc++ts,a+(catM piece ts).length)∧Pl s (a+(catM piece ts).length) r
 | [],acc,a,r,_,h=>by
  refine ⟨by simp [readS,catM],zdq h⟩
 | t :: ts,acc,a,r,ht,h=>by
  have hp:=zdq h
  have e:catM piece (t :: ts)++r=piece t++(catM piece ts++r):=by simp [catM]
  rw [e] at h
  obtain ⟨g1,g2⟩:=zqs h (ht t List.mem_cons_self)
  obtain ⟨g3,g4⟩:=zh3 ts (acc++[t]) _ r (λx hx=>ht x (List.mem_cons_of_mem _ hx)) g2
  refine ⟨?_,hp⟩
  rw [List.length_cons,readS,if_neg (by rw [g1];have:=g2.1;dsimp only;omega)]
  dsimp only
  rw [g1]
  dsimp only
  rw [g3]
  simp [catM]
  omega
theorem zzc{s:List UInt8}{a:Int}{p:DtCSnap}{r:List UInt8}(hp:SnapP p)(h:Pl s a (showSnap p++r)):snapS s a=(p,a+(showSnap p).length)∧Pl s (a+(showSnap p).length) r:=by
 have hq:=zdq h
 obtain ⟨h1,h2,h3,h4,-⟩:=zhf hp
 have e:showSnap p++r=catM piece [p.fName,p.fTag]++(varZ p.fChunks.length++(catM piece p.fChunks++r)):=by simp [showSnap,catM]
 rw [e] at h
 obtain ⟨g1,g2⟩:=zh3 [p.fName,p.fTag] [] a _ (by intro t ht;simp at ht;rcases ht with rfl | rfl<;>omega) h
 have g1:readS s 2 ([],a)=([p.fName,p.fTag],a+(catM piece [p.fName,p.fTag]).length):=g1
 obtain ⟨g3,g4,g5,g6⟩:=zge g2 (by omega)
 obtain ⟨g7,g8⟩:=zh3 p.fChunks [] _ r (λt ht=>by rw [h4 t ht];omega) g6
 refine ⟨?_,hq⟩
 unfold snapS
 rw [g1]
 dsimp only
 rw [g4,Int.toNat_natCast,g7]
 have:=g8.1
 rw [if_neg (by rintro (g | g | g);exact g3 g;omega;dsimp only at g;omega),g5]
 simp [showSnap,catM]
 omega
end Go.Proofs.Ytchpfloemfoomaa.Vs
end
section
namespace Go.Proofs.Ytchpfloemfoomaa.Vs
set_option linter.all false
set_option maxRecDepth 100000
theorem zmw{s:List UInt8}:∀(ts acc:List DtCSnap) (a:Int) (r:List UInt8),(∀t∈ts,SnapP t)→Pl s a (catM showSnap ts++r)→snsS s ts.length (acc,a)=(acc++ts,a+(catM showSnap ts).length)∧Pl s (a+(catM showSnap ts).length) r
 | [],acc,a,r,_,h=>⟨by simp [snsS,catM],zdq h⟩
 | t :: ts,acc,a,r,ht,h=>by
  have hp:=zdq h
  have e:catM showSnap (t :: ts)++r=showSnap t++(catM showSnap ts++r):=by simp [catM]
  rw [e] at h
  obtain ⟨g1,g2⟩:=zzc (ht t List.mem_cons_self) h
  obtain ⟨g3,g4⟩:=zmw ts (acc++[t]) _ r (λx hx=>ht x (List.mem_cons_of_mem _ hx)) g2
  refine ⟨?_,hp⟩
  rw [List.length_cons,snsS,if_neg (by rw [g1];have:=g2.1;dsimp only;omega)]
  dsimp only
  rw [g1]
  dsimp only
  rw [g3]
  simp [catM]
  omega
theorem set_show{s:List UInt8}{a:Int}{p:DtCSet}{r:List UInt8}(hp:SetP p)(h:Pl s a (showSet p++r)):setS s a=(p,a+(showSet p).length)∧Pl s (a+(showSet p).length) r:=by
 have hq:=zdq h
 obtain ⟨h1,h2,h3,-⟩:=zjw hp
 have e:showSet p++r=catM piece [p.fName]++(varZ p.fSnaps.length++(catM showSnap p.fSnaps++r)):=by simp [showSet,catM]
 rw [e] at h
 obtain ⟨g1,g2⟩:=zh3 [p.fName] [] a _ (by intro t ht;simp at ht;subst ht;omega) h
 have g1:readS s 1 ([],a)=([p.fName],a+(catM piece [p.fName]).length):=g1
 obtain ⟨g3,g4,g5,g6⟩:=zge g2 (by omega)
 obtain ⟨g7,g8⟩:=zmw p.fSnaps [] _ r h3 g6
 refine ⟨?_,hq⟩
 unfold setS
 rw [g1]
 dsimp only
 rw [g4,Int.toNat_natCast,g7]
 have:=g8.1
 rw [if_neg (by rintro (g | g | g);exact g3 g;omega;dsimp only at g;omega),g5]
 simp [showSet,catM]
 omega
theorem zqt{s:List UInt8}:∀(ts acc:List DtCSet) (a:Int) (r:List UInt8),(∀t∈ts,SetP t)→Pl s a (catM showSet ts++r)→setsS s ts.length (acc,a)=(acc++ts,a+(catM showSet ts).length)∧Pl s (a+(catM showSet ts).length) r
 | [],acc,a,r,_,h=>⟨by simp [setsS,catM],zdq h⟩
 | t :: ts,acc,a,r,ht,h=>by
  have hp:=zdq h
  have e:catM showSet (t :: ts)++r=showSet t++(catM showSet ts++r):=by simp [catM]
  rw [e] at h
  obtain ⟨g1,g2⟩:=set_show (ht t List.mem_cons_self) h
  obtain ⟨g3,g4⟩:=zqt ts (acc++[t]) _ r (λx hx=>ht x (List.mem_cons_of_mem _ hx)) g2
  refine ⟨?_,hp⟩
  rw [List.length_cons,setsS,if_neg (by rw [g1];have:=g2.1;dsimp only;omega)]
  dsimp only
  rw [g1]
  dsimp only
  rw [g3]
  simp [catM]
  omega
theorem zzd{s:List UInt8}{a:Int}{p:DtSaid}{r:List UInt8}(hp:SaidB p)(h:Pl s a (showSaid p++r)):saidS s a=(p,a+(showSaid p).length)∧Pl s (a+(showSaid p).length) r:=by
 have hq:=zdq h
 obtain ⟨h1,h2,h3,h4,h5⟩:=hp
 have e:showSaid p++r=varZ p.fClient++(varZ p.fNo++(piece p.fText++r)):=by simp [showSaid]
 rw [e] at h
 obtain ⟨a1,a2,a3,a4⟩:=zge h (by omega)
 obtain ⟨b1,b2,b3,b4⟩:=zge a4 (by omega)
 obtain ⟨c1,c2⟩:=zqs b4 h5
 have hv:varL s 2 ([],a)=([p.fClient,p.fNo],e1 s (e1 s a)):=by
  show varL s (1+1) ([],a)=_
  rw [varL,if_neg a1]
  show varL s 1 ([]++[v1 s a],e1 s a)=_
  rw [varL,if_neg b1,a2]
  show varL s 0 ([]++[p.fClient]++[v1 s (e1 s a)],e1 s (e1 s a))=_
  rw [varL,b2]
  rfl
 refine ⟨?_,hq⟩
 unfold saidS
 rw [hv]
 dsimp only
 rw [c1,b3,a3]
 simp [showSaid]
 omega
theorem zmx{s:List UInt8}:∀(ts acc:List DtSaid) (a:Int) (r:List UInt8),(∀t∈ts,SaidB t)→Pl s a (catM showSaid ts++r)→saidsS s ts.length (acc,a)=(acc++ts,a+(catM showSaid ts).length)∧Pl s (a+(catM showSaid ts).length) r
 | [],acc,a,r,_,h=>⟨by simp [saidsS,catM],zdq h⟩
 | t :: ts,acc,a,r,ht,h=>by
  have hp:=zdq h
  have e:catM showSaid (t :: ts)++r=showSaid t++(catM showSaid ts++r):=by simp [catM]
  rw [e] at h
  obtain ⟨g1,g2⟩:=zzd (ht t List.mem_cons_self) h
  obtain ⟨g3,g4⟩:=zmx ts (acc++[t]) _ r (λx hx=>ht x (List.mem_cons_of_mem _ hx)) g2
  refine ⟨?_,hp⟩
  rw [List.length_cons,saidsS,if_neg (by rw [g1];have:=g2.1;dsimp only;omega)]
  dsimp only
  rw [g1]
  dsimp only
  rw [g3]
  simp [catM]
  omega
theorem RSS_show{X:DtState}(h:StateP X)(hl:(showSt X).length≤1048576):RSS (showSt X)=(X,true):=by
 obtain ⟨h1,h2⟩:=sets_P h
 have h3:=zte h
 have h4:=said_B h hl
 have p0:Pl (showSt X) 0 (varZ X.fCat.fSets.length++(catM showSet X.fCat.fSets++(varZ X.fSaid.length++catM showSaid X.fSaid))):=⟨by omega,by omega,rfl⟩
 obtain ⟨a1,a2,a3,a4⟩:=zge p0 (by omega)
 obtain ⟨b1,b2⟩:=zqt X.fCat.fSets [] _ _ h2 a4
 obtain ⟨c1,c2,c3,c4⟩:=zge b2 (by omega)
 rw [←List.append_nil (catM showSaid X.fSaid)] at c4
 obtain ⟨d1,d2⟩:=zmx X.fSaid [] _ [] h4 c4
 have hA:aS (showSt X)=(X.fCat.fSets,e1 (showSt X) 0+(catM showSet X.fCat.fSets).length):=by
  unfold aS
  rw [a2,Int.toNat_natCast,b1]
  rfl
 have hB:bS (showSt X)=(X.fSaid,e1 (showSt X) (e1 (showSt X) 0+(catM showSet X.fCat.fSets).length)+(catM showSaid X.fSaid).length):=by
  unfold bS
  rw [hA]
  dsimp only
  rw [c2,Int.toNat_natCast,d1]
  rfl
 have hd:=d2.1
 have hb:=b2.1
 rw [rss_t,hA,hB]
 unfold fS
 rw [hA,hB]
 rintro (g | g | g | g | g | g | g)
 ·exact a1 g
 ·omega
 ·dsimp only at g;omega
 ·exact c1 g
 ·dsimp only at g;omega
 ·dsimp only at g;omega
 ·exact g (zhh h)
/-- Both answer alike. -/
theorem rs_eq(s:List UInt8)(hs:s.length≤1048576):RSS s=RSI s:=by
 have key:∀X:DtState,showState X=s→¬s=[]→StateP X∧showSt X=s:=by
  intro X h1 h2
  by_cases hX:StateP X
  ·rw [zhh hX] at h1;exact ⟨hX,h1⟩
  ·unfold showState at h1;rw [zcx hX] at h1;exact absurd h1.symm h2
 by_cases h:fS s
 ·rw [znz h]
  by_cases g:(readI s).2.2=true∨s=[]∨¬showState (readI s).1=s
  ·rw [rsi_f g]
  ·have g1:¬s=[]:=λe=>g (.inr (.inl e))
   have g2:showState (readI s).1=s:=by by_cases e:showState (readI s).1=s;exact e;exact absurd (.inr (.inr e)) g
   obtain ⟨k1,k2⟩:=key _ g2 g1
   have:=RSS_show k1 (by rw [k2];exact hs)
   rw [k2,znz h] at this
   cases congrArg Prod.snd this
 ·have g1 : ¬ s = [] := by
   intro e
   refine h (.inl ?_)
   by_cases hb:bdV s 0=true
   ·exact hb
   ·have:=zfv hb;subst e;simp at this;omega
  have g2:showState ⟨⟨(aS s).1⟩,(bS s).1⟩=s:=by
   by_cases e:showState ⟨⟨(aS s).1⟩,(bS s).1⟩=s
   ·exact e
   ·exact absurd (.inr (.inr (.inr (.inr (.inr (.inr e)))))) h
  obtain ⟨k1,k2⟩:=key _ g2 g1
  have:=RSI_show k1 (by rw [k2];exact hs)
  rw [k2] at this
  rw [rss_t h,this]
end Go.Proofs.Ytchpfloemfoomaa.Vs
end
