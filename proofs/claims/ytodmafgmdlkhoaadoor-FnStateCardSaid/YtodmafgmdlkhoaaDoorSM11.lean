import Derived.Test.YtodmafgmdlkhoaaDoorSM10
import Derived.Test.YtodmafgmdlkhoaaDoorSM8
section
namespace Go.Proofs.YtodmafgmdlkhoaaDoor.Vs
set_option linter.all false
set_option maxRecDepth 100000
set_option maxHeartbeats 2000000
def zG37:=And.intro @zcj (And.intro @gE (And.intro @tP (And.intro @zb3 (And.intro @and_assoc (And.intro @List.range_succ (And.intro @zbv (And.intro @zbk (And.intro @zbl (And.intro @zbs @zb0)))))))))
def zG38:=And.intro @zbk @zbl
def zG39:=And.intro @zbr (And.intro @zbz @zce)
theorem zs1(s:List UInt8)(hs:s.length≤1048576)(hb:bdV s 0=true):XCall Tryd.prog 9 [.s s] [] (.tup [.agg [.arr 16 0 (RSS s).1.fCat.fSets.length,.arr 17 0 (RSS s).1.fSaid.length],(.g (.bool ((RSS s).2)))]) [] [.own 2 ((RSS s).1.fCat.fSets.map DtCSet.cells),.own 3 ((RSS s).1.fSaid.map DtSaid.cells)]:=by
 have hv:=zgu s 0 1 hs (by omega)
 have hw:=hv
 rw [zm5 hb] at hv
 rw [zqw (.inl hb)]
 refine zbq Tryd.func9 (by rfl) (by rfl) (by rw [Tryd.ntmps9];exact Nat.le_of_ble_eq_true rfl) rfl (by simp) rfl rfl ?_
 rw [Tryd.ntmps9]
 refine zdk   ?_
 refine AW_k [(0,_)] ⟨rfl,trivial⟩ ?_
 refine AW_x rfl rfl λK hK=>?_
 simp (disch:=omega) [zG37,cI,cS,DtState.cells,DtCatalog.cells,DtCSet.cells,DtSaid.cells,-aAppZ]
 refine hK _ ?_;clear hK K
 refine AW_x rfl rfl λK hK=>?_
 simp (disch:=omega) [zG37,cI,cS,DtState.cells,DtCatalog.cells,DtCSet.cells,DtSaid.cells,-aAppZ]
 refine hK _ ?_;clear hK K
 refine AW_x rfl rfl λK hK=>?_
 simp (disch:=omega) [zG37,cI,cS,DtState.cells,DtCatalog.cells,DtCSet.cells,DtSaid.cells,-aAppZ]
 repeat' first|(refine zch [] false [] (hv) ?_ ?_ ?_;(focus (simp [List.range_succ,nmC];done));(focus (simp (disch:=omega) [zG37,cI,cS,DtState.cells,DtCatalog.cells,DtCSet.cells,DtSaid.cells,-aAppZ];done));simp (disch:=omega) [zG37,cI,cS,DtState.cells,DtCatalog.cells,DtCSet.cells,DtSaid.cells,-aAppZ]) | fail
 refine hK _ ?_;clear hK K
 refine zbe ?_
 refine AW_x rfl rfl λK hK=>?_
 simp (disch:=omega) [zG37,cI,cS,DtState.cells,DtCatalog.cells,DtCSet.cells,DtSaid.cells,-aAppZ]
 refine hK _ ?_;clear hK K
 refine zbg rfl (λhc1=>?_) (λhc1=>?_)
 ·try simp [zG38,zbc,zba] at hc1
  refine AW_x rfl rfl λK hK=>?_
  simp (disch:=omega) [zG37,cI,cS,DtState.cells,DtCatalog.cells,DtCSet.cells,DtSaid.cells,-aAppZ]
  refine hK _ ?_;clear hK K
  refine zbo (zb7 [1000,1001] [(1000,2),(1001,3)] (by simp [zG39,List.range_succ]) (by simp) ?_)
  simp (disch:=omega) [zG37,cI,cS,DtState.cells,DtCatalog.cells,DtCSet.cells,DtSaid.cells,-aAppZ]
 ·try simp [zG38,zbc,zba] at hc1
theorem zs3(s:List UInt8)(hs:s.length≤1048576)(hb:¬bdV s 0=true)(h5:5<v1 s 0):XCall Tryd.prog 9 [.s s] [] (.tup [.agg [.arr 16 0 (RSS s).1.fCat.fSets.length,.arr 17 0 (RSS s).1.fSaid.length],(.g (.bool ((RSS s).2)))]) [] [.own 2 ((RSS s).1.fCat.fSets.map DtCSet.cells),.own 3 ((RSS s).1.fSaid.map DtSaid.cells)]:=by
 have hv:=zgu s 0 1 hs (by omega)
 have hw:=hv
 rw [zf3 hb] at hv
 have hbt:=zf4 hb
 rw [zqw (.inr (.inl h5))]
 generalize v1 s 0=v at *
 generalize e1 s 0=e at *
 refine zbq Tryd.func9 (by rfl) (by rfl) (by rw [Tryd.ntmps9];exact Nat.le_of_ble_eq_true rfl) rfl (by simp) rfl rfl ?_
 rw [Tryd.ntmps9]
 refine zdk   ?_
 refine AW_k [(0,_)] ⟨rfl,trivial⟩ ?_
 refine AW_x rfl rfl λK hK=>?_
 simp (disch:=omega) [zG37,cI,cS,DtState.cells,DtCatalog.cells,DtCSet.cells,DtSaid.cells,-aAppZ]
 refine hK _ ?_;clear hK K
 refine AW_x rfl rfl λK hK=>?_
 simp (disch:=omega) [zG37,cI,cS,DtState.cells,DtCatalog.cells,DtCSet.cells,DtSaid.cells,-aAppZ]
 refine hK _ ?_;clear hK K
 refine AW_x rfl rfl λK hK=>?_
 simp (disch:=omega) [zG37,cI,cS,DtState.cells,DtCatalog.cells,DtCSet.cells,DtSaid.cells,-aAppZ]
 repeat' first|(refine zch [] false [] (hv) ?_ ?_ ?_;(focus (simp [List.range_succ,nmC];done));(focus (simp (disch:=omega) [zG37,cI,cS,DtState.cells,DtCatalog.cells,DtCSet.cells,DtSaid.cells,-aAppZ];done));simp (disch:=omega) [zG37,cI,cS,DtState.cells,DtCatalog.cells,DtCSet.cells,DtSaid.cells,-aAppZ]) | fail
 refine hK _ ?_;clear hK K
 refine zbe ?_
 refine AW_x rfl rfl λK hK=>?_
 simp (disch:=omega) [zG37,cI,cS,DtState.cells,DtCatalog.cells,DtCSet.cells,DtSaid.cells,-aAppZ]
 repeat' first|(exfalso;omega)|(refine ⟨λ_=>?_,λ_=>?_⟩) | fail
 refine hK _ ?_;clear hK K
 refine zbg rfl (λhc2=>?_) (λhc2=>?_)
 ·try simp [zG38,zbc,zba] at hc2
  refine AW_x rfl rfl λK hK=>?_
  simp (disch:=omega) [zG37,cI,cS,DtState.cells,DtCatalog.cells,DtCSet.cells,DtSaid.cells,-aAppZ]
  refine hK _ ?_;clear hK K
  refine zbo (zb7 [1000,1001] [(1000,2),(1001,3)] (by simp [zG39,List.range_succ]) (by simp) ?_)
  simp (disch:=omega) [zG37,cI,cS,DtState.cells,DtCatalog.cells,DtCSet.cells,DtSaid.cells,-aAppZ]
 ·try simp [zG38,zbc,zba] at hc2
  refine zbh ?_
  refine zbm ?_
  refine zbe ?_
  refine AW_x rfl rfl λK hK=>?_
  simp (disch:=omega) [zG37,cI,cS,DtState.cells,DtCatalog.cells,DtCSet.cells,DtSaid.cells,-aAppZ]
  repeat' first|(exfalso;omega)
theorem zs4(s:List UInt8)(hs:s.length≤1048576)(hb:¬bdV s 0=true)(h5:¬5<v1 s 0)(hc:bdV s (aS s).2=true):XCall Tryd.prog 9 [.s s] [] (.tup [.agg [.arr 16 0 (RSS s).1.fCat.fSets.length,.arr 17 0 (RSS s).1.fSaid.length],(.g (.bool ((RSS s).2)))]) [] [.own 2 ((RSS s).1.fCat.fSets.map DtCSet.cells),.own 3 ((RSS s).1.fSaid.map DtSaid.cells)]:=by
 rw [zqw (.inr (.inr (.inr (.inl hc))))]
 have hv:=zgu s 0 1 hs (by omega)
 rw [zf3 hb] at hv
 have hbt:=zf4 hb
 obtain ⟨Al,Ab,hAs⟩:∃Al Ab,aS s=(Al,Ab):=⟨_,_,rfl⟩
 have hw:=zgu s Ab 1 hs (by omega)
 have hA:=hAs
 unfold aS at hA
 obtain ⟨K,hK⟩:∃K:Nat,v1 s 0=K:=Int.eq_ofNat_of_zero_le (by omega)
 rw [hK,Int.toNat_natCast] at hA
 rw [hK] at hv hbt
 have h5':¬5<(K:Int):=by rw [←hK];exact h5
 generalize he:e1 s 0=e at *
 rw [hAs] at hc
 rw [zm5 hc] at hw
 refine zbq Tryd.func9 (by rfl) (by rfl) (by rw [Tryd.ntmps9];exact Nat.le_of_ble_eq_true rfl) rfl (by simp) rfl rfl ?_
 rw [Tryd.ntmps9]
 refine zdk   ?_
 refine AW_k [(0,_)] ⟨rfl,trivial⟩ ?_
 refine AW_x rfl rfl λK hK=>?_
 simp (disch:=omega) [zG37,cI,cS,DtState.cells,DtCatalog.cells,DtCSet.cells,DtSaid.cells,-aAppZ]
 refine hK _ ?_;clear hK K
 refine AW_x rfl rfl λK hK=>?_
 simp (disch:=omega) [zG37,cI,cS,DtState.cells,DtCatalog.cells,DtCSet.cells,DtSaid.cells,-aAppZ]
 refine hK _ ?_;clear hK K
 refine AW_x rfl rfl λK hK=>?_
 simp (disch:=omega) [zG37,cI,cS,DtState.cells,DtCatalog.cells,DtCSet.cells,DtSaid.cells,-aAppZ]
 repeat' first|(refine zch [] false [] (hv) ?_ ?_ ?_;(focus (simp [List.range_succ,nmC];done));(focus (simp (disch:=omega) [zG37,cI,cS,DtState.cells,DtCatalog.cells,DtCSet.cells,DtSaid.cells,-aAppZ];done));simp (disch:=omega) [zG37,cI,cS,DtState.cells,DtCatalog.cells,DtCSet.cells,DtSaid.cells,-aAppZ]) | fail
 refine hK _ ?_;clear hK K
 refine zbe ?_
 refine AW_x rfl rfl λK hK=>?_
 simp (disch:=omega) [zG37,cI,cS,DtState.cells,DtCatalog.cells,DtCSet.cells,DtSaid.cells,-aAppZ]
 repeat' first|(exfalso;omega)|(refine ⟨λ_=>?_,λ_=>?_⟩) | fail
 refine hK _ ?_;clear hK K
 refine zbg rfl (λhc3=>?_) (λhc3=>?_)
 ·try simp [zG38,zbc,zba] at hc3
  refine AW_x rfl rfl λK hK=>?_
  simp (disch:=omega) [zG37,cI,cS,DtState.cells,DtCatalog.cells,DtCSet.cells,DtSaid.cells,-aAppZ]
  repeat' first|(exfalso;omega)
 ·try simp [zG38,zbc,zba] at hc3
  refine zbh ?_
  refine zbm ?_
  refine zbe ?_
  refine AW_x rfl rfl λK hK=>?_
  simp (disch:=omega) [zG37,cI,cS,DtState.cells,DtCatalog.cells,DtCSet.cells,DtSaid.cells,-aAppZ]
  refine hK _ ?_;clear hK K
  refine zbi ?_
  refine zbt (λmM sS=>∃(i:Nat) (l:List DtCSet) (b:Int),mM=K-i∧(i≤K∧l.length=i∧setsS s (K-i) (l,b)=(Al,Ab)∧b≤s.length∧0≤b)∧sS = { env:=lkE [(0,.s s),(2,.ptr 48 0),(4,.ptr 80 0),(5,.arr 304 0 1),(6,(.g (.int .i64 (b)))),(7,(.g (.int .i64 ((i:Nat)))))],ob:=lk [(48,.cells [.g (.slice none 0 0),.g (.slice none 0 0)]),(80,.cells [.arr 500 0 l.length,.g (.slice none 0 0)]),(304,.own 1 [[(.g (.int .i64 ((K:Nat))))]]),(500,.own 2 (l.map DtCSet.cells))] }) ?_ ?_
  ·refine ⟨_,LeS.trans (LeS.znc (cs:=[.g (.slice none 0 0),.g (.slice none 0 0)]) 500 2 80 0 (by simp [zG39,zbj]) (by simp [zG39,zbj,DtCSet.cells]) (by rfl)) (LeS.kx [(48,48),(80,80),(304,304),(500,500)] [(0,.s s),(2,.ptr 48 0),(4,.ptr 80 0),(5,.arr 304 0 1),(6,(.g (.int .i64 ((e))))),(7,(.g (.int .i64 (((0):Nat)))))] [(48,.cells [.g (.slice none 0 0),.g (.slice none 0 0)]),(80,.cells [.arr 500 0 ([]).length,.g (.slice none 0 0)]),(304,.own 1 [[(.g (.int .i64 ((K:Nat))))]]),(500,.own 2 (([]).map DtCSet.cells))] (by simp [zG39,KpR,renV2,renV,zbj,DtCSet.cells]) (by simp [zG39,KpOX,renO,plO,cvO,renV,pl1,DtCSet.cells];try trace_state) (by rfl) (by simp) (by simp) (by rfl) (by simp [formsX,List.range_succ,zbr,zbz])),_,0,[],e,rfl,?_,rfl⟩
   ·exact ⟨by omega,rfl,hA,by omega,by omega⟩
  ·rintro mM sS ⟨i,l,b,rfl,⟨hin,hli,htx,hbl,hb0⟩,rfl⟩
   refine zbe ?_
   refine AW_x rfl rfl λK hK=>?_
   simp (disch:=omega) [zG37,cI,cS,DtState.cells,DtCatalog.cells,DtCSet.cells,DtSaid.cells,-aAppZ]
   refine hK _ ?_;clear hK K
   refine zbg rfl (λhc4=>?_) (λhc4=>?_)
   ·try simp [zG38,zbc,zba] at hc4
    refine zbh ?_
    refine zbm ?_
    refine zbe ?_
    refine zbi ?_
    refine AW_x rfl rfl λK hK=>?_
    simp (disch:=omega) [zG37,cI,cS,DtState.cells,DtCatalog.cells,DtCSet.cells,DtSaid.cells,-aAppZ]
    repeat' first|(refine zch [] false [] (l26Set s b hs hbl) ?_ ?_ ?_;(focus (simp [List.range_succ,nmC];done));(focus (simp (disch:=omega) [zG37,cI,cS,DtState.cells,DtCatalog.cells,DtCSet.cells,DtSaid.cells,-aAppZ];done));simp (disch:=omega) [zG37,cI,cS,DtState.cells,DtCatalog.cells,DtCSet.cells,DtSaid.cells,-aAppZ]) | fail
    refine hK _ ?_;clear hK K
    refine zbe ?_
    refine AW_x rfl rfl λK hK=>?_
    simp (disch:=omega) [zG37,cI,cS,DtState.cells,DtCatalog.cells,DtCSet.cells,DtSaid.cells,-aAppZ]
    refine hK _ ?_;clear hK K
    refine zbg rfl (λhc5=>?_) (λhc5=>?_)
    ·try simp [zG38,zbc,zba] at hc5
     have hz:=zv5 htx (by omega) (by assumption)
     refine AW_x rfl rfl λK hK=>?_
     simp (disch:=omega) [zG37,cI,cS,DtState.cells,DtCatalog.cells,DtCSet.cells,DtSaid.cells,-aAppZ]
     refine hK _ ?_;clear hK K
     refine zbo (zb7 [1000,1001] [(1000,2),(1001,3)] (by simp [zG39,List.range_succ]) (by simp) ?_)
     simp (disch:=omega) [zG37,cI,cS,DtState.cells,DtCatalog.cells,DtCSet.cells,DtSaid.cells,-aAppZ]
    ·try simp [zG38,zbc,zba] at hc5
     refine zbh ?_
     refine zbm ?_
     refine AW_x rfl rfl λK hK=>?_
     simp (disch:=omega) [zG37,cI,cS,DtState.cells,DtCatalog.cells,DtCSet.cells,DtSaid.cells,-aAppZ]
     repeat' first|(refine ⟨by omega,?_⟩) | fail
     refine hK _ ?_;clear hK K
     refine zb4 rfl rfl λK hK=>?_
     simp (disch:=omega) [zG37,cI,cS,DtState.cells,DtCatalog.cells,DtCSet.cells,DtSaid.cells,-aAppZ]
     refine hK _ ?_;clear hK K
     refine zbm ?_
     refine zb4 rfl rfl λK hK=>?_
     simp (disch:=omega) [zG37,cI,cS,DtState.cells,DtCatalog.cells,DtCSet.cells,DtSaid.cells,-aAppZ]
     refine hK _ ?_;clear hK K
     refine ⟨_,LeS.kx [(48,48),(80,80),(304,304),(500,832)] [(0,.s s),(2,.ptr 48 0),(4,.ptr 80 0),(5,.arr 304 0 1),(6,(.g (.int .i64 (((setSJ s b).2))))),(7,(.g (.int .i64 (((i+1):Nat)))))] [(48,.cells [.g (.slice none 0 0),.g (.slice none 0 0)]),(80,.cells [.arr 500 0 (l++[(setSJ s b).1]).length,.g (.slice none 0 0)]),(304,.own 1 [[(.g (.int .i64 ((K:Nat))))]]),(500,.own 2 ((l++[(setSJ s b).1]).map DtCSet.cells))] (by simp [zG39,KpR,renV2,renV,zbj,DtCSet.cells]) (by simp [zG39,KpOX,renO,plO,cvO,renV,pl1,DtCSet.cells];try trace_state) (by rfl) (by simp) (by simp) (by rfl) (by simp [formsX,List.range_succ,zbr,zbz]),_,?_,i+1,l++[(setSJ s b).1],(setSJ s b).2,rfl,?_,rfl⟩
     ·omega
     ·exact ⟨by omega,by simp;omega,zv6 htx (by omega) (by omega),zv4 s b hbl,by omega⟩
   ·try simp [zG38,zbc,zba] at hc4
    have hN:K-i=0:=by omega
    rw [hN,setsS] at htx
    obtain ⟨rfl,rfl⟩:=Prod.mk.inj htx
    refine zbw ?_
    refine zbm ?_
    refine AW_x rfl rfl λK hK=>?_
    simp (disch:=omega) [zG37,cI,cS,DtState.cells,DtCatalog.cells,DtCSet.cells,DtSaid.cells,-aAppZ]
    repeat' first|(refine zch [] false [] (hw) ?_ ?_ ?_;(focus (simp [List.range_succ,nmC];done));(focus (simp (disch:=omega) [zG37,cI,cS,DtState.cells,DtCatalog.cells,DtCSet.cells,DtSaid.cells,-aAppZ];done));simp (disch:=omega) [zG37,cI,cS,DtState.cells,DtCatalog.cells,DtCSet.cells,DtSaid.cells,-aAppZ]) | fail
    refine hK _ ?_;clear hK K
    refine zbe ?_
    refine AW_x rfl rfl λK hK=>?_
    simp (disch:=omega) [zG37,cI,cS,DtState.cells,DtCatalog.cells,DtCSet.cells,DtSaid.cells,-aAppZ]
    refine hK _ ?_;clear hK K
    refine zbg rfl (λhc6=>?_) (λhc6=>?_)
    ·try simp [zG38,zbc,zba] at hc6
     refine AW_x rfl rfl λK hK=>?_
     simp (disch:=omega) [zG37,cI,cS,DtState.cells,DtCatalog.cells,DtCSet.cells,DtSaid.cells,-aAppZ]
     refine hK _ ?_;clear hK K
     refine zbo (zb7 [1000,1001] [(1000,2),(1001,3)] (by simp [zG39,List.range_succ]) (by simp) ?_)
     simp (disch:=omega) [zG37,cI,cS,DtState.cells,DtCatalog.cells,DtCSet.cells,DtSaid.cells,-aAppZ]
    ·try simp [zG38,zbc,zba] at hc6
theorem zs5(s:List UInt8)(hs:s.length≤1048576)(hb:¬bdV s 0=true)(h5:¬5<v1 s 0)(hc:¬bdV s (aS s).2=true)(h9:9<v1 s (aS s).2):XCall Tryd.prog 9 [.s s] [] (.tup [.agg [.arr 16 0 (RSS s).1.fCat.fSets.length,.arr 17 0 (RSS s).1.fSaid.length],(.g (.bool ((RSS s).2)))]) [] [.own 2 ((RSS s).1.fCat.fSets.map DtCSet.cells),.own 3 ((RSS s).1.fSaid.map DtSaid.cells)]:=by
 rw [zqw (.inr (.inr (.inr (.inr (.inl h9)))))]
 have hv:=zgu s 0 1 hs (by omega)
 rw [zf3 hb] at hv
 have hbt:=zf4 hb
 obtain ⟨Al,Ab,hAs⟩:∃Al Ab,aS s=(Al,Ab):=⟨_,_,rfl⟩
 have hw:=zgu s Ab 1 hs (by omega)
 have hA:=hAs
 unfold aS at hA
 obtain ⟨K,hK⟩:∃K:Nat,v1 s 0=K:=Int.eq_ofNat_of_zero_le (by omega)
 rw [hK,Int.toNat_natCast] at hA
 rw [hK] at hv hbt
 have h5':¬5<(K:Int):=by rw [←hK];exact h5
 generalize he:e1 s 0=e at *
 rw [hAs] at hc h9
 rw [zf3 hc] at hw
 have hct:=zf4 hc
 dsimp only at h9
 generalize hv2:v1 s Ab=v2 at *
 generalize he2:e1 s Ab=e2 at *
 refine zbq Tryd.func9 (by rfl) (by rfl) (by rw [Tryd.ntmps9];exact Nat.le_of_ble_eq_true rfl) rfl (by simp) rfl rfl ?_
 rw [Tryd.ntmps9]
 refine zdk   ?_
 refine AW_k [(0,_)] ⟨rfl,trivial⟩ ?_
 refine AW_x rfl rfl λK hK=>?_
 simp (disch:=omega) [zG37,cI,cS,DtState.cells,DtCatalog.cells,DtCSet.cells,DtSaid.cells,-aAppZ]
 refine hK _ ?_;clear hK K
 refine AW_x rfl rfl λK hK=>?_
 simp (disch:=omega) [zG37,cI,cS,DtState.cells,DtCatalog.cells,DtCSet.cells,DtSaid.cells,-aAppZ]
 refine hK _ ?_;clear hK K
 refine AW_x rfl rfl λK hK=>?_
 simp (disch:=omega) [zG37,cI,cS,DtState.cells,DtCatalog.cells,DtCSet.cells,DtSaid.cells,-aAppZ]
 repeat' first|(refine zch [] false [] (hv) ?_ ?_ ?_;(focus (simp [List.range_succ,nmC];done));(focus (simp (disch:=omega) [zG37,cI,cS,DtState.cells,DtCatalog.cells,DtCSet.cells,DtSaid.cells,-aAppZ];done));simp (disch:=omega) [zG37,cI,cS,DtState.cells,DtCatalog.cells,DtCSet.cells,DtSaid.cells,-aAppZ]) | fail
 refine hK _ ?_;clear hK K
 refine zbe ?_
 refine AW_x rfl rfl λK hK=>?_
 simp (disch:=omega) [zG37,cI,cS,DtState.cells,DtCatalog.cells,DtCSet.cells,DtSaid.cells,-aAppZ]
 repeat' first|(exfalso;omega)|(refine ⟨λ_=>?_,λ_=>?_⟩) | fail
 refine hK _ ?_;clear hK K
 refine zbg rfl (λhc7=>?_) (λhc7=>?_)
 ·try simp [zG38,zbc,zba] at hc7
  refine AW_x rfl rfl λK hK=>?_
  simp (disch:=omega) [zG37,cI,cS,DtState.cells,DtCatalog.cells,DtCSet.cells,DtSaid.cells,-aAppZ]
  repeat' first|(exfalso;omega)
 ·try simp [zG38,zbc,zba] at hc7
  refine zbh ?_
  refine zbm ?_
  refine zbe ?_
  refine AW_x rfl rfl λK hK=>?_
  simp (disch:=omega) [zG37,cI,cS,DtState.cells,DtCatalog.cells,DtCSet.cells,DtSaid.cells,-aAppZ]
  refine hK _ ?_;clear hK K
  refine zbi ?_
  refine zbt (λmM sS=>∃(i:Nat) (l:List DtCSet) (b:Int),mM=K-i∧(i≤K∧l.length=i∧setsS s (K-i) (l,b)=(Al,Ab)∧b≤s.length∧0≤b)∧sS = { env:=lkE [(0,.s s),(2,.ptr 48 0),(4,.ptr 80 0),(5,.arr 304 0 1),(6,(.g (.int .i64 (b)))),(7,(.g (.int .i64 ((i:Nat)))))],ob:=lk [(48,.cells [.g (.slice none 0 0),.g (.slice none 0 0)]),(80,.cells [.arr 500 0 l.length,.g (.slice none 0 0)]),(304,.own 1 [[(.g (.int .i64 ((K:Nat))))]]),(500,.own 2 (l.map DtCSet.cells))] }) ?_ ?_
  ·refine ⟨_,LeS.trans (LeS.znc (cs:=[.g (.slice none 0 0),.g (.slice none 0 0)]) 500 2 80 0 (by simp [zG39,zbj]) (by simp [zG39,zbj,DtCSet.cells]) (by rfl)) (LeS.kx [(48,48),(80,80),(304,304),(500,500)] [(0,.s s),(2,.ptr 48 0),(4,.ptr 80 0),(5,.arr 304 0 1),(6,(.g (.int .i64 ((e))))),(7,(.g (.int .i64 (((0):Nat)))))] [(48,.cells [.g (.slice none 0 0),.g (.slice none 0 0)]),(80,.cells [.arr 500 0 ([]).length,.g (.slice none 0 0)]),(304,.own 1 [[(.g (.int .i64 ((K:Nat))))]]),(500,.own 2 (([]).map DtCSet.cells))] (by simp [zG39,KpR,renV2,renV,zbj,DtCSet.cells]) (by simp [zG39,KpOX,renO,plO,cvO,renV,pl1,DtCSet.cells];try trace_state) (by rfl) (by simp) (by simp) (by rfl) (by simp [formsX,List.range_succ,zbr,zbz])),_,0,[],e,rfl,?_,rfl⟩
   ·exact ⟨by omega,rfl,hA,by omega,by omega⟩
  ·rintro mM sS ⟨i,l,b,rfl,⟨hin,hli,htx,hbl,hb0⟩,rfl⟩
   refine zbe ?_
   refine AW_x rfl rfl λK hK=>?_
   simp (disch:=omega) [zG37,cI,cS,DtState.cells,DtCatalog.cells,DtCSet.cells,DtSaid.cells,-aAppZ]
   refine hK _ ?_;clear hK K
   refine zbg rfl (λhc8=>?_) (λhc8=>?_)
   ·try simp [zG38,zbc,zba] at hc8
    refine zbh ?_
    refine zbm ?_
    refine zbe ?_
    refine zbi ?_
    refine AW_x rfl rfl λK hK=>?_
    simp (disch:=omega) [zG37,cI,cS,DtState.cells,DtCatalog.cells,DtCSet.cells,DtSaid.cells,-aAppZ]
    repeat' first|(refine zch [] false [] (l26Set s b hs hbl) ?_ ?_ ?_;(focus (simp [List.range_succ,nmC];done));(focus (simp (disch:=omega) [zG37,cI,cS,DtState.cells,DtCatalog.cells,DtCSet.cells,DtSaid.cells,-aAppZ];done));simp (disch:=omega) [zG37,cI,cS,DtState.cells,DtCatalog.cells,DtCSet.cells,DtSaid.cells,-aAppZ]) | fail
    refine hK _ ?_;clear hK K
    refine zbe ?_
    refine AW_x rfl rfl λK hK=>?_
    simp (disch:=omega) [zG37,cI,cS,DtState.cells,DtCatalog.cells,DtCSet.cells,DtSaid.cells,-aAppZ]
    refine hK _ ?_;clear hK K
    refine zbg rfl (λhc9=>?_) (λhc9=>?_)
    ·try simp [zG38,zbc,zba] at hc9
     have hz:=zv5 htx (by omega) (by assumption)
     refine AW_x rfl rfl λK hK=>?_
     simp (disch:=omega) [zG37,cI,cS,DtState.cells,DtCatalog.cells,DtCSet.cells,DtSaid.cells,-aAppZ]
     refine hK _ ?_;clear hK K
     refine zbo (zb7 [1000,1001] [(1000,2),(1001,3)] (by simp [zG39,List.range_succ]) (by simp) ?_)
     simp (disch:=omega) [zG37,cI,cS,DtState.cells,DtCatalog.cells,DtCSet.cells,DtSaid.cells,-aAppZ]
    ·try simp [zG38,zbc,zba] at hc9
     refine zbh ?_
     refine zbm ?_
     refine AW_x rfl rfl λK hK=>?_
     simp (disch:=omega) [zG37,cI,cS,DtState.cells,DtCatalog.cells,DtCSet.cells,DtSaid.cells,-aAppZ]
     repeat' first|(refine ⟨by omega,?_⟩) | fail
     refine hK _ ?_;clear hK K
     refine zb4 rfl rfl λK hK=>?_
     simp (disch:=omega) [zG37,cI,cS,DtState.cells,DtCatalog.cells,DtCSet.cells,DtSaid.cells,-aAppZ]
     refine hK _ ?_;clear hK K
     refine zbm ?_
     refine zb4 rfl rfl λK hK=>?_
     simp (disch:=omega) [zG37,cI,cS,DtState.cells,DtCatalog.cells,DtCSet.cells,DtSaid.cells,-aAppZ]
     refine hK _ ?_;clear hK K
     refine ⟨_,LeS.kx [(48,48),(80,80),(304,304),(500,832)] [(0,.s s),(2,.ptr 48 0),(4,.ptr 80 0),(5,.arr 304 0 1),(6,(.g (.int .i64 (((setSJ s b).2))))),(7,(.g (.int .i64 (((i+1):Nat)))))] [(48,.cells [.g (.slice none 0 0),.g (.slice none 0 0)]),(80,.cells [.arr 500 0 (l++[(setSJ s b).1]).length,.g (.slice none 0 0)]),(304,.own 1 [[(.g (.int .i64 ((K:Nat))))]]),(500,.own 2 ((l++[(setSJ s b).1]).map DtCSet.cells))] (by simp [zG39,KpR,renV2,renV,zbj,DtCSet.cells]) (by simp [zG39,KpOX,renO,plO,cvO,renV,pl1,DtCSet.cells];try trace_state) (by rfl) (by simp) (by simp) (by rfl) (by simp [formsX,List.range_succ,zbr,zbz]),_,?_,i+1,l++[(setSJ s b).1],(setSJ s b).2,rfl,?_,rfl⟩
     ·omega
     ·exact ⟨by omega,by simp;omega,zv6 htx (by omega) (by omega),zv4 s b hbl,by omega⟩
   ·try simp [zG38,zbc,zba] at hc8
    have hN:K-i=0:=by omega
    rw [hN,setsS] at htx
    obtain ⟨rfl,rfl⟩:=Prod.mk.inj htx
    refine zbw ?_
    refine zbm ?_
    refine AW_x rfl rfl λK hK=>?_
    simp (disch:=omega) [zG37,cI,cS,DtState.cells,DtCatalog.cells,DtCSet.cells,DtSaid.cells,-aAppZ]
    repeat' first|(refine zch [] false [] (hw) ?_ ?_ ?_;(focus (simp [List.range_succ,nmC];done));(focus (simp (disch:=omega) [zG37,cI,cS,DtState.cells,DtCatalog.cells,DtCSet.cells,DtSaid.cells,-aAppZ];done));simp (disch:=omega) [zG37,cI,cS,DtState.cells,DtCatalog.cells,DtCSet.cells,DtSaid.cells,-aAppZ]) | fail
    refine hK _ ?_;clear hK K
    refine zbe ?_
    refine AW_x rfl rfl λK hK=>?_
    simp (disch:=omega) [zG37,cI,cS,DtState.cells,DtCatalog.cells,DtCSet.cells,DtSaid.cells,-aAppZ]
    repeat' first|(exfalso;omega)|(refine ⟨λ_=>?_,λ_=>?_⟩) | fail
    refine hK _ ?_;clear hK K
    refine zbg rfl (λhc10=>?_) (λhc10=>?_)
    ·try simp [zG38,zbc,zba] at hc10
     refine AW_x rfl rfl λK hK=>?_
     simp (disch:=omega) [zG37,cI,cS,DtState.cells,DtCatalog.cells,DtCSet.cells,DtSaid.cells,-aAppZ]
     refine hK _ ?_;clear hK K
     refine zbo (zb7 [1000,1001] [(1000,2),(1001,3)] (by simp [zG39,List.range_succ]) (by simp) ?_)
     simp (disch:=omega) [zG37,cI,cS,DtState.cells,DtCatalog.cells,DtCSet.cells,DtSaid.cells,-aAppZ]
    ·try simp [zG38,zbc,zba] at hc10
     refine zbh ?_
     refine zbm ?_
     refine zbe ?_
     refine AW_x rfl rfl λK hK=>?_
     simp (disch:=omega) [zG37,cI,cS,DtState.cells,DtCatalog.cells,DtCSet.cells,DtSaid.cells,-aAppZ]
     repeat' first|(exfalso;omega)
theorem zqy(s:List UInt8)(hs:s.length≤1048576):XCall Tryd.prog 9 [.s s] [] (.tup [.agg [.arr 16 0 (RSS s).1.fCat.fSets.length,.arr 17 0 (RSS s).1.fSaid.length],(.g (.bool ((RSS s).2)))]) [] [.own 2 ((RSS s).1.fCat.fSets.map DtCSet.cells),.own 3 ((RSS s).1.fSaid.map DtSaid.cells)]:=by
 by_cases hb:bdV s 0=true
 ·exact zs1 s hs hb
 ·by_cases h5:5<v1 s 0
  ·exact zs3 s hs hb h5
  ·by_cases hc:bdV s (aS s).2=true
   ·exact zs4 s hs hb h5 hc
   ·by_cases h9:9<v1 s (aS s).2
    ·exact zs5 s hs hb h5 hc h9
    ·exact zs0 s hs hb h5 hc h9
end Go.Proofs.YtodmafgmdlkhoaaDoor.Vs
end
section
namespace Go.Proofs.YtodmafgmdlkhoaaDoor.Vs
set_option linter.all false
set_option maxRecDepth 100000
/-! what is shown is read: the program -/
theorem zjw(n:Int)(h:0≤n∧n≤562949953421311)(r:List UInt8):numI (varZ n++r,false)=(n,(r,false)):=by
 have e:=RV_show n h r
 have hp:1≤(varZ n).length:=by unfold varZ;rw [if_pos h];exact zjt _
 unfold numI
 rw [e]
 rw [if_neg (by rintro (h | h);cases h;dsimp only at h;omega)]
 simp
theorem zgf(t:List UInt8)(h:t.length≤1048576)(r:List UInt8):textI (piece t++r,false)=(t,(r,false)):=by
 unfold textI piece
 rw [List.append_assoc,zjw _ (by omega)]
 unfold cutI
 rw [if_neg (by rintro (h | h | h);cases h;omega;simp only [List.length_append] at h;omega)]
 simp
theorem zhm(m n:Int)(h:0≤n∧n≤562949953421311)(hm:n≤m)(r:List UInt8):manyI m (varZ n++r,false)=(n,(r,false)):=by
 unfold manyI
 rw [zjw n h]
 rw [if_neg (by rintro (h | h);dsimp only at h;omega;cases h)]
theorem zs6:∀(ts acc:List (List UInt8)) (r:List UInt8),(∀t∈ts,t.length≤1048576)→txsI ts.length (acc,(catM piece ts++r,false))=(acc++ts,(r,false))
 | [],acc,r,_=>by simp [txsI,catM]
 | t :: ts,acc,r,h=>by
  rw [List.length_cons,txsI]
  have e:catM piece (t :: ts)++r=piece t++(catM piece ts++r):=by simp [catM]
  rw [e,zgf t (h t List.mem_cons_self),zs6 ts _ r λx hx=>h x (List.mem_cons_of_mem _ hx)]
  simp
theorem snapI_show(p:DtCSnap)(h:SnapP p)(r:List UInt8):snapI (showSnap p++r,false)=(p,(r,false)):=by
 obtain ⟨h1,h2,h3,h4,-⟩:=zh0 h
 have e:showSnap p++r=piece p.fName++(piece p.fTag++(varZ p.fChunks.length++(catM piece p.fChunks++r))):=by simp [showSnap]
 unfold snapI
 rw [e,zgf _ (by omega),zgf _ (by omega),zhm 4 _ (by omega) (by omega)]
 rw [Int.toNat_natCast,zs6 _ _ _ (λt ht=>by rw [h4 t ht];omega)]
 simp
theorem zs7:∀(ts acc:List DtCSnap) (r:List UInt8),(∀t∈ts,SnapP t)→snsI ts.length (acc,(catM showSnap ts++r,false))=(acc++ts,(r,false))
 | [],acc,r,_=>by simp [snsI,catM]
 | t :: ts,acc,r,h=>by
  rw [List.length_cons,snsI]
  have e:catM showSnap (t :: ts)++r=showSnap t++(catM showSnap ts++r):=by simp [catM]
  rw [e,snapI_show t (h t List.mem_cons_self),zs7 ts _ r λx hx=>h x (List.mem_cons_of_mem _ hx)]
  simp
theorem setI_show(p:DtCSet)(h:SetP p)(r:List UInt8):setI (showSet p++r,false)=(p,(r,false)):=by
 obtain ⟨h1,h2,h3,-⟩:=zhs h
 have e:showSet p++r=piece p.fName++(varZ p.fSnaps.length++(catM showSnap p.fSnaps++r)):=by simp [showSet]
 unfold setI
 rw [e,zgf _ (by omega),zhm 5 _ (by omega) (by omega)]
 rw [Int.toNat_natCast,zs7 _ _ _ h3]
 simp
theorem zn7:∀(ts acc:List DtCSet) (r:List UInt8),(∀t∈ts,SetP t)→setsI ts.length (acc,(catM showSet ts++r,false))=(acc++ts,(r,false))
 | [],acc,r,_=>by simp [setsI,catM]
 | t :: ts,acc,r,h=>by
  rw [List.length_cons,setsI]
  have e:catM showSet (t :: ts)++r=showSet t++(catM showSet ts++r):=by simp [catM]
  rw [e,setI_show t (h t List.mem_cons_self),zn7 ts _ r λx hx=>h x (List.mem_cons_of_mem _ hx)]
  simp
end Go.Proofs.YtodmafgmdlkhoaaDoor.Vs
end
section
namespace Go.Proofs.YtodmafgmdlkhoaaDoor.Vs
set_option linter.all false
set_option maxRecDepth 100000
theorem said_asc{s:DtState}(h:StateP s):∀(i:Nat) x,s.fSaid[i]? = some x→(i:Int)+1≤x.fClient:=by
 intro i
 induction i with
 | zero=>intro x hx;have:=(h.2 0 x hx).1;omega
 | succ i ih =>
  intro x hx
  have hi:=(List.getElem?_eq_some_iff.1 hx).1
  have hy:s.fSaid[i]? = some s.fSaid[i]:=List.getElem?_eq_getElem (by omega)
  have h1:=ih _ hy
  have h2:=(h.2 (i+1) x hx).2.2.2.2 s.fSaid[i] (by omega) (by rw [Nat.add_sub_cancel];exact hy)
  omega
theorem zx2{s:DtState}(h:StateP s):s.fSaid.length≤9:=by
 by_cases h0:s.fSaid.length=0
 ·omega
 ·have hl:s.fSaid.length-1<s.fSaid.length:=by omega
  have hx:s.fSaid[s.fSaid.length-1]? = some s.fSaid[s.fSaid.length-1]:=List.getElem?_eq_getElem hl
  have h1:=said_asc h _ _ hx
  have h2:=(h.2 _ _ hx).2.1
  omega
def SaidB(x:DtSaid):Prop:=0≤x.fClient∧x.fClient≤1000∧0≤x.fNo∧x.fNo≤1000∧x.fText.length≤1048576
theorem said_B{s:DtState}(h:StateP s)(hl:(showSt s).length≤1048576):∀x∈s.fSaid,SaidB x:=by
 intro x hx
 obtain ⟨i,hi⟩:=List.getElem?_of_mem hx
 obtain ⟨g1,g2,g3,g4,-⟩:=h.2 i x hi
 refine ⟨by omega,by omega,by omega,by omega,?_⟩
 have h1:(showSaid x).length≤(catM showSaid s.fSaid).length:=by
  unfold catM
  exact (List.sublist_flatten_of_mem (List.mem_map_of_mem hx)).length_le
 have h2:x.fText.length≤(showSaid x).length:=by simp [showSaid,piece];omega
 have h3:(catM showSaid s.fSaid).length≤(showSt s).length:=by simp [showSt];omega
 omega
theorem sets_P{s:DtState}(h:StateP s):s.fCat.fSets.length≤5∧∀x∈s.fCat.fSets,SetP x:=by
 refine ⟨h.1.1,λx hx=>?_⟩
 obtain ⟨i,hi⟩:=List.getElem?_of_mem hx
 exact (h.1.2 i x hi).1
theorem saidI_show(p:DtSaid)(h:SaidB p)(r:List UInt8):saidIJ (showSaid p++r,false)=(p,(r,false)):=by
 obtain ⟨h1,h2,h3,h4,h5⟩:=h
 have e:showSaid p++r=varZ p.fClient++(varZ p.fNo++(piece p.fText++r)):=by simp [showSaid]
 unfold saidIJ
 rw [e,zjw _ (by omega),zjw _ (by omega),zgf _ h5]
theorem zm7:∀(ts acc:List DtSaid) (r:List UInt8),(∀t∈ts,SaidB t)→saidsI ts.length (acc,(catM showSaid ts++r,false))=(acc++ts,(r,false))
 | [],acc,r,_=>by simp [saidsI,catM]
 | t :: ts,acc,r,h=>by
  rw [List.length_cons,saidsI]
  have e:catM showSaid (t :: ts)++r=showSaid t++(catM showSaid ts++r):=by simp [catM]
  rw [e,saidI_show t (h t List.mem_cons_self),zm7 ts _ r λx hx=>h x (List.mem_cons_of_mem _ hx)]
  simp
theorem zgq{s:DtState}(h:StateP s):showState s=showSt s:=by unfold showState;rw [zcl h];rfl
theorem showSt_ne(s:DtState)(h:StateP s):¬showSt s=[]:=by
 intro e
 have h1:=h.1.1
 have h2:1≤(varZ s.fCat.fSets.length).length:=by unfold varZ;rw [if_pos (by omega)];exact zjt _
 unfold showSt at e
 rw [List.append_eq_nil_iff] at e
 rw [e.1] at h2
 simp at h2
theorem zx3{X:DtState}(h:StateP X)(hl:(showSt X).length≤1048576):RSI (showSt X)=(X,true):=by
 obtain ⟨h1,h2⟩:=sets_P h
 have h3:=zx2 h
 have h4:=said_B h hl
 have hA:rsA (showSt X)=(X.fCat.fSets,(varZ X.fSaid.length++catM showSaid X.fSaid,false)):=by
  unfold rsA showSt
  rw [zhm 5 _ (by omega) (by omega),Int.toNat_natCast,zn7 _ _ _ h2]
  simp
 have hB:rsB (varZ X.fSaid.length++catM showSaid X.fSaid,false)=(X.fSaid,([],false)):=by
  unfold rsB
  rw [zhm 9 _ (by omega) (by omega),Int.toNat_natCast]
  have:=zm7 X.fSaid [] [] h4
  rw [List.append_nil] at this
  rw [this]
  simp
 have hR:readI (showSt X)=(X,([],false)):=by
  unfold readI
  rw [hA,hB]
 rw [rsi_t (by rw [hR];simp) (showSt_ne X h) (by rw [hR];exact zgq h),hR]
end Go.Proofs.YtodmafgmdlkhoaaDoor.Vs
end
section
namespace Go.Proofs.YtodmafgmdlkhoaaDoor.Vs
set_option linter.all false
set_option maxRecDepth 100000
/-! what is shown is read: the reference -/
def Pl(s:List UInt8)(a:Int)(r:List UInt8):Prop:=0≤a∧a≤s.length∧s.drop a.toNat=r
theorem zd0{s:List UInt8}{a:Int}{x r:List UInt8}(h:Pl s a (x++r)):Pl s (a+x.length) r:=by
 obtain ⟨h1,h2,h3⟩:=h
 have hl:=congrArg List.length h3
 simp only [List.length_drop,List.length_append] at hl
 refine ⟨by omega,by omega,?_⟩
 have e:(a+x.length).toNat=a.toNat+x.length:=by omega
 rw [e,←List.drop_drop,h3]
 simp
theorem zgr{s:List UInt8}{a n:Int}{r:List UInt8}(h:Pl s a (varZ n++r))(hn:0≤n∧n≤562949953421311):¬bdV s a=true∧v1 s a=n∧e1 s a=a+(varZ n).length∧Pl s (e1 s a) r:=by
 have hp:=zd0 h
 obtain ⟨h1,h2,h3⟩:=h
 have e:=RV_show n hn r
 have hv:1≤(varZ n).length:=by unfold varZ;rw [if_pos hn];exact zjt _
 have hE:e1 s a=a+(varZ n).length:=by unfold e1;rw [h3,e]
 refine ⟨?_,?_,hE,by rw [hE];exact hp⟩
 ·unfold bdV
  rw [decide_eq_true_iff,h3,e]
  rintro (g | g | g)
  ·omega
  ·omega
  ·dsimp only at g;omega
 ·unfold v1;rw [h3,e]
theorem zs8{s:List UInt8}{a:Int}{t r:List UInt8}(h:Pl s a (piece t++r))(ht:t.length≤1048576):takeS s a=(t,a+(piece t).length)∧Pl s (a+(piece t).length) r:=by
 have hp:=zd0 h
 unfold piece at h
 rw [List.append_assoc] at h
 obtain ⟨g1,g2,g3,g4⟩:=zgr h (by omega)
 obtain ⟨q1,q2,q3⟩:=g4
 have hl:=congrArg List.length q3
 simp only [List.length_drop,List.length_append] at hl
 refine ⟨?_,hp⟩
 rw [takeS_t g1 (by omega),q3,g2,g3]
 simp [piece]
 omega
theorem zjx{s:List UInt8}:∀(ts acc:List (List UInt8)) (a:Int) (r:List UInt8),(∀t∈ts,t.length≤1048576)→Pl s a (catM piece ts++r)→readS s ts.length (acc,a)=(acc++ts,a+(catM piece ts).length)∧Pl s (a+(catM piece ts).length) r
 | [],acc,a,r,_,h=>by
  refine ⟨by simp [readS,catM],zd0 h⟩
 | t :: ts,acc,a,r,ht,h=>by
  have hp:=zd0 h
  have e:catM piece (t :: ts)++r=piece t++(catM piece ts++r):=by simp [catM]
  rw [e] at h
  obtain ⟨g1,g2⟩:=zs8 h (ht t List.mem_cons_self)
  obtain ⟨g3,g4⟩:=zjx ts (acc++[t]) _ r (λx hx=>ht x (List.mem_cons_of_mem _ hx)) g2
  refine ⟨?_,hp⟩
  rw [List.length_cons,readS,if_neg (by rw [g1];have:=g2.1;dsimp only;omega)]
  dsimp only
  rw [g1]
  dsimp only
  rw [g3]
  simp [catM]
  omega
theorem snap_show{s:List UInt8}{a:Int}{p:DtCSnap}{r:List UInt8}(hp:SnapP p)(h:Pl s a (showSnap p++r)):snapS s a=(p,a+(showSnap p).length)∧Pl s (a+(showSnap p).length) r:=by
 have hq:=zd0 h
 obtain ⟨h1,h2,h3,h4,-⟩:=zh0 hp
 have e:showSnap p++r=catM piece [p.fName,p.fTag]++(varZ p.fChunks.length++(catM piece p.fChunks++r)):=by simp [showSnap,catM]
 rw [e] at h
 obtain ⟨g1,g2⟩:=zjx [p.fName,p.fTag] [] a _ (by intro t ht;simp at ht;rcases ht with rfl | rfl<;>omega) h
 have g1:readS s 2 ([],a)=([p.fName,p.fTag],a+(catM piece [p.fName,p.fTag]).length):=g1
 obtain ⟨g3,g4,g5,g6⟩:=zgr g2 (by omega)
 obtain ⟨g7,g8⟩:=zjx p.fChunks [] _ r (λt ht=>by rw [h4 t ht];omega) g6
 refine ⟨?_,hq⟩
 unfold snapS
 rw [g1]
 dsimp only
 rw [g4,Int.toNat_natCast,g7]
 have:=g8.1
 rw [if_neg (by rintro (g | g | g);exact g3 g;omega;dsimp only at g;omega),g5]
 simp [showSnap,catM]
 omega
end Go.Proofs.YtodmafgmdlkhoaaDoor.Vs
end
section
namespace Go.Proofs.YtodmafgmdlkhoaaDoor.Vs
set_option linter.all false
set_option maxRecDepth 100000
theorem zn8{s:List UInt8}:∀(ts acc:List DtCSnap) (a:Int) (r:List UInt8),(∀t∈ts,SnapP t)→Pl s a (catM showSnap ts++r)→snsS s ts.length (acc,a)=(acc++ts,a+(catM showSnap ts).length)∧Pl s (a+(catM showSnap ts).length) r
 | [],acc,a,r,_,h=>⟨by simp [snsS,catM],zd0 h⟩
 | t :: ts,acc,a,r,ht,h=>by
  have hp:=zd0 h
  have e:catM showSnap (t :: ts)++r=showSnap t++(catM showSnap ts++r):=by simp [catM]
  rw [e] at h
  obtain ⟨g1,g2⟩:=snap_show (ht t List.mem_cons_self) h
  obtain ⟨g3,g4⟩:=zn8 ts (acc++[t]) _ r (λx hx=>ht x (List.mem_cons_of_mem _ hx)) g2
  refine ⟨?_,hp⟩
  rw [List.length_cons,snsS,if_neg (by rw [g1];have:=g2.1;dsimp only;omega)]
  dsimp only
  rw [g1]
  dsimp only
  rw [g3]
  simp [catM]
  omega
theorem set_show{s:List UInt8}{a:Int}{p:DtCSet}{r:List UInt8}(hp:SetP p)(h:Pl s a (showSet p++r)):setSJ s a=(p,a+(showSet p).length)∧Pl s (a+(showSet p).length) r:=by
 have hq:=zd0 h
 obtain ⟨h1,h2,h3,-⟩:=zhs hp
 have e:showSet p++r=catM piece [p.fName]++(varZ p.fSnaps.length++(catM showSnap p.fSnaps++r)):=by simp [showSet,catM]
 rw [e] at h
 obtain ⟨g1,g2⟩:=zjx [p.fName] [] a _ (by intro t ht;simp at ht;subst ht;omega) h
 have g1:readS s 1 ([],a)=([p.fName],a+(catM piece [p.fName]).length):=g1
 obtain ⟨g3,g4,g5,g6⟩:=zgr g2 (by omega)
 obtain ⟨g7,g8⟩:=zn8 p.fSnaps [] _ r h3 g6
 refine ⟨?_,hq⟩
 unfold setSJ
 rw [g1]
 dsimp only
 rw [g4,Int.toNat_natCast,g7]
 have:=g8.1
 rw [if_neg (by rintro (g | g | g);exact g3 g;omega;dsimp only at g;omega),g5]
 simp [showSet,catM]
 omega
theorem zs9{s:List UInt8}:∀(ts acc:List DtCSet) (a:Int) (r:List UInt8),(∀t∈ts,SetP t)→Pl s a (catM showSet ts++r)→setsS s ts.length (acc,a)=(acc++ts,a+(catM showSet ts).length)∧Pl s (a+(catM showSet ts).length) r
 | [],acc,a,r,_,h=>⟨by simp [setsS,catM],zd0 h⟩
 | t :: ts,acc,a,r,ht,h=>by
  have hp:=zd0 h
  have e:catM showSet (t :: ts)++r=showSet t++(catM showSet ts++r):=by simp [catM]
  rw [e] at h
  obtain ⟨g1,g2⟩:=set_show (ht t List.mem_cons_self) h
  obtain ⟨g3,g4⟩:=zs9 ts (acc++[t]) _ r (λx hx=>ht x (List.mem_cons_of_mem _ hx)) g2
  refine ⟨?_,hp⟩
  rw [List.length_cons,setsS,if_neg (by rw [g1];have:=g2.1;dsimp only;omega)]
  dsimp only
  rw [g1]
  dsimp only
  rw [g3]
  simp [catM]
  omega
theorem said_show{s:List UInt8}{a:Int}{p:DtSaid}{r:List UInt8}(hp:SaidB p)(h:Pl s a (showSaid p++r)):saidS s a=(p,a+(showSaid p).length)∧Pl s (a+(showSaid p).length) r:=by
 have hq:=zd0 h
 obtain ⟨h1,h2,h3,h4,h5⟩:=hp
 have e:showSaid p++r=varZ p.fClient++(varZ p.fNo++(piece p.fText++r)):=by simp [showSaid]
 rw [e] at h
 obtain ⟨a1,a2,a3,a4⟩:=zgr h (by omega)
 obtain ⟨b1,b2,b3,b4⟩:=zgr a4 (by omega)
 obtain ⟨c1,c2⟩:=zs8 b4 h5
 have hv:varL s 2 ([],a)=([p.fClient,p.fNo],e1 s (e1 s a)):=by
  show varL s (1+1) ([],a)=_
  rw [varL,if_neg a1]
  show varL s 1 ([]++[v1 s a],e1 s a)=_
  rw [varL,if_neg b1,a2]
  show varL s 0 ([]++[p.fClient]++[v1 s (e1 s a)],e1 s (e1 s a))=_
  rw [varL,b2]
  rfl
 refine ⟨?_,hq⟩
 unfold saidS
 rw [hv]
 dsimp only
 rw [c1,b3,a3]
 simp [showSaid]
 omega
theorem zn9{s:List UInt8}:∀(ts acc:List DtSaid) (a:Int) (r:List UInt8),(∀t∈ts,SaidB t)→Pl s a (catM showSaid ts++r)→saidsS s ts.length (acc,a)=(acc++ts,a+(catM showSaid ts).length)∧Pl s (a+(catM showSaid ts).length) r
 | [],acc,a,r,_,h=>⟨by simp [saidsS,catM],zd0 h⟩
 | t :: ts,acc,a,r,ht,h=>by
  have hp:=zd0 h
  have e:catM showSaid (t :: ts)++r=showSaid t++(catM showSaid ts++r):=by simp [catM]
  rw [e] at h
  obtain ⟨g1,g2⟩:=said_show (ht t List.mem_cons_self) h
  obtain ⟨g3,g4⟩:=zn9 ts (acc++[t]) _ r (λx hx=>ht x (List.mem_cons_of_mem _ hx)) g2
  refine ⟨?_,hp⟩
  rw [List.length_cons,saidsS,if_neg (by rw [g1];have:=g2.1;dsimp only;omega)]
  dsimp only
  rw [g1]
  dsimp only
  rw [g3]
  simp [catM]
  omega
theorem RSS_show{X:DtState}(h:StateP X)(hl:(showSt X).length≤1048576):RSS (showSt X)=(X,true):=by
 obtain ⟨h1,h2⟩:=sets_P h
 have h3:=zx2 h
 have h4:=said_B h hl
 have p0:Pl (showSt X) 0 (varZ X.fCat.fSets.length++(catM showSet X.fCat.fSets++(varZ X.fSaid.length++catM showSaid X.fSaid))):=⟨by omega,by omega,rfl⟩
 obtain ⟨a1,a2,a3,a4⟩:=zgr p0 (by omega)
 obtain ⟨b1,b2⟩:=zs9 X.fCat.fSets [] _ _ h2 a4
 obtain ⟨c1,c2,c3,c4⟩:=zgr b2 (by omega)
 rw [←List.append_nil (catM showSaid X.fSaid)] at c4
 obtain ⟨d1,d2⟩:=zn9 X.fSaid [] _ [] h4 c4
 have hA:aS (showSt X)=(X.fCat.fSets,e1 (showSt X) 0+(catM showSet X.fCat.fSets).length):=by
  unfold aS
  rw [a2,Int.toNat_natCast,b1]
  rfl
 have hB:bS (showSt X)=(X.fSaid,e1 (showSt X) (e1 (showSt X) 0+(catM showSet X.fCat.fSets).length)+(catM showSaid X.fSaid).length):=by
  unfold bS
  rw [hA]
  dsimp only
  rw [c2,Int.toNat_natCast,d1]
  rfl
 have hd:=d2.1
 have hb:=b2.1
 rw [rss_t,hA,hB]
 unfold fS
 rw [hA,hB]
 rintro (g | g | g | g | g | g | g)
 ·exact a1 g
 ·omega
 ·dsimp only at g;omega
 ·exact c1 g
 ·dsimp only at g;omega
 ·dsimp only at g;omega
 ·exact g (zgq h)
/-- Both answer alike. -/
theorem rs_eq(s:List UInt8)(hs:s.length≤1048576):RSS s=RSI s:=by
 have key:∀X:DtState,showState X=s→¬s=[]→StateP X∧showSt X=s:=by
  intro X h1 h2
  by_cases hX:StateP X
  ·rw [zgq hX] at h1;exact ⟨hX,h1⟩
  ·unfold showState at h1;rw [zgb hX] at h1;exact absurd h1.symm h2
 by_cases h:fS s
 ·rw [zqw h]
  by_cases g:(readI s).2.2=true∨s=[]∨¬showState (readI s).1=s
  ·rw [rsi_f g]
  ·have g1:¬s=[]:=λe=>g (.inr (.inl e))
   have g2:showState (readI s).1=s:=by by_cases e:showState (readI s).1=s;exact e;exact absurd (.inr (.inr e)) g
   obtain ⟨k1,k2⟩:=key _ g2 g1
   have:=RSS_show k1 (by rw [k2];exact hs)
   rw [k2,zqw h] at this
   cases congrArg Prod.snd this
 ·have g1 : ¬ s = [] := by
   intro e
   refine h (.inl ?_)
   by_cases hb:bdV s 0=true
   ·exact hb
   ·have:=zf4 hb;subst e;simp at this;omega
  have g2:showState ⟨⟨(aS s).1⟩,(bS s).1⟩=s:=by
   by_cases e:showState ⟨⟨(aS s).1⟩,(bS s).1⟩=s
   ·exact e
   ·exact absurd (.inr (.inr (.inr (.inr (.inr (.inr e)))))) h
  obtain ⟨k1,k2⟩:=key _ g2 g1
  have:=zx3 k1 (by rw [k2];exact hs)
  rw [k2] at this
  rw [rss_t h,this]
end Go.Proofs.YtodmafgmdlkhoaaDoor.Vs
end
section
namespace Go.Proofs.YtodmafgmdlkhoaaDoor.Vs
set_option linter.all false
set_option maxRecDepth 100000
set_option maxHeartbeats 4000000
theorem RSI_sz(s:List UInt8):DtState.sz (RSI s).1≤s.length:=by
 unfold RSI
 split
 ·simp [DtState.sz,DtCatalog.sz,szS,zcr]
 ·rename_i h
  exact zxw (by by_cases g:(readI s).2.2=true;exact absurd (.inl g) h;simpa using g)
theorem zta{s:List UInt8}{Y:DtState}{b:Bool}(e:RSI s=(Y,b))(h:b=true):showState Y=s:=by
 by_cases g:(readI s).2.2=true∨s=[]∨¬showState (readI s).1=s
 ·rw [rsi_f g] at e
  subst h
  cases congrArg Prod.snd e
 ·have g1:¬(readI s).2.2=true:=λa=>g (.inl a)
  have g2:¬s=[]:=λa=>g (.inr (.inl a))
  have g3:showState (readI s).1=s:=by by_cases a:showState (readI s).1=s;exact a;exact absurd (.inr (.inr a)) g
  rw [rsi_t (by simpa using g1) g2 g3] at e
  have e1:(readI s).1=Y:=congrArg Prod.fst e
  rw [←e1];exact g3
theorem rsi_shown{s:DtState}(hl:(showState s).length≤1048576):(RSI (showState s)).2=decB (StateP s):=by
 by_cases hP:StateP s
 ·rw [zcl hP]
  rw [zgq hP] at hl ⊢
  rw [zx3 hP hl]
 ·rw [zgb hP]
  have e:showState s=[]:=by unfold showState;rw [zgb hP];rfl
  rw [e,rsi_f (.inr (.inl rfl))]
theorem rsi_of{s:DtState}(hl:(showState s).length≤1048576):∃X,RSI (showState s)=(X,decB (StateP s))∧DtState.sz X≤1048576∧(decB (StateP s)=true→showState X=showState s):=by
 obtain ⟨X,b,e⟩:∃X b,RSI (showState s)=(X,b):=⟨_,_,rfl⟩
 have h1:=rsi_shown hl
 have h2:=RSI_sz (showState s)
 rw [e] at h1 h2
 dsimp only at h1 h2
 rw [h1] at e
 exact ⟨X,e,by omega,λh=>zta e h⟩
theorem implRS{t:List UInt8}{X:DtState}{b:Bool}(ht:t.length≤1048576)(e:RSI t=(X,b)):XCall Tryd.prog 7 [.s t] [] (.tup [.agg [.arr 16 0 X.fCat.fSets.length,.arr 17 0 X.fSaid.length],(.g (.bool (b)))]) [] [.own 2 (X.fCat.fSets.map DtCSet.cells),.own 3 (X.fSaid.map DtSaid.cells)]:=by
 have:=zqv t ht
 rwa [e] at this
theorem specRS{t:List UInt8}{X:DtState}{b:Bool}(ht:t.length≤1048576)(e:RSI t=(X,b)):XCall Tryd.prog 9 [.s t] [] (.tup [.agg [.arr 16 0 X.fCat.fSets.length,.arr 17 0 X.fSaid.length],(.g (.bool (b)))]) [] [.own 2 (X.fCat.fSets.map DtCSet.cells),.own 3 (X.fSaid.map DtSaid.cells)]:=by
 have:=zqy t ht
 rwa [rs_eq t ht,e] at this
theorem ztb{X:DtState}{t:List UInt8}(hs:DtState.sz X≤1048576)(e:showState X=t):PCall Tryd.prog 6 [.agg (DtState.cells X)] (.s t):=by
 have:=zff X hs
 rwa [e] at this
theorem shortE{s:DtState}(hl:(showState s).length≤1073741824)(h:decB (StateP s)=true):PCall Tryd.prog 14 [.s (showState s)] (.s (hashS s)):=by
 have e:hashS s=shortS (showState s):=by unfold hashS;rw [h];rfl
 rw [e]
 exact zm2 _ hl
theorem lawBigO(l:List Int)(hn:l.length<9223372036854775808):PCall Tryd.prog 4 [.sl 1 (l.map cU)] (.g (.bool (decide (1048576<l.length)))):=by
 refine zbp Tryd.func4 (by rfl) (by rfl) (by rw [Tryd.ntmps4];exact Nat.le_of_ble_eq_true rfl) rfl (by decide) ?_
 rw [Tryd.ntmps4]
 refine AW_k [(0,_)] ⟨rfl,trivial⟩ ?_
 refine AW_r rfl rfl λK hK=>?_
 simp
 refine hK _ ?_;clear hK K
 refine AW_r rfl rfl λK hK=>?_
 simp
 refine hK _ ?_;clear hK K
 refine zbo (zcc ?_)
 simp
 (congr 1;omega)
theorem eqB_r(b:List UInt8):(b==b)=true:=by simp
def zG40:=And.intro @zcj (And.intro @gE (And.intro @tP (And.intro @eqB_r (And.intro @and_assoc (And.intro @List.range_succ @zbv)))))
theorem lawStateX(l:List Int)(hw:l.length<9223372036854775808):XCall Tryd.prog 3 [.sl 1 (l.map cU)] [] (.g (.bool (true))) [] []:=by
 by_cases hl:l.length≤1048576
 ·have e:¬1048576<l.length:=by omega
  refine zbq Tryd.func3 (by rfl) (by rfl) (by rw [Tryd.ntmps3];exact Nat.le_of_ble_eq_true rfl) rfl (by simp) rfl rfl ?_
  rw [Tryd.ntmps3]
  refine zdk   ?_
  refine AW_k [(0,_)] ⟨rfl,trivial⟩ ?_
  refine AW_x rfl rfl λK hK=>?_
  simp (disch:=omega) [zG40,DtState.cells,DtCatalog.cells,e]
  refine hK _ ?_;clear hK K
  refine zbe ?_
  refine AW_x rfl rfl λK hK=>?_
  simp (disch:=omega) [zG40,DtState.cells,DtCatalog.cells,e]
  repeat' first|(refine zf1 (zbf zmh zbn) (lawBigO l hw) rfl ?_;simp (disch:=omega) [zG40,DtState.cells,DtCatalog.cells,e]) | fail
  refine hK _ ?_;clear hK K
  refine zbg rfl (λhc1=>?_) (λhc1=>?_)
  ·try simp [zG38,zbc,zba] at hc1
  ·try simp [zG38,zbc,zba] at hc1
   refine zbh ?_
   refine zbm ?_
   refine AW_x rfl rfl λK hK=>?_
   simp (disch:=omega) [zG40,DtState.cells,DtCatalog.cells,e]
   repeat' first|(refine zr3 [] false [] (DrawShow l hl) ?_ ?_ ?_;(focus (simp [List.range_succ,nmC];done));(focus (simp (disch:=omega) [zG40,DtState.cells,DtCatalog.cells,e];done));rintro _ _ _ ⟨s,hG,rfl,rfl,rfl⟩;refine ⟨⟨by rfl,by rfl⟩,?_⟩;simp (disch:=omega) [zG40,DtState.cells,DtCatalog.cells,e]) | fail
   refine hK _ ?_;clear hK K
   have hz:DtState.sz s≤1048576:=by omega
   have ht:(showState s).length≤1048576:=by have:=zxs hG;omega
   have htt:(showState s).length≤1073741824:=by omega
   obtain ⟨X,hX,hXz,hXs⟩:=rsi_of ht
   refine AW_x rfl rfl λK hK=>?_
   simp (disch:=omega) [zG40,DtState.cells,DtCatalog.cells,e]
   repeat' first|(refine zf1 (zbf (zcn rfl) zbn) (zff s hz) rfl ?_;simp (disch:=omega) [zG40,DtState.cells,DtCatalog.cells,e]) | fail
   refine hK _ ?_;clear hK K
   refine AW_x rfl rfl λK hK=>?_
   simp (disch:=omega) [zG40,DtState.cells,DtCatalog.cells,e]
   repeat' first|(refine zch [] true [] (implRS ht hX) ?_ ?_ ?_;(focus (simp [List.range_succ,nmC];done));(focus (simp (disch:=omega) [zG40,DtState.cells,DtCatalog.cells,e];done));simp (disch:=omega) [zG40,DtState.cells,DtCatalog.cells,e]) | fail
   refine hK _ ?_;clear hK K
   refine AW_x rfl rfl λK hK=>?_
   simp (disch:=omega) [zG40,DtState.cells,DtCatalog.cells,e]
   repeat' first|(refine zr3 [] false [] (DrawRead l hl) ?_ ?_ ?_;(focus (simp [List.range_succ,nmC];done));(focus (simp (disch:=omega) [zG40,DtState.cells,DtCatalog.cells,e];done));rintro _ _ _ ⟨u,hu,rfl,rfl,rfl⟩;refine ⟨⟨by rfl,by rfl⟩,?_⟩;simp (disch:=omega) [zG40,DtState.cells,DtCatalog.cells,e]) | fail
   refine hK _ ?_;clear hK K
   have hu1:u.length≤1048576:=by omega
   obtain ⟨Y,b,hY⟩:∃Y b,RSI u=(Y,b):=⟨_,_,rfl⟩
   have hYz:DtState.sz Y≤1048576:=by have:=RSI_sz u;rw [hY] at this;dsimp only at this;omega
   refine AW_x rfl rfl λK hK=>?_
   simp (disch:=omega) [zG40,DtState.cells,DtCatalog.cells,e]
   repeat' first|(refine zch [] true [] (implRS hu1 hY) ?_ ?_ ?_;(focus (simp [List.range_succ,nmC];done));(focus (simp (disch:=omega) [zG40,DtState.cells,DtCatalog.cells,e];done));simp (disch:=omega) [zG40,DtState.cells,DtCatalog.cells,e]) | fail
   refine hK _ ?_;clear hK K
   refine AW_x rfl rfl λK hK=>?_
   simp (disch:=omega) [zG40,DtState.cells,DtCatalog.cells,e]
   repeat' first|(refine zch [] true [] (specRS hu1 hY) ?_ ?_ ?_;(focus (simp [List.range_succ,nmC];done));(focus (simp (disch:=omega) [zG40,DtState.cells,DtCatalog.cells,e];done));simp (disch:=omega) [zG40,DtState.cells,DtCatalog.cells,e]) | fail
   refine hK _ ?_;clear hK K
   refine zbe ?_
   refine AW_x rfl rfl λK hK=>?_
   simp (disch:=omega) [zG40,DtState.cells,DtCatalog.cells,e]
   repeat' first|(refine zf1 (zbf (zcn rfl) zbn) (zfe s hz) rfl ?_;simp (disch:=omega) [zG40,DtState.cells,DtCatalog.cells,e])|(refine zf1 (zbf (zcn rfl) zbn) (zdz s hz) rfl ?_;simp (disch:=omega) [zG40,DtState.cells,DtCatalog.cells,e])|(refine zvc (ztb hXz (hXs (by assumption))) (by rfl) ?_ ?_;(focus (simp (disch:=omega) [zG40,DtState.cells,DtCatalog.cells,e];done));simp (disch:=omega) [zG40,DtState.cells,DtCatalog.cells,e])|(refine zvc (ztb hYz (zta hY (by assumption))) (by rfl) ?_ ?_;(focus (simp (disch:=omega) [zG40,DtState.cells,DtCatalog.cells,e];done));simp (disch:=omega) [zG40,DtState.cells,DtCatalog.cells,e])|(refine ⟨λ_=>?_,λ_=>?_⟩) | fail
   all_goals (refine hK _ ?_;clear hK K)
   all_goals
    refine zbg rfl (λhc2=>?_) (λhc2=>?_)
    ·try simp [zG38,zbc,zba] at hc2
    ·try simp [zG38,zbc,zba] at hc2
     all_goals
      refine zbh ?_
      refine zbm ?_
      refine AW_d rfl mix (by kernel_rfl) (by kernel_rfl) λK hK=>?_
      simp (disch:=omega) [zG40,DtState.cells,DtCatalog.cells,e]
      repeat' first|(refine zjf (λst'=>(zbf (zcn rfl) zbn)) (implHash s hz) rfl ?_;simp (disch:=omega) [zG40,DtState.cells,DtCatalog.cells,e])|(refine zjf (λst'=>(zbf (zcn rfl) zbn)) (specHash s hz) rfl ?_;simp (disch:=omega) [zG40,DtState.cells,DtCatalog.cells,e])|(refine zjf (λst'=>(zbf zd9 zbn)) (shortE htt (by assumption)) rfl ?_;simp (disch:=omega) [zG40,DtState.cells,DtCatalog.cells,e])|(refine ⟨λ_=>?_,λ_=>?_⟩) | fail
      all_goals (refine hK _ _ (by kernel_rfl) ?_;clear hK K)
      all_goals
       refine zbo (zb7 [] [] (by simp [zG39,List.range_succ]) (by simp) ?_)
       simp (disch:=omega) [zG40,DtState.cells,DtCatalog.cells,e]
 ·have e:1048576<l.length:=by omega
  refine zbq Tryd.func3 (by rfl) (by rfl) (by rw [Tryd.ntmps3];exact Nat.le_of_ble_eq_true rfl) rfl (by simp) rfl rfl ?_
  rw [Tryd.ntmps3]
  refine zdk   ?_
  refine AW_k [(0,_)] ⟨rfl,trivial⟩ ?_
  refine AW_x rfl rfl λK hK=>?_
  simp (disch:=omega) [zcj,gE,tP,e]
  refine hK _ ?_;clear hK K
  refine zbe ?_
  refine AW_x rfl rfl λK hK=>?_
  simp (disch:=omega) [zcj,gE,tP,e]
  repeat' first|(refine zf1 (zbf zmh zbn) (lawBigO l hw) rfl ?_;simp (disch:=omega) [zcj,gE,tP,e]) | fail
  refine hK _ ?_;clear hK K
  refine zbg rfl (λhc3=>?_) (λhc3=>?_)
  ·try simp [zG38,zbc,zba] at hc3
   refine AW_x rfl rfl λK hK=>?_
   simp (disch:=omega) [zcj,gE,tP,e]
   refine hK _ ?_;clear hK K
   refine zbo (zb7 [] [] (by simp [zG39,List.range_succ]) (by simp) ?_)
   simp (disch:=omega) [zcj,gE,tP,e]
  ·try simp [zG38,zbc,zba] at hc3
theorem lawState(l:List Int)(hw:wfS wfU8 l):PCall Tryd.prog 3 [.sl 1 (l.map cU)] (.g (.bool (true))):=zzs (lawStateX l (by have:=hw.1;omega))
end Go.Proofs.YtodmafgmdlkhoaaDoor.Vs
end
