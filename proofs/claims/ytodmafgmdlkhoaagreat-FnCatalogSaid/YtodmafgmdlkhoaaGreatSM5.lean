import Derived.Test.YtodmafgmdlkhoaaGreatSM4
section
namespace Go.Proofs.YtodmafgmdlkhoaaGreat.Vs
set_option linter.all false
set_option maxRecDepth 100000
noncomputable def findS(l:List DtCSet)(name:List UInt8):Int:=idxZ (λp=>eqB p.fName name) l
attribute [local simp] DtCSet.cells
theorem set1(p:DtCSet)(name:List UInt8):GCall Tryz.prog 115 [.agg (DtCSet.cells p),.ptr 0 0] [[.s name]] [] (.g (.bool (eqB p.fName name))) []:=by
 refine zbq Tryz.func115 (by rfl) (by rfl) (by rw [Tryz.ntmps115];exact Nat.le_of_ble_eq_true rfl) rfl (by decide) ?_
 rw [Tryz.ntmps115]
 refine AW_k [(0,_),(1,_)] ⟨rfl,rfl,trivial⟩ ?_
 refine AW_r rfl rfl λK hK=>?_
 simp
 repeat' first|(refine ⟨by omega,?_⟩)|(intro _)
 refine hK _ ?_;clear hK K
 refine AW_r rfl rfl λK hK=>?_
 simp
 repeat' first|(refine ⟨by omega,?_⟩)|(intro _)
 refine hK _ ?_;clear hK K
 refine zbp (zcb ?_)
 simp
 all_goals first|(rw [Bool.eq_iff_iff,zbc];simp;done)|(rw [eqB];simp)
theorem zqj{F:FuncId}{name:List UInt8}{p:DtCSet→Bool}(xs:List DtCSet)(hn:xs.length≤1048576)(hf:∀x,GCall Tryz.prog F [.agg (DtCSet.cells x),.ptr 0 0] [[.s name]] [] (.g (.bool (p x))) []):GCall Tryz.prog 114 [.sl 2 (xs.map DtCSet.cells),.fn F [] [.ptr 0 0]] [[.s name]] [] (.g (.int .i64 (idxZ p xs))) []:=by
 refine zbq Tryz.func114 (by rfl) (by rfl) (by rw [Tryz.ntmps114];exact Nat.le_of_ble_eq_true rfl) rfl (by decide) ?_
 rw [Tryz.ntmps114]
 refine AW_k [(0,_),(1,_)] ⟨rfl,rfl,trivial⟩ ?_
 refine AW_r rfl rfl λK hK=>?_
 simp (disch:=omega)
 repeat' first|(refine zd6 0 (.inr rfl) (zch [.s name] rfl) (zbd (zbz rfl) (zbd zc7 zbl)) (hf _) rfl ?_;try simp (disch:=omega))|(refine ⟨by omega,?_⟩)|(intro _)
 refine hK _ ?_;clear hK K
 refine zbh ?_
 refine AW_r rfl rfl λK hK=>?_
 simp (disch:=omega)
 repeat' first|(refine zd6 0 (.inr rfl) (zch [.s name] rfl) (zbd (zbz rfl) (zbd zc7 zbl)) (hf _) rfl ?_;try simp (disch:=omega))|(refine ⟨by omega,?_⟩)|(intro _)
 refine hK _ ?_;clear hK K
 refine zbj ?_
 refine zbs (λmM sS=>∃(i:Nat),mM=xs.length-i∧(i≤xs.length∧∀j x,j<i→xs[j]? = some x→p x=false)∧sS = { env:=lkE [(0,.sl 2 (xs.map DtCSet.cells)),(1,.fn F [] [.ptr 0 0]),(6,.sl 2 (xs.map DtCSet.cells)),(7,(.g (.int .i64 ((xs.length:Nat))))),(8,(.g (.int .i64 ((i:Nat)))))],ob:=formOb [[.s name]] [] }) ?_ ?_
 ·refine ⟨_,LeS.kp [(0,.sl 2 (xs.map DtCSet.cells)),(1,.fn F [] [.ptr 0 0]),(6,.sl 2 (xs.map DtCSet.cells)),(7,(.g (.int .i64 ((xs.length:Nat))))),(8,(.g (.int .i64 (((0):Nat)))))] (by simp [KpE,zb0,zbk,zbr];try rfl),_,0,rfl,?_,rfl⟩
  ·simp
 ·rintro mM sS ⟨i,rfl,⟨hi,hpre⟩,rfl⟩
  refine AW_r rfl rfl λK hK=>?_
  simp (disch:=omega)
  repeat' first|(refine zd6 0 (.inr rfl) (zch [.s name] rfl) (zbd (zbz rfl) (zbd zc7 zbl)) (hf _) rfl ?_;try simp (disch:=omega))|(refine ⟨by omega,?_⟩)|(intro _)
  refine hK _ ?_;clear hK K
  refine zbh ?_
  refine zbg rfl (λhc1=>?_) (λhc1=>?_)
  ·try simp [zbf,zbn,zbc,zbb] at hc1
   all_goals
    have hg:xs[i]? = some (xs[i]):=List.getElem?_eq_getElem (by omega)
    refine zbi ?_
    refine zbm ?_
    refine zbh ?_
    refine zbj ?_
    refine AW_r rfl rfl λK hK=>?_
    simp (disch:=omega)
    repeat' first|(exfalso;omega)|(refine zd6 0 (.inr rfl) (zch [.s name] rfl) (zbd (zbz rfl) (zbd zc7 zbl)) (hf _) rfl ?_;try simp (disch:=omega))|(refine ⟨λ_=>?_,λ_=>?_⟩)|(refine ⟨by omega,?_⟩)|(intro _)
    all_goals (refine hK _ ?_;clear hK K)
    all_goals
     refine AW_r rfl rfl λK hK=>?_
     simp (disch:=omega)
     repeat' first|(refine zd6 0 (.inr rfl) (zch [.s name] rfl) (zbd (zbz rfl) (zbd zc7 zbl)) (hf _) rfl ?_;try simp (disch:=omega))|(refine ⟨by omega,?_⟩)|(intro _)
     refine hK _ ?_;clear hK K
     refine zbg rfl (λhc2=>?_) (λhc2=>?_)
     ·try simp [zbf,zbn,zbc,zbb] at hc2
      all_goals
       refine AW_r rfl rfl λK hK=>?_
       simp (disch:=omega)
       repeat' first|(exfalso;omega)|(refine zd6 0 (.inr rfl) (zch [.s name] rfl) (zbd (zbz rfl) (zbd zc7 zbl)) (hf _) rfl ?_;try simp (disch:=omega))|(refine ⟨λ_=>?_,λ_=>?_⟩)|(refine ⟨by omega,?_⟩)|(intro _)
       all_goals (refine hK _ ?_;clear hK K)
       all_goals
        refine zbp (zcb ?_)
        simp (disch:=omega)
        all_goals first|(exact zcs (by assumption) (by assumption) hpre)|(exact zdp (λj x h=>hpre j x (by omega)))
     try simp [zbf,zbn,zbc,zbb] at hc2
     refine zbi ?_
     refine zbm ?_
     refine zcv rfl rfl λK hK=>?_
     simp (disch:=omega)
     repeat' first|(exfalso;omega)|(refine zd6 0 (.inr rfl) (zch [.s name] rfl) (zbd (zbz rfl) (zbd zc7 zbl)) (hf _) rfl ?_;try simp (disch:=omega))|(refine ⟨λ_=>?_,λ_=>?_⟩)|(refine ⟨by omega,?_⟩)|(intro _)
     all_goals (refine hK _ ?_;clear hK K)
     all_goals
      refine ⟨_,LeS.kp [(0,.sl 2 (xs.map DtCSet.cells)),(1,.fn F [] [.ptr 0 0]),(6,.sl 2 (xs.map DtCSet.cells)),(7,(.g (.int .i64 ((xs.length:Nat))))),(8,(.g (.int .i64 (((i+1):Nat)))))] (by simp [KpE,zb0,zbk,zbr];try rfl),_,?_,i+1,rfl,?_,rfl⟩
      ·omega
      ·refine ⟨by omega,?_⟩;grind
  try simp [zbf,zbn,zbc,zbb] at hc1
  refine zbx ?_
  refine zbm ?_
  refine AW_r rfl rfl λK hK=>?_
  simp (disch:=omega)
  repeat' first|(exfalso;omega)|(refine zd6 0 (.inr rfl) (zch [.s name] rfl) (zbd (zbz rfl) (zbd zc7 zbl)) (hf _) rfl ?_;try simp (disch:=omega))|(refine ⟨λ_=>?_,λ_=>?_⟩)|(refine ⟨by omega,?_⟩)|(intro _)
  all_goals (refine hK _ ?_;clear hK K)
  all_goals
   refine zbp (zcb ?_)
   simp (disch:=omega)
   all_goals first|(exact zcs (by assumption) (by assumption) hpre)|(exact zdp (λj x h=>hpre j x (by omega)))
attribute [local simp] DtCatalog.cells
attribute [-simp] DtCSet.cells
theorem zxl(c:DtCatalog)(name:List UInt8)(hs:c.fSets.length≤1048576):PCall Tryz.prog 56 [.agg (DtCatalog.cells c),.s name] (.g (.int .i64 (findS c.fSets name))):=by
 refine zbq Tryz.func56 (by rfl) (by rfl) (by rw [Tryz.ntmps56];exact Nat.le_of_ble_eq_true rfl) rfl (by decide) ?_
 rw [Tryz.ntmps56]
 refine AW_k [(0,_),(1,_)] ⟨rfl,rfl,trivial⟩ ?_
 refine AW_r rfl rfl λK hK=>?_
 simp
 repeat' first|(refine ⟨by omega,?_⟩)|(intro _)
 refine hK _ ?_;clear hK K
 refine AW_r rfl rfl λK hK=>?_
 simp
 repeat' first|(refine zd6 64 (.inl rfl) (zch [.s name] rfl) (zbd zdm (zbd am2_fn0 zbl)) (zqj _ hs (λx=>set1 x name)) rfl ?_;simp)|(refine ⟨by omega,?_⟩)|(intro _)
 refine hK _ ?_;clear hK K
 refine zbp (zcb ?_)
 simp [findS]
 all_goals first | omega|(simp_all;done)|(simp [List.take_of_length_le];done)|((try simp_all);(try simp (disch:=omega) only [zcf,Int.tdiv_eq_ediv_of_nonneg,Int.tmod_eq_emod_of_nonneg,and_true,true_and]);done)|((try simp_all);(try simp (disch:=omega) only [zcf,Int.tdiv_eq_ediv_of_nonneg,Int.tmod_eq_emod_of_nonneg,and_true,true_and] at *);omega)
theorem l15At(c:DtCatalog)(name:List UInt8)(hs:c.fSets.length≤1048576):PCall Tryz.prog 64 [.agg (DtCatalog.cells c),.s name] (.g (.int .i64 (findS c.fSets name))):=by
 refine zbq Tryz.func64 (by rfl) (by rfl) (by rw [Tryz.ntmps64];exact Nat.le_of_ble_eq_true rfl) rfl (by decide) ?_
 rw [Tryz.ntmps64]
 refine AW_k [(0,_),(1,_)] ⟨rfl,rfl,trivial⟩ ?_
 refine AW_r rfl rfl λK hK=>?_
 simp (disch:=omega) [DtCatalog.cells]
 repeat' first|(refine ⟨by omega,?_⟩)|(intro _)
 refine hK _ ?_;clear hK K
 refine zbh ?_
 refine AW_r rfl rfl λK hK=>?_
 simp (disch:=omega) [DtCatalog.cells]
 repeat' first|(refine ⟨by omega,?_⟩)|(intro _)
 refine hK _ ?_;clear hK K
 refine zbj ?_
 refine zbs (λmM sS=>∃(i:Nat),mM=c.fSets.length-i∧(i≤c.fSets.length∧∀j x,j<i→c.fSets[j]? = some x→eqB x.fName name=false)∧sS = { env:=lkE [(1,.s name),(2,.ptr 48 0),(5,(.g (.int .i64 ((i:Nat)))))],ob:=upd (formOb [] []) 48 (some (.cells (DtCatalog.cells c))) }) ?_ ?_
 ·refine ⟨_,LeS.kp [(1,.s name),(2,.ptr 48 0),(5,(.g (.int .i64 (((0):Nat)))))] (by simp [KpE,zb0,zbk,zbr];try rfl),_,0,rfl,?_,rfl⟩
  ·simp
 ·rintro mM sS ⟨i,rfl,⟨hi,hpre⟩,rfl⟩
  refine zbh ?_
  refine AW_r rfl rfl λK hK=>?_
  simp (disch:=omega) [DtCatalog.cells,DtCSet.cells]
  repeat' first|(refine ⟨by omega,?_⟩)|(intro _)
  refine hK _ ?_;clear hK K
  refine zbg rfl (λhc3=>?_) (λhc3=>?_)
  ·try simp [zbf,zbn,zbc,zbb] at hc3
   all_goals
    have hg:c.fSets[i]? = some c.fSets[i]:=List.getElem?_eq_getElem (by omega)
    refine zbi ?_
    refine zbm ?_
    refine zbh ?_
    refine zbj ?_
    refine AW_r rfl rfl λK hK=>?_
    simp (disch:=omega) [DtCatalog.cells,DtCSet.cells]
    repeat' first|(exfalso;omega)|(refine ⟨λ_=>?_,λ_=>?_⟩)|(refine ⟨by omega,?_⟩)|(intro _)
    all_goals (refine hK _ ?_;clear hK K)
    all_goals
     refine zbg rfl (λhc4=>?_) (λhc4=>?_)
     ·try simp [zbf,zbn,zbc,zbb] at hc4
      all_goals
       refine AW_r rfl rfl λK hK=>?_
       simp (disch:=omega) [DtCatalog.cells,DtCSet.cells]
       repeat' first|(exfalso;omega)|(refine ⟨λ_=>?_,λ_=>?_⟩)|(refine ⟨by omega,?_⟩)|(intro _)
       all_goals (refine hK _ ?_;clear hK K)
       all_goals
        refine zbp (zcb ?_)
        simp (disch:=omega) [DtCatalog.cells,DtCSet.cells]
        all_goals first|(unfold findS;rw [zcs (by assumption) (by simp_all [zbc]) hpre];done)|(unfold findS;exact (zcs (by assumption) (by simp_all [zbc]) hpre))|(unfold findS;exact zdp (λj x h=>hpre j x (by omega)))
     try simp [zbf,zbn,zbc,zbb] at hc4
     refine zbi ?_
     refine zbm ?_
     refine zcv rfl rfl λK hK=>?_
     simp (disch:=omega) [DtCatalog.cells,DtCSet.cells]
     repeat' first|(exfalso;omega)|(refine ⟨λ_=>?_,λ_=>?_⟩)|(refine ⟨by omega,?_⟩)|(intro _)
     all_goals (refine hK _ ?_;clear hK K)
     all_goals
      refine ⟨_,LeS.kp [(1,.s name),(2,.ptr 48 0),(5,(.g (.int .i64 (((i+1):Nat)))))] (by simp [KpE,zb0,zbk,zbr];try rfl),_,?_,i+1,rfl,?_,rfl⟩
      ·omega
      ·refine ⟨by omega,?_⟩;grind [zbb]
  try simp [zbf,zbn,zbc,zbb] at hc3
  refine zbx ?_
  refine zbm ?_
  refine AW_r rfl rfl λK hK=>?_
  simp (disch:=omega) [DtCatalog.cells,DtCSet.cells]
  repeat' first|(exfalso;omega)|(refine ⟨λ_=>?_,λ_=>?_⟩)|(refine ⟨by omega,?_⟩)|(intro _)
  all_goals (refine hK _ ?_;clear hK K)
  all_goals
   refine zbp (zcb ?_)
   simp (disch:=omega) [DtCatalog.cells,DtCSet.cells]
   all_goals first|(unfold findS;rw [zcs (by assumption) (by simp_all [zbc]) hpre];done)|(unfold findS;exact (zcs (by assumption) (by simp_all [zbc]) hpre))|(unfold findS;exact zdp (λj x h=>hpre j x (by omega)))
attribute [local simp] cS
attribute [-simp] DtCatalog.cells
def spc:List (List UInt8)→List UInt8
 | []=>[]
 | x :: l=>x++l.flatMap (λt=>32 :: t)
theorem spc_snoc(l:List (List UInt8))(x:List UInt8):spc (l++[x])=if l=[] then x else spc l++(32 :: x):=by
 cases l with
 | nil=>simp [spc]
 | cons y l=>simp [spc]
theorem zk8(l:List (List UInt8))(i:Nat)(h:i<l.length):spc (l.take (i+1))=if i=0 then l[i] else spc (l.take i)++(32 :: l[i]):=by
 rw [List.take_succ_eq_append_getElem h,spc_snoc]
 cases i with
 | zero=>simp
 | succ i =>
  have:l.take (i+1)≠[]:=by
   intro e
   have h2:(l.take (i+1)).length=i+1:=by rw [List.length_take];omega
   rw [e] at h2;simp at h2
  rw [if_neg this,if_neg (by omega)]
theorem spc_pre(l:List (List UInt8))(i:Nat):(spc (l.take i)).length≤(spc l).length:=by
 cases l with
 | nil=>simp
 | cons x l =>
  cases i with
  | zero=>simp [spc]
  | succ i =>
   rw [List.take_succ_cons]
   show (x++(l.take i).flatMap _).length≤(x++l.flatMap _).length
   have e:l.flatMap (λt=>(32:UInt8) :: t)=(l.take i).flatMap (λt=>32 :: t)++(l.drop i).flatMap (λt=>32 :: t):=by rw [←List.flatMap_append,List.take_append_drop]
   rw [e];simp
theorem zxm(l:List (List UInt8))(i:Nat)(h:i<l.length)(hb:(spc l).length≤1073741824):(spc (l.take i)).length+l[i].length≤1073741824∧(0<i→(spc (l.take i)).length+1+l[i].length≤1073741824):=by
 have h1:=spc_pre l (i+1)
 rw [zk8 l i h] at h1
 split at h1
 ·rename_i h0;subst h0;simp [spc];omega
 ·simp at h1;omega
theorem zqk(l:List (List UInt8))(hs:l.length≤1048576)(hb:(spc l).length≤1073741824):PCall Tryz.prog 113 [.sl 1 (l.map cS)] (.s (spc l)):=by
 refine zbq Tryz.func113 (by rfl) (by rfl) (by rw [Tryz.ntmps113];exact Nat.le_of_ble_eq_true rfl) rfl (by decide) ?_
 rw [Tryz.ntmps113]
 refine AW_k [(0,_)] ⟨rfl,trivial⟩ ?_
 refine AW_r rfl rfl λK hK=>?_
 simp (disch:=omega)
 repeat' first|(refine ⟨by omega,?_⟩)|(intro _)
 refine hK _ ?_;clear hK K
 refine AW_r rfl rfl λK hK=>?_
 simp (disch:=omega)
 repeat' first|(refine ⟨by omega,?_⟩)|(intro _)
 refine hK _ ?_;clear hK K
 refine zbh ?_
 refine AW_r rfl rfl λK hK=>?_
 simp (disch:=omega)
 repeat' first|(refine ⟨by omega,?_⟩)|(intro _)
 refine hK _ ?_;clear hK K
 refine zbj ?_
 refine zbs (λmM sS=>∃(i:Nat),mM=l.length-i∧(i≤l.length)∧sS = { env:=lkE [(3,.s (spc (l.take i))),(6,.sl 1 (l.map cS)),(7,(.g (.int .i64 ((l.length:Nat))))),(8,(.g (.int .i64 ((i:Nat)))))],ob:=formOb [] [] }) ?_ ?_
 ·refine ⟨_,LeS.kp [(3,.s (spc (l.take (0)))),(6,.sl 1 (l.map cS)),(7,(.g (.int .i64 ((l.length:Nat))))),(8,(.g (.int .i64 (((0):Nat)))))] (by simp [KpE,zb0,zbk,zbr];all_goals first | rfl|(rw [hsp];split<;>first | rfl|(simp [spc];done)|(subst_vars;simp [spc];done)|(exfalso;omega)|(simp_all;done))),_,0,rfl,?_,rfl⟩
  ·simp
 ·rintro mM sS ⟨i,rfl,hi,rfl⟩
  refine AW_r rfl rfl λK hK=>?_
  simp (disch:=omega)
  repeat' first|(refine ⟨by omega,?_⟩)|(intro _)
  refine hK _ ?_;clear hK K
  refine zbh ?_
  refine zbg rfl (λhc5=>?_) (λhc5=>?_)
  ·try simp [zbf,zbn,zbc,zbb] at hc5
   all_goals
    have hsp:=zk8 l i (by omega)
    have ⟨hbd1,hbd2⟩:=zxm l i (by omega) hb
    refine zbi ?_
    refine zbm ?_
    refine zbh ?_
    refine zbj ?_
    refine AW_r rfl rfl λK hK=>?_
    simp (disch:=omega)
    repeat' first|(exfalso;omega)|(refine ⟨λ_=>?_,λ_=>?_⟩)|(refine ⟨by omega,?_⟩)|(intro _)
    all_goals (refine hK _ ?_;clear hK K)
    all_goals
     refine zbh ?_
     refine AW_r rfl rfl λK hK=>?_
     simp (disch:=omega)
     repeat' first|(refine ⟨by omega,?_⟩)|(intro _)
     refine hK _ ?_;clear hK K
     refine zbg rfl (λhc6=>?_) (λhc6=>?_)
     ·try simp [zbf,zbn,zbc,zbb] at hc6
      all_goals
       refine zcv rfl rfl λK hK=>?_
       simp (disch:=omega)
       repeat' first|(exfalso;omega)|(refine ⟨λ_=>?_,λ_=>?_⟩)|(refine ⟨by omega,?_⟩)|(intro _)
       all_goals (refine hK _ ?_;clear hK K)
       all_goals
        refine zbm ?_
        refine zcv rfl rfl λK hK=>?_
        simp (disch:=omega)
        repeat' first|(refine ⟨by omega,?_⟩)|(intro _)
        refine hK _ ?_;clear hK K
        refine zbm ?_
        refine zcv rfl rfl λK hK=>?_
        simp (disch:=omega)
        repeat' first|(refine ⟨by omega,?_⟩)|(intro _)
        refine hK _ ?_;clear hK K
        refine ⟨_,LeS.kp [(3,.s (spc (l.take (i+1)))),(6,.sl 1 (l.map cS)),(7,(.g (.int .i64 ((l.length:Nat))))),(8,(.g (.int .i64 (((i+1):Nat)))))] (by simp [KpE,zb0,zbk,zbr];all_goals first | rfl|(rw [hsp];split<;>first | rfl|(simp [spc];done)|(subst_vars;simp [spc];done)|(exfalso;omega)|(simp_all;done))),_,?_,i+1,rfl,?_,rfl⟩
        ·omega
        ·omega
     try simp [zbf,zbn,zbc,zbb] at hc6
     refine zbi ?_
     refine zbm ?_
     refine zcv rfl rfl λK hK=>?_
     simp (disch:=omega)
     repeat' first|(exfalso;omega)|(refine ⟨λ_=>?_,λ_=>?_⟩)|(refine ⟨by omega,?_⟩)|(intro _)
     all_goals (refine hK _ ?_;clear hK K)
     all_goals
      refine zbm ?_
      refine zcv rfl rfl λK hK=>?_
      simp (disch:=omega)
      repeat' first|(refine ⟨by omega,?_⟩)|(intro _)
      refine hK _ ?_;clear hK K
      refine ⟨_,LeS.kp [(3,.s (spc (l.take (i+1)))),(6,.sl 1 (l.map cS)),(7,(.g (.int .i64 ((l.length:Nat))))),(8,(.g (.int .i64 (((i+1):Nat)))))] (by simp [KpE,zb0,zbk,zbr];all_goals first | rfl|(rw [hsp];split<;>first | rfl|(simp [spc];done)|(subst_vars;simp [spc];done)|(exfalso;omega)|(simp_all;done))),_,?_,i+1,rfl,?_,rfl⟩
      ·omega
      ·omega
  try simp [zbf,zbn,zbc,zbb] at hc5
  refine zbx ?_
  refine zbm ?_
  refine AW_r rfl rfl λK hK=>?_
  simp (disch:=omega)
  repeat' first|(exfalso;omega)|(refine ⟨λ_=>?_,λ_=>?_⟩)|(refine ⟨by omega,?_⟩)|(intro _)
  all_goals (refine hK _ ?_;clear hK K)
  all_goals
   refine zbp (zcb ?_)
   simp (disch:=omega)
   all_goals ((have e:i=l.length:=by omega);subst e;simp)
end Go.Proofs.YtodmafgmdlkhoaaGreat.Vs
end
section
namespace Go.Proofs.YtodmafgmdlkhoaaGreat.Vs
set_option linter.all false
set_option maxRecDepth 100000
abbrev SetV:=DtCSet × (Nat→Value)
abbrev SnapV:=DtCSnap × (Nat→Value)
def setV(z:SetV):List AV:=ux z.2 0 (DtCSet.cells z.1)
def setP(z:SetV):List (AV × Value):=pkc z.2 0 (DtCSet.cells z.1)
def snapV(z:SnapV):List AV:=ux z.2 0 (DtCSnap.cells z.1)
def snapP(z:SnapV):List (AV × Value):=pkc z.2 0 (DtCSnap.cells z.1)
theorem zd0(z:SetV):setV z=[.s z.1.fName,.g (z.2 1)]:=rfl
theorem setP_c(z:SetV):setP z=[(.sl 3 (z.1.fSnaps.map DtCSnap.cells),z.2 1)]:=rfl
theorem zck(z:SnapV):snapV z=[.s z.1.fName,.s z.1.fTag,.g (z.2 2)]:=rfl
theorem zbw(zs:List SetV):scR (zs.map setV)=true:=zfi _ (λ_=>rfl) zs
theorem zca(zs:List SnapV):scR (zs.map snapV)=true:=zfi _ (λ_=>rfl) zs
section
variable {nt:Nat}{fs:List Nat}{Q:AExit→St→Prop}{st:St}{c:Go.Code}
theorem zfa(n pk:Nat){us:List DtCSet}(hob:st.ob n=some (.own 2 (us.map DtCSet.cells)))(hpk:st.ob pk=none)
 (h:∀zs:List SetV,zs.map (·.1)=us→(∀z∈zs,∀j,(z.2 j).oneCell'=true)→AW Tryz.prog nt fs c Q { st with ob:=upd (upd st.ob pk (some (.park (zs.flatMap setP)))) n (some (.win 2 (zs.map setV))) }):AW Tryz.prog nt fs c Q st :=
 zp7 DtCSet.cells n pk hob hpk h
theorem zhv(n pk:Nat){ks zs:List SetV}(hn:st.ob n=some (.win 2 (ks.map setV)))(hpk:st.ob pk=some (.park (zs.flatMap setP)))(hs:ks.Sublist zs):LeS fs st { st with ob:=upd (upd st.ob pk (some .dead)) n (some (.own 2 (ks.map λz=>DtCSet.cells z.1))) } :=
 LeS.join DtCSet.cells (λ_=>rfl) n pk hn hpk hs
theorem zf9(n pk:Nat){us:List DtCSnap}(hob:st.ob n=some (.own 3 (us.map DtCSnap.cells)))(hpk:st.ob pk=none)
 (h:∀zs:List SnapV,zs.map (·.1)=us→(∀z∈zs,∀j,(z.2 j).oneCell'=true)→AW Tryz.prog nt fs c Q { st with ob:=upd (upd st.ob pk (some (.park (zs.flatMap snapP)))) n (some (.win 3 (zs.map snapV))) }):AW Tryz.prog nt fs c Q st :=
 zp7 DtCSnap.cells n pk hob hpk h
theorem zk9(n pk:Nat){ks zs:List SnapV}(hn:st.ob n=some (.win 3 (ks.map snapV)))(hpk:st.ob pk=some (.park (zs.flatMap snapP)))(hs:ks.Sublist zs):LeS fs st { st with ob:=upd (upd st.ob pk (some .dead)) n (some (.own 3 (ks.map λz=>DtCSnap.cells z.1))) } :=
 LeS.join DtCSnap.cells (λ_=>rfl) n pk hn hpk hs
theorem fm_at{α β:Type}(g:α→List β)(l:List α)(k:Nat)(h:k<l.length):l.flatMap g=(l.take k).flatMap g++(g l[k]++(l.drop (k+1)).flatMap g):=by
 rw [←List.flatMap_cons,←List.flatMap_append]
 congr 1
 rw [List.getElem_cons_drop,List.take_append_drop]
theorem set_split{α:Type}(l:List α)(k:Nat)(x:α)(h:k<l.length):l.set k x=l.take k++x :: l.drop (k+1):=List.set_eq_take_append_cons_drop.trans (by rw [if_pos h])
/-- The row of the k-th set gets a name. -/
theorem zft(n pk S k:Nat){l:List DtCSet}(hk:k<l.length)(hob:st.ob n=some (.own 2 (l.map DtCSet.cells)))(hpk:st.ob pk=none)(hS:st.ob S=none)(h1:n≠S)(h2:pk≠S)(h3:n≠pk)
 (h:∀zs:List SetV,zs.map (·.1)=l→AW Tryz.prog nt fs c Q { st with ob:=upd (upd (upd st.ob S (some (.own 3 (l[k].fSnaps.map DtCSnap.cells)))) pk (some (.park ((zs.take k).flatMap setP++(zs.drop (k+1)).flatMap setP)))) n (some (.win 2 ((zs.map setV).set k [.s l[k].fName,.arr S 0 l[k].fSnaps.length]))) }):AW Tryz.prog nt fs c Q st:=by
 refine zfa n pk hob hpk λzs hz _=>?_
 have hzl:zs.length=l.length:=by rw [←hz];simp
 have hkz:k<zs.length:=by omega
 have hzk:zs[k].1=l[k]:=by
  have:(zs.map (·.1))[k]'(by simpa using hkz)=l[k]:=by simp only [hz]
  simpa using this
 have hp:zs.flatMap setP=(zs.take k).flatMap setP++(AV.sl 3 (l[k].fSnaps.map DtCSnap.cells),zs[k].2 1) :: (zs.drop (k+1)).flatMap setP:=by
  rw [fm_at setP zs k hkz,setP_c,hzk];rfl
 refine zd3 (LeS.unpark (s:=3) (ys:=l[k].fSnaps.map DtCSnap.cells) (v:=zs[k].2 1) (k:=k) (j:=1) (x:=setV zs[k]) (xs:=zs.map setV) (ps1:=(zs.take k).flatMap setP) (ps2:=(zs.drop (k+1)).flatMap setP) (sz:=2) n pk S (zbe _ _ _) ?_ ?_ (by simp [hkz]) (by simp [zd0])) ?_
 ·show upd (upd st.ob pk _) n _ pk=_
  rw [zba _ _ (Ne.symm h3),zbe,hp]
 ·show upd (upd st.ob pk _) n _ S=none
  rw [zba _ _ (Ne.symm h1),zba _ _ (Ne.symm h2)];exact hS
 ·have hh:=h zs hz
  have e:upd (upd (upd (upd (upd st.ob pk (some (OB.park (zs.flatMap setP)))) n (some (OB.win 2 (zs.map setV)))) S (some (OB.own 3 (l[k].fSnaps.map DtCSnap.cells)))) pk (some (OB.park ((zs.take k).flatMap setP++(zs.drop (k+1)).flatMap setP)))) n (some (OB.win 2 ((zs.map setV).set k ((setV zs[k]).set 1 (.arr S 0 (l[k].fSnaps.map DtCSnap.cells).length))))) =
   upd (upd (upd st.ob S (some (.own 3 (l[k].fSnaps.map DtCSnap.cells)))) pk (some (.park ((zs.take k).flatMap setP++(zs.drop (k+1)).flatMap setP)))) n (some (.win 2 ((zs.map setV).set k [.s l[k].fName,.arr S 0 l[k].fSnaps.length]))):=by
   funext m
   by_cases e1:m=n
   ·subst e1;rw [zbe,zbe,zd0,hzk];simp
   ·rw [zba _ _ e1,zba _ _ e1]
    by_cases e2:m=pk
    ·subst e2;rw [zbe,zbe]
    ·rw [zba _ _ e2,zba _ _ e2]
     by_cases e3:m=S
     ·subst e3;rw [zbe,zbe]
     ·rw [zba _ _ e3,zba _ _ e3,zba _ _ e1,zba _ _ e2]
  show AW Tryz.prog nt fs c Q { env:=st.env,ob:=_ }
  rw [e];exact hh
/-- .. and goes back. -/
theorem zcm(n pk S k:Nat){l:List DtCSet}{zs:List SetV}(hz:zs.map (·.1)=l)(hk:k<l.length)(nm:List UInt8)(sn:List DtCSnap)(hn:st.ob n=some (.win 2 ((zs.map setV).set k [.s nm,.arr S 0 sn.length])))(hp:st.ob pk=some (.park ((zs.take k).flatMap setP++(zs.drop (k+1)).flatMap setP)))(hS:st.ob S=some (.own 3 (sn.map DtCSnap.cells)))(h1:n≠S)(h2:pk≠S)(h3:n≠pk)
 (h:AW Tryz.prog nt fs c Q { st with ob:=upd (upd (upd st.ob S (some .dead)) pk (some .dead)) n (some (.own 2 ((l.set k { fName:=nm,fSnaps:=sn }).map DtCSet.cells))) }):AW Tryz.prog nt fs c Q st:=by
 have hzl:zs.length=l.length:=by rw [←hz];simp
 have hkz:k<zs.length:=by omega
 refine AW_repark (s:=3) (sz:=2) (k:=k) (j:=1) (x:=[.s nm,.arr S 0 sn.length]) n pk S hn hp hS (by simp [hkz]) (by simp) λv hv=>?_
 let z':SetV:=({ fName:=nm,fSnaps:=sn },λ_=>v)
 have e1:((zs.map setV).set k [.s nm,.arr S 0 sn.length]).set k ([AV.s nm,.arr S 0 sn.length].set 1 (.g v))=(zs.set k z').map setV:=by
  rw [List.set_set,List.map_set];rfl
 have e2:(zs.take k).flatMap setP++(AV.sl 3 (sn.map DtCSnap.cells),v) :: (zs.drop (k+1)).flatMap setP=(zs.set k z').flatMap setP:=by
  rw [set_split zs k z' hkz,List.flatMap_append,List.flatMap_cons];rfl
 rw [e1,e2]
 refine zd3 (zhv (ks:=zs.set k z') (zs:=zs.set k z') n pk (zbe _ _ _) ?_ (List.Sublist.refl _)) ?_
 ·show upd (upd _ pk _) n _ pk=_
  rw [zba _ _ (Ne.symm h3),zbe]
 ·have e3 : ((zs.set k z').map fun z => DtCSet.cells z.1) = (l.set k { fName := nm, fSnaps := sn }).map DtCSet.cells := by
   rw [←hz,←List.map_set (f:=(·.1)) (l:=zs) (i:=k) (a:=z'),List.map_map];rfl
  rw [e3]
  have e:upd (upd (upd (upd (upd st.ob S (some OB.dead)) pk (some (OB.park ((zs.set k z').flatMap setP)))) n (some (OB.win 2 ((zs.set k z').map setV)))) pk (some OB.dead)) n (some (OB.own 2 ((l.set k { fName:=nm,fSnaps:=sn }).map DtCSet.cells))) =
   upd (upd (upd st.ob S (some .dead)) pk (some .dead)) n (some (.own 2 ((l.set k { fName:=nm,fSnaps:=sn }).map DtCSet.cells))):=by
   funext m
   by_cases e1:m=n
   ·subst e1;rw [zbe,zbe]
   ·rw [zba _ _ e1,zba _ _ e1]
    by_cases e2:m=pk
    ·subst e2;rw [zbe,zbe]
    ·rw [zba _ _ e2,zba _ _ e2,zba _ _ e1,zba _ _ e2]
  show AW Tryz.prog nt fs c Q { env:=st.env,ob:=_ }
  rw [e];exact h
end
end Go.Proofs.YtodmafgmdlkhoaaGreat.Vs
end
section
namespace Go.Proofs.YtodmafgmdlkhoaaGreat.Vs
set_option linter.all false
set_option maxRecDepth 100000
def bOk:List UInt8:=[111,107]
def bNone:List UInt8:=[110,111,110,101]
def bExists:List UInt8:=[101,120,105,115,116,115]
def bFull:List UInt8:=[102,117,108,108]
noncomputable def comS(s:DtCSet)(m:DtCmd):DtCSet:=if 0≤findN s.fSnaps m.fName then s else if s.fSnaps.length=5 then s else { fName:=s.fName,fSnaps:=s.fSnaps++[{ fName:=m.fName,fTag:=[],fChunks:=m.fChunks }] }
noncomputable def comR(s:DtCSet)(m:DtCmd):List UInt8:=if 0≤findN s.fSnaps m.fName then bExists else if s.fSnaps.length=5 then bFull else bOk
theorem com_e{s:DtCSet}{m:DtCmd}(h:0≤findN s.fSnaps m.fName):comS s m=s∧comR s m=bExists:=by unfold comS comR;rw [if_pos h,if_pos h];exact ⟨rfl,rfl⟩
theorem com_f{s:DtCSet}{m:DtCmd}(h:findN s.fSnaps m.fName<0)(h5:(s.fSnaps.length:Int)=5):comS s m=s∧comR s m=bFull:=by unfold comS comR;rw [if_neg (by omega),if_pos (by omega),if_neg (by omega),if_pos (by omega)];exact ⟨rfl,rfl⟩
theorem com_k{s:DtCSet}{m:DtCmd}(h:findN s.fSnaps m.fName<0)(h5:¬(s.fSnaps.length:Int)=5):comS s m = { fName:=s.fName,fSnaps:=s.fSnaps++[{ fName:=m.fName,fTag:=[],fChunks:=m.fChunks }] }∧comR s m=bOk:=by unfold comS comR;rw [if_neg (by omega),if_neg (by omega),if_neg (by omega),if_neg (by omega)];exact ⟨rfl,rfl⟩
noncomputable def tagS(s:DtCSet)(m:DtCmd):DtCSet:=if h:0≤findN s.fSnaps m.fName∧(findN s.fSnaps m.fName).toNat<s.fSnaps.length then { fName:=s.fName,fSnaps:=s.fSnaps.set (findN s.fSnaps m.fName).toNat { s.fSnaps[(findN s.fSnaps m.fName).toNat]'h.2 with fTag:=m.fTag } } else s
noncomputable def tagR(s:DtCSet)(m:DtCmd):List UInt8:=if 0≤findN s.fSnaps m.fName then bOk else bNone
theorem zql{α:Type}(p:α→Bool)(l:List α)(h:0≤idxZ p l):(idxZ p l).toNat<l.length:=by
 unfold idxZ at h ⊢
 cases hf:l.findIdx? p with
 | none=>rw [hf] at h;simp at h
 | some i =>
  obtain ⟨h1,-⟩:=List.findIdx?_eq_some_iff_getElem.1 hf
  simpa using h1
theorem tag_n{s:DtCSet}{m:DtCmd}(h:findN s.fSnaps m.fName<0):tagS s m=s∧tagR s m=bNone:=by unfold tagS tagR;rw [dif_neg (by omega),if_neg (by omega)];exact ⟨rfl,rfl⟩
theorem tag_k{s:DtCSet}{m:DtCmd}(h:0≤findN s.fSnaps m.fName)(h2:(findN s.fSnaps m.fName).toNat<s.fSnaps.length):tagS s m = { fName:=s.fName,fSnaps:=s.fSnaps.set (findN s.fSnaps m.fName).toNat { s.fSnaps[(findN s.fSnaps m.fName).toNat]'h2 with fTag:=m.fTag } }∧tagR s m=bOk:=by unfold tagS tagR;rw [dif_pos ⟨h,h2⟩,if_pos h];exact ⟨rfl,rfl⟩
theorem zmv{zs:List SetV}{k:Nat}(h:k<zs.length)(y:List AV):((zs.map setV).set k y)[k]? = some y:=by simp [h]
attribute [local simp] DtCmd.cells DtCSet.cells zbo List.set_set List.getD_eq_getElem?_getD
def zG14:=And.intro @zb0 (And.intro @zbr @zby)
theorem commitX(l:List DtCSet)(hl:l.length≤1048576)(k:Nat)(hk:k<l.length)(h5:l[k].fSnaps.length≤5)(m:DtCmd)(hm:m.fChunks.length≤1048576):XCall Tryz.prog 58 [.eptr 8 k 0,.agg (DtCmd.cells m)] [.own 2 (l.map DtCSet.cells)] (.s (comR l[k] m)) [.own 2 ((l.set k (comS l[k] m)).map DtCSet.cells)] []:=by
 refine zbu Tryz.func58 (by rfl) (by rfl) (by rw [Tryz.ntmps58];exact Nat.le_of_ble_eq_true rfl) rfl (by simp) rfl rfl ?_
 rw [Tryz.ntmps58]
 refine zhs (.own 2 (l.map DtCSet.cells)) (by simp [cvO]<;>assumption) ?_
 refine AW_k [(0,_),(1,_)] ⟨rfl,rfl,trivial⟩ ?_
 refine zft 8 901 902 k hk (by simp [zG14]) (by simp [zG14]) (by simp [zG14]) (by decide) (by decide) (by decide) λzs hz=>?_
 have hkz:k<zs.length:=by rw [←hz] at hk;simpa using hk
 have hset:=@zmv zs k hkz
 refine AW_x rfl rfl λK hK=>?_
 simp (disch:=omega) [hset]
 repeat' first|(refine ⟨by omega,?_⟩)|(intro _)
 refine hK _ ?_;clear hK K
 refine zbh ?_
 refine zbj ?_
 refine AW_d rfl mix (by kernel_rfl) (by kernel_rfl) λK hK=>?_
 simp (disch:=omega) [hset]
 repeat' first|(exfalso;omega)|(refine zf2 (λst'=>(zbd (zbz rfl) (zbd zdg zbl))) (snap l[k] m.fName (by omega)) rfl ?_;simp (disch:=omega) [hset])|(refine zf3 (snap l[k] m.fName (by omega)) (by rfl) (λst' hst=>?_) ?_;(focus (simp (disch:=omega) [hset] at hst;simp (disch:=omega) [hset,hst,zbo];done));simp (disch:=omega) [hset])|(refine ⟨by omega,?_⟩)|(simp (disch:=omega) [hset])|(intro _)
 refine hK _ _ (by kernel_rfl) ?_;clear hK K
 refine zbg rfl (λhc1=>?_) (λhc1=>?_)
 ·try simp [zbf,zbn,zbc,zbb] at hc1
  all_goals
   refine zcm 8 901 902 k hz hk l[k].fName l[k].fSnaps (by simp [zG14]) (by simp [zG14]) (by simp [zG14]) (by decide) (by decide) (by decide) ?_
   refine AW_x rfl rfl λK hK=>?_
   simp (disch:=omega) [hset]
   repeat' first|(exfalso;omega)|(refine ⟨λ_=>?_,λ_=>?_⟩)|(refine ⟨by omega,?_⟩)|(simp (disch:=omega) [hset])|(intro _)
   all_goals (refine hK _ ?_;clear hK K)
   all_goals
    refine zbp (zce [] [] (by simp [zG14,List.range_succ]) (by simp) ?_)
    simp (disch:=omega) [hset]
    all_goals first|(have ⟨h1,h2⟩:=com_e hc1;rw [h1,h2];exact ⟨rfl,rfl⟩)|(have ⟨h1,h2⟩:=com_f hc1 hc2;rw [h1,h2];exact ⟨rfl,rfl⟩)|(have ⟨h1,h2⟩:=com_k hc1 hc2;rw [h1,h2];exact ⟨rfl,by simp [DtCSnap.cells]⟩) | trace_state
 try simp [zbf,zbn,zbc,zbb] at hc1
 refine AW_x rfl rfl λK hK=>?_
 simp (disch:=omega) [hset]
 repeat' first|(exfalso;omega)|(refine ⟨λ_=>?_,λ_=>?_⟩)|(refine ⟨by omega,?_⟩)|(simp (disch:=omega) [hset])|(intro _)
 all_goals (refine hK _ ?_;clear hK K)
 all_goals
  refine zbg rfl (λhc2=>?_) (λhc2=>?_)
  ·try simp [zbf,zbn,zbc,zbb] at hc2
   all_goals
    refine zcm 8 901 902 k hz hk l[k].fName l[k].fSnaps (by simp [zG14]) (by simp [zG14]) (by simp [zG14]) (by decide) (by decide) (by decide) ?_
    refine AW_x rfl rfl λK hK=>?_
    simp (disch:=omega) [hset]
    repeat' first|(exfalso;omega)|(refine ⟨λ_=>?_,λ_=>?_⟩)|(refine ⟨by omega,?_⟩)|(simp (disch:=omega) [hset])|(intro _)
    all_goals (refine hK _ ?_;clear hK K)
    all_goals
     refine zbp (zce [] [] (by simp [zG14,List.range_succ]) (by simp) ?_)
     simp (disch:=omega) [hset]
     all_goals first|(have ⟨h1,h2⟩:=com_e hc1;rw [h1,h2];exact ⟨rfl,rfl⟩)|(have ⟨h1,h2⟩:=com_f hc1 hc2;rw [h1,h2];exact ⟨rfl,rfl⟩)|(have ⟨h1,h2⟩:=com_k hc1 hc2;rw [h1,h2];exact ⟨rfl,by simp [DtCSnap.cells]⟩) | trace_state
  try simp [zbf,zbn,zbc,zbb] at hc2
  refine zbi ?_
  refine zbm ?_
  refine AW_d rfl mix (by kernel_rfl) (by kernel_rfl) λK hK=>?_
  simp (disch:=omega) [hset]
  repeat' first|(exfalso;omega)|(refine zmj [] true [] (zn7 m.fChunks (by omega)) ?_ (λst' hst=>?_) ?_;(focus (simp [List.range_succ,nmC];done));(focus (simp (disch:=omega) [hset,nmC,List.range_succ] at hst;simp (disch:=omega) [hset,hst,zbo,nmC,List.range_succ];done));simp (disch:=omega) [hset])|(refine ⟨λ_=>?_,λ_=>?_⟩)|(refine ⟨by omega,?_⟩)|(simp (disch:=omega) [hset])|(intro _)
  all_goals (refine hK _ _ (by kernel_rfl) ?_;clear hK K)
  all_goals
   refine zcm 8 901 528 k hz hk l[k].fName (l[k].fSnaps++[{ fName:=m.fName,fTag:=[],fChunks:=m.fChunks }]) (by simp [zG14]) (by simp [zG14]) (by simp [zG14,DtCSnap.cells]) (by decide) (by decide) (by decide) ?_
   refine AW_x rfl rfl λK hK=>?_
   simp (disch:=omega) [hset]
   repeat' first|(refine ⟨by omega,?_⟩)|(intro _)
   refine hK _ ?_;clear hK K
   refine zbp (zce [] [] (by simp [zG14,List.range_succ]) (by simp) ?_)
   simp (disch:=omega) [hset]
   all_goals first|(have ⟨h1,h2⟩:=com_e hc1;rw [h1,h2];exact ⟨rfl,rfl⟩)|(have ⟨h1,h2⟩:=com_f hc1 hc2;rw [h1,h2];exact ⟨rfl,rfl⟩)|(have ⟨h1,h2⟩:=com_k hc1 hc2;rw [h1,h2];exact ⟨rfl,by simp [DtCSnap.cells]⟩) | trace_state
theorem tagX(l:List DtCSet)(hl:l.length≤1048576)(k:Nat)(hk:k<l.length)(h5:l[k].fSnaps.length≤5)(m:DtCmd)(hm:m.fChunks.length≤1048576):XCall Tryz.prog 59 [.eptr 8 k 0,.agg (DtCmd.cells m)] [.own 2 (l.map DtCSet.cells)] (.s (tagR l[k] m)) [.own 2 ((l.set k (tagS l[k] m)).map DtCSet.cells)] []:=by
 refine zbu Tryz.func59 (by rfl) (by rfl) (by rw [Tryz.ntmps59];exact Nat.le_of_ble_eq_true rfl) rfl (by simp) rfl rfl ?_
 rw [Tryz.ntmps59]
 refine zhs (.own 2 (l.map DtCSet.cells)) (by simp [cvO]<;>assumption) ?_
 refine AW_k [(0,_),(1,_)] ⟨rfl,rfl,trivial⟩ ?_
 refine zft 8 901 902 k hk (by simp [zG14]) (by simp [zG14]) (by simp [zG14]) (by decide) (by decide) (by decide) λzs hz=>?_
 have hkz:k<zs.length:=by rw [←hz] at hk;simpa using hk
 have hset:=@zmv zs k hkz
 refine AW_x rfl rfl λK hK=>?_
 simp (disch:=omega) [hset]
 repeat' first|(refine ⟨by omega,?_⟩)|(intro _)
 refine hK _ ?_;clear hK K
 refine AW_d rfl mix (by kernel_rfl) (by kernel_rfl) λK hK=>?_
 simp (disch:=omega) [hset]
 repeat' first|(exfalso;omega)|(refine zf2 (λst'=>(zbd (zbz rfl) (zbd zdg zbl))) (snap l[k] m.fName (by omega)) rfl ?_;simp (disch:=omega) [hset])|(refine zf3 (snap l[k] m.fName (by omega)) (by rfl) (λst' hst=>?_) ?_;(focus (simp (disch:=omega) [hset] at hst;simp (disch:=omega) [hset,hst,zbo];done));simp (disch:=omega) [hset])|(refine ⟨by omega,?_⟩)|(simp (disch:=omega) [hset])|(intro _)
 refine hK _ _ (by kernel_rfl) ?_;clear hK K
 refine zbh ?_
 refine AW_x rfl rfl λK hK=>?_
 simp (disch:=omega) [hset]
 repeat' first|(refine ⟨by omega,?_⟩)|(intro _)
 refine hK _ ?_;clear hK K
 refine zbg rfl (λhc3=>?_) (λhc3=>?_)
 ·try simp [zbf,zbn,zbc,zbb] at hc3
  all_goals
   refine zcm 8 901 902 k hz hk l[k].fName (l[k].fSnaps) (by simp [zG14]) (by simp [zG14]) (by simp [zG14,DtCSnap.cells]) (by decide) (by decide) (by decide) ?_
   refine AW_x rfl rfl λK hK=>?_
   simp (disch:=omega) [hset]
   repeat' first|(exfalso;omega)|(refine ⟨λ_=>?_,λ_=>?_⟩)|(refine ⟨by omega,?_⟩)|(simp (disch:=omega) [hset])|(intro _)
   all_goals (refine hK _ ?_;clear hK K)
   all_goals
    refine zbp (zce [] [] (by simp [zG14,List.range_succ]) (by simp) ?_)
    simp (disch:=omega) [hset]
    all_goals first|(have ⟨h1,h2⟩:=tag_n hc3;rw [h1,h2];exact ⟨rfl,rfl⟩)|(have ⟨h1,h2⟩:=tag_k hc3 hj;rw [h1,h2];exact ⟨rfl,by simp [DtCSnap.cells]⟩) | trace_state
 try simp [zbf,zbn,zbc,zbb] at hc3
 refine zbi ?_
 refine zbm ?_
 have hj:=zql (λp=>eqB p.fName m.fName) l[k].fSnaps (by have h:=hc3;unfold findN at h;omega)
 change (findN l[k].fSnaps m.fName).toNat<l[k].fSnaps.length at hj
 refine AW_d rfl mix (by kernel_rfl) (by kernel_rfl) λK hK=>?_
 simp (disch:=omega) [hset]
 repeat' first|(exfalso;omega)|(refine ⟨λ_=>?_,λ_=>?_⟩)|(refine ⟨by omega,?_⟩)|(simp (disch:=omega) [hset])|(intro _)
 all_goals (refine hK _ _ (by kernel_rfl) ?_;clear hK K)
 all_goals
  refine zcm 8 901 902 k hz hk l[k].fName (l[k].fSnaps.set (findN l[k].fSnaps m.fName).toNat { l[k].fSnaps[(findN l[k].fSnaps m.fName).toNat] with fTag:=m.fTag }) (by simp [zG14,List.length_set]) (by simp [zG14]) (by simp [zG14,DtCSnap.cells]) (by decide) (by decide) (by decide) ?_
  refine AW_x rfl rfl λK hK=>?_
  simp (disch:=omega) [hset]
  repeat' first|(refine ⟨by omega,?_⟩)|(intro _)
  refine hK _ ?_;clear hK K
  refine zbp (zce [] [] (by simp [zG14,List.range_succ]) (by simp) ?_)
  simp (disch:=omega) [hset]
  all_goals first|(have ⟨h1,h2⟩:=tag_n hc3;rw [h1,h2];exact ⟨rfl,rfl⟩)|(have ⟨h1,h2⟩:=tag_k hc3 hj;rw [h1,h2];exact ⟨rfl,by simp [DtCSnap.cells]⟩) | trace_state
end Go.Proofs.YtodmafgmdlkhoaaGreat.Vs
end
section
namespace Go.Proofs.YtodmafgmdlkhoaaGreat.Vs
set_option linter.all false
set_option maxRecDepth 100000
/-! pruning -/
def bareN:List DtCSnap→Nat
 | []=>0
 | p :: l=>(if p.fTag=[] then 1 else 0)+bareN l
def prn(g:Int):Int→List DtCSnap→List DtCSnap
 | _,[]=>[]
 | s,p :: l=>if p.fTag=[] then (if s<g then prn g (s+1) l else p :: prn g (s+1) l) else p :: prn g s l
theorem zz1(l:List DtCSnap)(p:DtCSnap):bareN (l++[p])=bareN l+(if p.fTag=[] then 1 else 0):=by
 induction l with
 | nil=>simp [bareN]
 | cons q l ih=>simp only [List.cons_append,bareN,ih];omega
theorem zla(l:List DtCSnap):bareN l≤l.length:=by
 induction l with
 | nil=>simp [bareN]
 | cons q l ih=>simp only [bareN,List.length_cons];split<;>omega
theorem zjg(l:List DtCSnap)(i:Nat)(h:i<l.length):bareN (l.take (i+1))=bareN (l.take i)+(if l[i].fTag=[] then 1 else 0):=by
 rw [List.take_succ_eq_append_getElem h,zz1]
theorem zsx(l:List DtCSnap)(i:Nat):bareN (l.take i)≤bareN l:=by
 have:l=l.take i++l.drop i:=(List.take_append_drop i l).symm
 have key:∀a b:List DtCSnap,bareN a≤bareN (a++b):=by
  intro a b
  induction a with
  | nil=>simp [bareN]
  | cons q a ih=>simp only [List.cons_append,bareN];omega
 have h:=key (l.take i) (l.drop i)
 rwa [←this] at h
theorem prn_len(g:Int)(l:List DtCSnap):∀s:Int,(prn g s l).length+(min (bareN l:Int) (max 0 (g-s))).toNat=l.length:=by
 induction l with
 | nil=>intro s;simp [prn,bareN];omega
 | cons q l ih =>
  intro s
  have h1:=ih (s+1)
  have h2:=ih s
  simp only [prn,bareN,List.length_cons]
  by_cases h:q.fTag=[]
  ·simp only [h,if_true]
   by_cases h3:s<g
   ·simp only [h3,if_true];omega
   ·simp only [h3,if_false,List.length_cons];omega
  ·simp only [h,if_false,List.length_cons,Nat.zero_add];omega
/-- How many go. -/
def goneN(l:List DtCSnap)(n:Int):Int:=max 0 ((bareN l:Int)-n)
theorem zqm(g:Int):∀(l:List DtCSnap) (s:Int),(prn g s l).Sublist l
 | [],_=>List.Sublist.refl _
 | p :: l,s=>by
  simp only [prn]
  split
  ·split
   ·exact (zqm g l _).trans (List.sublist_cons_self _ _)
   ·exact (zqm g l _).cons_cons _
  ·exact (zqm g l _).cons_cons _
/-- The same of the trees. -/
def prV(g:Int):Int→List SnapV→List SnapV
 | _,[]=>[]
 | s,p :: l=>if p.1.fTag=[] then (if s<g then prV g (s+1) l else p :: prV g (s+1) l) else p :: prV g s l
theorem zmw(g:Int):∀(l:List SnapV) (s:Int),(prV g s l).map (·.1)=prn g s (l.map (·.1))
 | [],_=>rfl
 | p :: l,s=>by
  simp only [prV,prn,List.map_cons]
  split
  ·split
   ·exact zmw g l _
   ·rw [List.map_cons,zmw g l _]
  ·rw [List.map_cons,zmw g l _]
theorem zhw(g:Int):∀(l:List SnapV) (s:Int),(prV g s l).Sublist l
 | [],_=>List.Sublist.refl _
 | p :: l,s=>by
  simp only [prV]
  split
  ·split
   ·exact (zhw g l _).trans (List.sublist_cons_self _ _)
   ·exact (zhw g l _).cons_cons _
  ·exact (zhw g l _).cons_cons _
theorem prV_snoc(g:Int)(l:List SnapV)(p:SnapV):∀s:Int,prV g s (l++[p])=prV g s l++(if p.1.fTag=[]∧s+bareN (l.map (·.1))<g then [] else [p]):=by
 induction l with
 | nil =>
  intro s
  simp only [List.nil_append,prV,bareN,List.map_nil]
  by_cases h:p.1.fTag=[]<;>by_cases h2:s<g<;>simp [h,h2]
 | cons q l ih =>
  intro s
  simp only [List.cons_append,prV,bareN,List.map_cons]
  by_cases h:q.1.fTag=[]
  ·simp only [h,if_true]
   have e:s+((1+bareN (l.map (·.1)):Nat):Int)=s+1+(bareN (l.map (·.1)):Int):=by omega
   rw [e]
   by_cases h2:s<g
   ·simp only [h2,if_true,ih]
   ·simp only [h2,if_false,ih,List.cons_append]
  ·simp only [h,if_false,ih,List.cons_append,Nat.zero_add]
theorem zxn(g:Int)(l:List SnapV)(i:Nat)(h:i<l.length):prV g 0 (l.take (i+1))=prV g 0 (l.take i)++(if l[i].1.fTag=[]∧(bareN ((l.map (·.1)).take i):Int)<g then [] else [l[i]]):=by
 rw [List.take_succ_eq_append_getElem h,prV_snoc,List.map_take];simp
def dig(n:Int):List UInt8:=[UInt8.ofNat (48+n.toNat)]
end Go.Proofs.YtodmafgmdlkhoaaGreat.Vs
end
section
namespace Go.Proofs.YtodmafgmdlkhoaaGreat.Vs
set_option linter.all false
set_option maxRecDepth 100000
def cB8(n:Int):List AV:=[.g (.int .u8 n)]
theorem zn8:∀ns:List Int,numsOf (ns.map cB8)=some ns
 | []=>rfl
 | n :: ns=>by
  have:=zn8 ns
  simp only [List.map_cons,cB8,numsOf] at this ⊢
  rw [this];rfl
theorem zz2:∀(ns:List Int) (m:Int),numsOf (ns.map cB8++[[.g (.int .u8 m)]])=some (ns++[m]):=by
 intro ns m
 have:=zn8 (ns++[m])
 simpa [cB8] using this
theorem tk1(acc:List Int):List.take acc.length (acc.map cB8)=acc.map cB8:=List.take_of_length_le (by simp)
theorem tk2(acc:List Int)(y:List AV):List.take (acc.length+1) (acc.map cB8++[y])=acc.map cB8++[y]:=List.take_of_length_le (by simp)
theorem wrap8{n:Int}(h0:0≤n)(h1:n<256):IntKind.u8.wrap n=n:=by
 simp [IntKind.wrap,IntKind.bits,IntKind.signed]
 omega
theorem strN_len(ns:List Int):(strN ns).length=ns.length:=by simp [strN]
theorem td10(m:Nat):(m:Int).tdiv 10=((m / 10:Nat):Int):=by rw [Int.tdiv_eq_ediv_of_nonneg (by omega)];rfl
theorem tm10(m:Nat):(m:Int).tmod 10=((m % 10:Nat):Int):=by rw [Int.tmod_eq_emod_of_nonneg (by omega)];rfl
def digN(n:Nat):List UInt8:=[UInt8.ofNat (48+n)]
theorem zqn(n:Nat):strN [(48:Int)+(n:Int)]=digN n:=by
 unfold strN digN
 simp only [List.map_cons,List.map_nil]
 congr 1
def zG15:=And.intro @zcf (And.intro @zfr (And.intro @wrap8 (And.intro @tk1 (And.intro @tk2 (And.intro @zz2 (And.intro @td10 (And.intro @tm10 (And.intro @zqn @strN_len))))))))
theorem specDec(n:Nat)(hn:n<10):PCall Tryz.prog 119 [(.g (.int .i64 ((n:Nat))))] (.s (digN n)):=by
 refine zbq Tryz.func119 (by rfl) (by rfl) (by rw [Tryz.ntmps119];exact Nat.le_of_ble_eq_true rfl) rfl (by decide) ?_
 rw [Tryz.ntmps119]
 refine AW_k [(0,_)] ⟨rfl,trivial⟩ ?_
 refine AW_r rfl rfl λK hK=>?_
 simp (disch:=omega) [zG15,List.getElem?_eq_getElem,aNews,aAppend,aBuildSlice,chunks,numsOf]
 repeat' first|(exfalso;omega)|(refine ⟨λ_=>?_,λ_=>?_⟩)|(refine ⟨by omega,?_⟩)|(intro _)
 all_goals (refine hK _ ?_;clear hK K)
 all_goals
  refine zbh ?_
  refine AW_r rfl rfl λK hK=>?_
  simp (disch:=omega) [zG15,List.getElem?_eq_getElem,aNews,aAppend,aBuildSlice,chunks,numsOf]
  repeat' first|(exfalso;omega)|(refine ⟨λ_=>?_,λ_=>?_⟩)|(refine ⟨by omega,?_⟩)|(intro _)
  all_goals (refine hK _ ?_;clear hK K)
  all_goals
   refine zbg rfl (λhc1=>?_) (λhc1=>?_)
   ·try simp at hc1
    all_goals
     refine AW_r rfl rfl λK hK=>?_
     simp (disch:=omega) [zG15,List.getElem?_eq_getElem,aNews,aAppend,aBuildSlice,chunks,numsOf]
     repeat' first|(exfalso;omega)|(refine ⟨λ_=>?_,λ_=>?_⟩)|(refine ⟨by omega,?_⟩)|(intro _)
     all_goals (refine hK _ ?_;clear hK K)
     all_goals
      refine zbp (zcb ?_)
      simp (disch:=omega) [zG15,List.getElem?_eq_getElem,aNews,aAppend,aBuildSlice,chunks,numsOf]
      all_goals first|(have h0:n=0:=(by omega);subst h0;rfl)|(rcases hv with ⟨h,h2⟩ | ⟨h,h2⟩;exfalso;omega;exact h2.symm)|(rcases hv with ⟨h,h2⟩ | ⟨h,h2⟩;exfalso;omega;exact h2) | trace_state
   ·try simp at hc1
    all_goals
     refine zbi ?_
     refine zbm ?_
     refine AW_r rfl rfl λK hK=>?_
     simp (disch:=omega) [zG15,List.getElem?_eq_getElem,aNews,aAppend,aBuildSlice,chunks,numsOf]
     repeat' first|(exfalso;omega)|(refine ⟨λ_=>?_,λ_=>?_⟩)|(refine ⟨by omega,?_⟩)|(intro _)
     all_goals (refine hK _ ?_;clear hK K)
     all_goals
      refine AW_r rfl rfl λK hK=>?_
      simp (disch:=omega) [zG15,List.getElem?_eq_getElem,aNews,aAppend,aBuildSlice,chunks,numsOf]
      repeat' first|(exfalso;omega)|(refine ⟨λ_=>?_,λ_=>?_⟩)|(refine ⟨by omega,?_⟩)|(intro _)
      all_goals (refine hK _ ?_;clear hK K)
      all_goals
       refine zbh ?_
       refine zbj ?_
       refine zbs (λmM sS=>∃(o:List UInt8) (m:Nat),mM=m+1∧((m=n∧o=[])∨(m=0∧o=digN n))∧sS = { env:=lkE [(0,(.g (.int .i64 ((m:Nat))))),(3,.s o),(4,(.g (.bool (false))))],ob:=lk [] }) ?_ ?_
       ·refine ⟨_,LeS.kr [] [(0,(.g (.int .i64 (((n):Nat))))),(3,.s ([])),(4,(.g (.bool (false))))] [] (by simp [zG14,KpR,renV2,renV,zbk];try simp;try omega) (by simp [zG14,KpOR,renO,renV,zcd];try rfl) (by rfl) (by rfl) (by simp) (by simp) (by rfl) (by simp [forms]),_,[],n,rfl,?_,rfl⟩
        ·simp
       ·rintro mM sS ⟨o,m,rfl,hv,rfl⟩
        refine zbh ?_
        refine AW_r rfl rfl λK hK=>?_
        simp (disch:=omega) [zG15,List.getElem?_eq_getElem,aNews,aAppend,aBuildSlice,chunks,numsOf]
        repeat' first|(exfalso;omega)|(refine ⟨λ_=>?_,λ_=>?_⟩)|(refine ⟨by omega,?_⟩)|(intro _)
        all_goals (refine hK _ ?_;clear hK K)
        all_goals
         refine zbg rfl (λhc2=>?_) (λhc2=>?_)
         ·try simp at hc2
          all_goals
           have hmn:n=m:=by rcases hv with ⟨h,-⟩ | ⟨h,-⟩<;>omega
           have ho:o=[]:=by rcases hv with ⟨-,h⟩ | ⟨h,-⟩;exact h;exfalso;omega
           subst ho
           refine zbi ?_
           refine zbm ?_
           refine zbj ?_
           refine AW_r rfl rfl λK hK=>?_
           simp (disch:=omega) [zG15,List.getElem?_eq_getElem,aNews,aAppend,aBuildSlice,chunks,numsOf]
           repeat' first|(exfalso;omega)|(refine ⟨λ_=>?_,λ_=>?_⟩)|(refine ⟨by omega,?_⟩)|(intro _)
           all_goals (refine hK _ ?_;clear hK K)
           all_goals
            refine zbh ?_
            refine AW_r rfl rfl λK hK=>?_
            simp (disch:=omega) [zG15,List.getElem?_eq_getElem,aNews,aAppend,aBuildSlice,chunks,numsOf]
            repeat' first|(exfalso;omega)|(refine ⟨λ_=>?_,λ_=>?_⟩)|(refine ⟨by omega,?_⟩)|(intro _)
            all_goals (refine hK _ ?_;clear hK K)
            all_goals
             refine zbg rfl (λhc3=>?_) (λhc3=>?_)
             ·try simp at hc3
              all_goals
               refine zcv rfl rfl λK hK=>?_
               simp (disch:=omega) [zG15,List.getElem?_eq_getElem,aNews,aAppend,aBuildSlice,chunks,numsOf]
               repeat' first|(exfalso;omega)|(refine ⟨λ_=>?_,λ_=>?_⟩)|(refine ⟨by omega,?_⟩)|(intro _)
               all_goals (refine hK _ ?_;clear hK K)
               all_goals
                refine zbm ?_
                refine AW_r rfl rfl λK hK=>?_
                simp (disch:=omega) [zG15,List.getElem?_eq_getElem,aNews,aAppend,aBuildSlice,chunks,numsOf]
                repeat' first|(exfalso;omega)|(refine ⟨λ_=>?_,λ_=>?_⟩)|(refine ⟨by omega,?_⟩)|(intro _)
                all_goals (refine hK _ ?_;clear hK K)
                all_goals
                 refine zcv rfl rfl λK hK=>?_
                 simp (disch:=omega) [zG15,List.getElem?_eq_getElem,aNews,aAppend,aBuildSlice,chunks,numsOf]
                 repeat' first|(exfalso;omega)|(refine ⟨λ_=>?_,λ_=>?_⟩)|(refine ⟨by omega,?_⟩)|(intro _)
                 all_goals (refine hK _ ?_;clear hK K)
                 all_goals
                  refine ⟨_,LeS.kr [] [(0,(.g (.int .i64 (((m / 10):Nat))))),(3,.s (digN n)),(4,(.g (.bool (false))))] [] (by simp [zG14,KpR,renV2,renV,zbk];(have e10:(m:Int) % 10=n:=(by omega);simp [e10,zqn];try omega)) (by simp [zG14,KpOR,renO,renV,zcd];try rfl) (by rfl) (by rfl) (by simp) (by simp) (by rfl) (by simp [forms]),_,?_,digN n,m / 10,rfl,?_,rfl⟩
                  ·omega
                  ·right;exact ⟨by omega,rfl⟩
             ·try simp at hc3
              all_goals
               refine zbi ?_
               refine zbm ?_
               refine AW_r rfl rfl λK hK=>?_
               simp (disch:=omega) [zG15,List.getElem?_eq_getElem,aNews,aAppend,aBuildSlice,chunks,numsOf]
               repeat' first|(exfalso;omega)|(refine ⟨λ_=>?_,λ_=>?_⟩)|(refine ⟨by omega,?_⟩)|(intro _)
               all_goals (refine hK _ ?_;clear hK K)
               all_goals
                refine zcv rfl rfl λK hK=>?_
                simp (disch:=omega) [zG15,List.getElem?_eq_getElem,aNews,aAppend,aBuildSlice,chunks,numsOf]
                repeat' first|(exfalso;omega)|(refine ⟨λ_=>?_,λ_=>?_⟩)|(refine ⟨by omega,?_⟩)|(intro _)
                all_goals (refine hK _ ?_;clear hK K)
                all_goals
                 refine ⟨_,LeS.kr [] [(0,(.g (.int .i64 (((m / 10):Nat))))),(3,.s (digN n)),(4,(.g (.bool (false))))] [] (by simp [zG14,KpR,renV2,renV,zbk];(have e10:(m:Int) % 10=n:=(by omega);simp [e10,zqn];try omega)) (by simp [zG14,KpOR,renO,renV,zcd];try rfl) (by rfl) (by rfl) (by simp) (by simp) (by rfl) (by simp [forms]),_,?_,digN n,m / 10,rfl,?_,rfl⟩
                 ·omega
                 ·right;exact ⟨by omega,rfl⟩
         ·try simp at hc2
          all_goals
           refine zbx ?_
           refine zbm ?_
           refine zbh ?_
           refine AW_r rfl rfl λK hK=>?_
           simp (disch:=omega) [zG15,List.getElem?_eq_getElem,aNews,aAppend,aBuildSlice,chunks,numsOf]
           repeat' first|(exfalso;omega)|(refine ⟨λ_=>?_,λ_=>?_⟩)|(refine ⟨by omega,?_⟩)|(intro _)
           all_goals (refine hK _ ?_;clear hK K)
           all_goals
            refine zbg rfl (λhc4=>?_) (λhc4=>?_)
            ·try simp at hc4
             all_goals
              refine AW_r rfl rfl λK hK=>?_
              simp (disch:=omega) [zG15,List.getElem?_eq_getElem,aNews,aAppend,aBuildSlice,chunks,numsOf]
              repeat' first|(exfalso;omega)|(refine ⟨λ_=>?_,λ_=>?_⟩)|(refine ⟨by omega,?_⟩)|(intro _)
              all_goals (refine hK _ ?_;clear hK K)
              all_goals
               refine zbp (zcb ?_)
               simp (disch:=omega) [zG15,List.getElem?_eq_getElem,aNews,aAppend,aBuildSlice,chunks,numsOf]
               all_goals first|(have h0:n=0:=(by omega);subst h0;rfl)|(rcases hv with ⟨h,h2⟩ | ⟨h,h2⟩;exfalso;omega;exact h2.symm)|(rcases hv with ⟨h,h2⟩ | ⟨h,h2⟩;exfalso;omega;exact h2) | trace_state
            ·try simp at hc4
             all_goals
              refine zbi ?_
              refine zbm ?_
              refine AW_r rfl rfl λK hK=>?_
              simp (disch:=omega) [zG15,List.getElem?_eq_getElem,aNews,aAppend,aBuildSlice,chunks,numsOf]
              repeat' first|(exfalso;omega)|(refine ⟨λ_=>?_,λ_=>?_⟩)|(refine ⟨by omega,?_⟩)|(intro _)
              all_goals (refine hK _ ?_;clear hK K)
              all_goals
               refine zbp (zcb ?_)
               simp (disch:=omega) [zG15,List.getElem?_eq_getElem,aNews,aAppend,aBuildSlice,chunks,numsOf]
               all_goals first|(have h0:n=0:=(by omega);subst h0;rfl)|(rcases hv with ⟨h,h2⟩ | ⟨h,h2⟩;exfalso;omega;exact h2.symm)|(rcases hv with ⟨h,h2⟩ | ⟨h,h2⟩;exfalso;omega;exact h2) | trace_state
theorem implDec(n:Nat)(hn:n<10):PCall Tryz.prog 117 [(.g (.int .i64 ((n:Nat))))] (.s (digN n)):=by
 refine zbq Tryz.func117 (by rfl) (by rfl) (by rw [Tryz.ntmps117];exact Nat.le_of_ble_eq_true rfl) rfl (by decide) ?_
 rw [Tryz.ntmps117]
 refine AW_k [(0,_)] ⟨rfl,trivial⟩ ?_
 refine AW_r rfl rfl λK hK=>?_
 simp (disch:=omega) [zG15,List.getElem?_eq_getElem,aNews,aAppend,aBuildSlice,chunks,numsOf]
 repeat' first|(exfalso;omega)|(refine ⟨λ_=>?_,λ_=>?_⟩)|(refine ⟨by omega,?_⟩)|(intro _)
 all_goals (refine hK _ ?_;clear hK K)
 all_goals
  refine zbh ?_
  refine AW_r rfl rfl λK hK=>?_
  simp (disch:=omega) [zG15,List.getElem?_eq_getElem,aNews,aAppend,aBuildSlice,chunks,numsOf]
  repeat' first|(exfalso;omega)|(refine ⟨λ_=>?_,λ_=>?_⟩)|(refine ⟨by omega,?_⟩)|(intro _)
  all_goals (refine hK _ ?_;clear hK K)
  all_goals
   refine zbg rfl (λhc5=>?_) (λhc5=>?_)
   ·try simp at hc5
    all_goals
     refine AW_r rfl rfl λK hK=>?_
     simp (disch:=omega) [zG15,List.getElem?_eq_getElem,aNews,aAppend,aBuildSlice,chunks,numsOf]
     repeat' first|(exfalso;omega)|(refine ⟨λ_=>?_,λ_=>?_⟩)|(refine ⟨by omega,?_⟩)|(intro _)
     all_goals (refine hK _ ?_;clear hK K)
     all_goals
      refine zbp (zcb ?_)
      simp (disch:=omega) [zG15,List.getElem?_eq_getElem,aNews,aAppend,aBuildSlice,chunks,numsOf,cB8]
      all_goals first|(have h0:n=0:=(by omega);subst h0;rfl) | rfl | trace_state
   ·try simp at hc5
    all_goals
     refine zbi ?_
     refine zbm ?_
     refine AW_r rfl rfl λK hK=>?_
     simp (disch:=omega) [zG15,List.getElem?_eq_getElem,aNews,aAppend,aBuildSlice,chunks,numsOf]
     repeat' first|(exfalso;omega)|(refine ⟨λ_=>?_,λ_=>?_⟩)|(refine ⟨by omega,?_⟩)|(intro _)
     all_goals (refine hK _ ?_;clear hK K)
     all_goals
      refine zbh ?_
      refine AW_r rfl rfl λK hK=>?_
      simp (disch:=omega) [zG15,List.getElem?_eq_getElem,aNews,aAppend,aBuildSlice,chunks,numsOf]
      repeat' first|(exfalso;omega)|(refine ⟨λ_=>?_,λ_=>?_⟩)|(refine ⟨by omega,?_⟩)|(intro _)
      all_goals (refine hK _ ?_;clear hK K)
      all_goals
       refine zbj ?_
       refine zbs (λmM sS=>∃(acc:List Int) (m:Nat),mM=m+1∧((m=n∧acc=[])∨(m=0∧acc=[48+(n:Int)]))∧sS = { env:=lkE [(0,(.g (.int .i64 ((n:Nat))))),(3,.arr 176 0 acc.length),(4,(.g (.int .i64 ((m:Nat)))))],ob:=lk [(176,.flat 1 (acc.map cB8))] }) ?_ ?_
       ·refine ⟨_,LeS.kr [(176,176)] [(0,(.g (.int .i64 ((n:Nat))))),(3,.arr 176 0 ([]).length),(4,(.g (.int .i64 (((n):Nat)))))] [(176,.flat 1 (([]).map cB8))] (by simp [zG14,KpR,renV2,renV,zbk,cB8];try simp;try omega) (by simp [zG14,KpOR,renO,renV,zcd,cB8];try (have e10:(m:Int) % 10=n:=(by omega);simp [e10,cB8];try omega)) (by rfl) (by rfl) (by simp) (by simp) (by rfl) (by simp [forms]),_,[],n,rfl,?_,rfl⟩
        ·simp
       ·rintro mM sS ⟨acc,m,rfl,hv,rfl⟩
        have hal:acc.length≤7:=by rcases hv with ⟨-,h⟩ | ⟨-,h⟩<;>simp [h]
        refine zbh ?_
        refine AW_r rfl rfl λK hK=>?_
        simp (disch:=omega) [zG15,List.getElem?_eq_getElem,aNews,aAppend,aBuildSlice,chunks,numsOf]
        repeat' first|(exfalso;omega)|(refine ⟨λ_=>?_,λ_=>?_⟩)|(refine ⟨by omega,?_⟩)|(intro _)
        all_goals (refine hK _ ?_;clear hK K)
        all_goals
         refine zbg rfl (λhc6=>?_) (λhc6=>?_)
         ·try simp at hc6
          all_goals
           have hmn:n=m:=by rcases hv with ⟨h,-⟩ | ⟨h,-⟩<;>omega
           have ho:acc=[]:=by rcases hv with ⟨-,h⟩ | ⟨h,-⟩;exact h;exfalso;omega
           subst ho
           refine zbi ?_
           refine zbm ?_
           refine zbh ?_
           refine zbj ?_
           refine AW_r rfl rfl λK hK=>?_
           simp (disch:=omega) [zG15,List.getElem?_eq_getElem,aNews,aAppend,aBuildSlice,chunks,numsOf]
           repeat' first|(exfalso;omega)|(refine ⟨λ_=>?_,λ_=>?_⟩)|(refine ⟨by omega,?_⟩)|(intro _)
           all_goals (refine hK _ ?_;clear hK K)
           all_goals
            refine zbh ?_
            refine AW_r rfl rfl λK hK=>?_
            simp (disch:=omega) [zG15,List.getElem?_eq_getElem,aNews,aAppend,aBuildSlice,chunks,numsOf]
            repeat' first|(exfalso;omega)|(refine ⟨λ_=>?_,λ_=>?_⟩)|(refine ⟨by omega,?_⟩)|(intro _)
            all_goals (refine hK _ ?_;clear hK K)
            all_goals
             refine zbg rfl (λhc7=>?_) (λhc7=>?_)
             ·try simp at hc7
              all_goals
               refine zcv rfl rfl λK hK=>?_
               simp (disch:=omega) [zG15,List.getElem?_eq_getElem,aNews,aAppend,aBuildSlice,chunks,numsOf]
               repeat' first|(exfalso;omega)|(refine ⟨λ_=>?_,λ_=>?_⟩)|(refine ⟨by omega,?_⟩)|(intro _)
               all_goals (refine hK _ ?_;clear hK K)
               all_goals
                refine zbm ?_
                refine zcv rfl rfl λK hK=>?_
                simp (disch:=omega) [zG15,List.getElem?_eq_getElem,aNews,aAppend,aBuildSlice,chunks,numsOf]
                repeat' first|(exfalso;omega)|(refine ⟨λ_=>?_,λ_=>?_⟩)|(refine ⟨by omega,?_⟩)|(intro _)
                all_goals (refine hK _ ?_;clear hK K)
                all_goals
                 refine zbm ?_
                 refine zcv rfl rfl λK hK=>?_
                 simp (disch:=omega) [zG15,List.getElem?_eq_getElem,aNews,aAppend,aBuildSlice,chunks,numsOf]
                 repeat' first|(exfalso;omega)|(refine ⟨λ_=>?_,λ_=>?_⟩)|(refine ⟨by omega,?_⟩)|(intro _)
                 all_goals (refine hK _ ?_;clear hK K)
                 all_goals
                  refine ⟨_,LeS.kr [(176,448)] [(0,(.g (.int .i64 ((n:Nat))))),(3,.arr 176 0 ([48+(n:Int)]).length),(4,(.g (.int .i64 (((m / 10):Nat)))))] [(176,.flat 1 (([48+(n:Int)]).map cB8))] (by simp [zG14,KpR,renV2,renV,zbk,cB8];try (have e10:(m:Int) % 10=n:=(by omega);simp [e10,cB8];try omega)) (by simp [zG14,KpOR,renO,renV,zcd,cB8];try (have e10:(m:Int) % 10=n:=(by omega);simp [e10,cB8];try omega)) (by rfl) (by rfl) (by simp) (by simp) (by rfl) (by simp [forms]),_,?_,[48+(n:Int)],m / 10,rfl,?_,rfl⟩
                  ·omega
                  ·right;exact ⟨by omega,rfl⟩
             ·try simp at hc7
              all_goals
               refine zbi ?_
               refine zbm ?_
               refine zcv rfl rfl λK hK=>?_
               simp (disch:=omega) [zG15,List.getElem?_eq_getElem,aNews,aAppend,aBuildSlice,chunks,numsOf]
               repeat' first|(exfalso;omega)|(refine ⟨λ_=>?_,λ_=>?_⟩)|(refine ⟨by omega,?_⟩)|(intro _)
               all_goals (refine hK _ ?_;clear hK K)
               all_goals
                refine zbm ?_
                refine zcv rfl rfl λK hK=>?_
                simp (disch:=omega) [zG15,List.getElem?_eq_getElem,aNews,aAppend,aBuildSlice,chunks,numsOf]
                repeat' first|(exfalso;omega)|(refine ⟨λ_=>?_,λ_=>?_⟩)|(refine ⟨by omega,?_⟩)|(intro _)
                all_goals (refine hK _ ?_;clear hK K)
                all_goals
                 refine ⟨_,LeS.kr [(176,448)] [(0,(.g (.int .i64 ((n:Nat))))),(3,.arr 176 0 ([48+(n:Int)]).length),(4,(.g (.int .i64 (((m / 10):Nat)))))] [(176,.flat 1 (([48+(n:Int)]).map cB8))] (by simp [zG14,KpR,renV2,renV,zbk,cB8];try (have e10:(m:Int) % 10=n:=(by omega);simp [e10,cB8];try omega)) (by simp [zG14,KpOR,renO,renV,zcd,cB8];try (have e10:(m:Int) % 10=n:=(by omega);simp [e10,cB8];try omega)) (by rfl) (by rfl) (by simp) (by simp) (by rfl) (by simp [forms]),_,?_,[48+(n:Int)],m / 10,rfl,?_,rfl⟩
                 ·omega
                 ·right;exact ⟨by omega,rfl⟩
         ·try simp at hc6
          all_goals
           have hm0:m=0:=by omega
           have hacc:acc=[48+(n:Int)]:=by rcases hv with ⟨h,-⟩ | ⟨-,h⟩;exfalso;omega;exact h
           subst hacc
           refine zbx ?_
           refine zbm ?_
           refine zbh ?_
           refine AW_r rfl rfl λK hK=>?_
           simp (disch:=omega) [zG15,List.getElem?_eq_getElem,aNews,aAppend,aBuildSlice,chunks,numsOf]
           repeat' first|(exfalso;omega)|(refine ⟨λ_=>?_,λ_=>?_⟩)|(refine ⟨by omega,?_⟩)|(intro _)
           all_goals (refine hK _ ?_;clear hK K)
           all_goals
            refine zbg rfl (λhc8=>?_) (λhc8=>?_)
            ·try simp at hc8
             all_goals
              refine zcv rfl rfl λK hK=>?_
              simp (disch:=omega) [zG15,List.getElem?_eq_getElem,aNews,aAppend,aBuildSlice,chunks,numsOf]
              repeat' first|(exfalso;omega)|(refine ⟨λ_=>?_,λ_=>?_⟩)|(refine ⟨by omega,?_⟩)|(intro _)
              all_goals (refine hK _ ?_;clear hK K)
              all_goals
               refine zbm ?_
               refine zbh ?_
               refine AW_r rfl rfl λK hK=>?_
               simp (disch:=omega) [zG15,List.getElem?_eq_getElem,aNews,aAppend,aBuildSlice,chunks,numsOf]
               repeat' first|(exfalso;omega)|(refine ⟨λ_=>?_,λ_=>?_⟩)|(refine ⟨by omega,?_⟩)|(intro _)
               all_goals (refine hK _ ?_;clear hK K)
               all_goals
                refine zbj ?_
                refine zbs (λmM sS=>∃(x:Int),mM=1∧(x=0)∧sS = { env:=lkE [(3,.arr 176 0 1),(6,(.g (.int .i64 (x)))),(7,(.g (.int .i64 (0))))],ob:=lk [(176,.flat 1 [cB8 (48+(n:Int))])] }) ?_ ?_
                ·refine ⟨_,LeS.kr [(176,176)] [(3,.arr 176 0 1),(6,(.g (.int .i64 ((0))))),(7,(.g (.int .i64 (0))))] [(176,.flat 1 [cB8 (48+(n:Int))])] (by simp [zG14,KpR,renV2,renV,zbk,cB8];try rfl) (by simp [zG14,KpOR,renO,renV,zcd,cB8];try rfl) (by rfl) (by rfl) (by simp) (by simp) (by rfl) (by simp [forms]),_,0,rfl,?_,rfl⟩
                 ·simp
                ·rintro mM sS ⟨x,rfl,hx,rfl⟩
                 subst hx
                 refine zbh ?_
                 refine AW_r rfl rfl λK hK=>?_
                 simp (disch:=omega) [zG15,List.getElem?_eq_getElem,aNews,aAppend,aBuildSlice,chunks,numsOf]
                 repeat' first|(exfalso;omega)|(refine ⟨λ_=>?_,λ_=>?_⟩)|(refine ⟨by omega,?_⟩)|(intro _)
                 all_goals (refine hK _ ?_;clear hK K)
                 all_goals
                  refine zbg rfl (λhc9=>?_) (λhc9=>?_)
                  ·try simp at hc9
                   all_goals
                    refine zbi ?_
                    refine zbm ?_
                    refine zbh ?_
                    refine zbj ?_
                    refine zzh rfl mix (by kernel_rfl) rfl λK hK=>?_
                    simp (disch:=omega) [zG15,List.getElem?_eq_getElem,aNews,aAppend,aBuildSlice,chunks,numsOf]
                    repeat' first|(exfalso;omega)|(refine ⟨λ_=>?_,λ_=>?_⟩)|(refine ⟨by omega,?_⟩)|(intro _)
                    all_goals (refine hK _ ?_;clear hK K)
                    all_goals
                     refine zbm ?_
                     refine zcv rfl rfl λK hK=>?_
                     simp (disch:=omega) [zG15,List.getElem?_eq_getElem,aNews,aAppend,aBuildSlice,chunks,numsOf]
                     repeat' first|(exfalso;omega)|(refine ⟨λ_=>?_,λ_=>?_⟩)|(refine ⟨by omega,?_⟩)|(intro _)
                     all_goals (refine hK _ ?_;clear hK K)
                     all_goals
                      refine ⟨_,LeS.kr [(176,176)] [(3,.arr 176 0 1),(6,(.g (.int .i64 ((0))))),(7,(.g (.int .i64 (0))))] [(176,.flat 1 [cB8 (48+(n:Int))])] (by simp [zG14,KpR,renV2,renV,zbk,cB8];try rfl) (by simp [zG14,KpOR,renO,renV,zcd,cB8];try rfl) (by rfl) (by rfl) (by simp) (by simp) (by rfl) (by simp [forms]),_,?_,0,rfl,?_,rfl⟩
                      ·omega
                      ·omega
                  ·try simp at hc9
                   all_goals
                    refine zbx ?_
                    refine zbm ?_
                    refine AW_r rfl rfl λK hK=>?_
                    simp (disch:=omega) [zG15,List.getElem?_eq_getElem,aNews,aAppend,aBuildSlice,chunks,numsOf]
                    repeat' first|(exfalso;omega)|(refine ⟨λ_=>?_,λ_=>?_⟩)|(refine ⟨by omega,?_⟩)|(intro _)
                    all_goals (refine hK _ ?_;clear hK K)
                    all_goals
                     refine zbp (zcb ?_)
                     simp (disch:=omega) [zG15,List.getElem?_eq_getElem,aNews,aAppend,aBuildSlice,chunks,numsOf,cB8]
                     all_goals first|(have h0:n=0:=(by omega);subst h0;rfl) | rfl | trace_state
            ·try simp at hc8
             all_goals
              refine zbi ?_
              refine zbm ?_
              refine zbh ?_
              refine AW_r rfl rfl λK hK=>?_
              simp (disch:=omega) [zG15,List.getElem?_eq_getElem,aNews,aAppend,aBuildSlice,chunks,numsOf]
              repeat' first|(exfalso;omega)|(refine ⟨λ_=>?_,λ_=>?_⟩)|(refine ⟨by omega,?_⟩)|(intro _)
              all_goals (refine hK _ ?_;clear hK K)
              all_goals
               refine zbj ?_
               refine zbs (λmM sS=>∃(x:Int),mM=1∧(x=0)∧sS = { env:=lkE [(3,.arr 176 0 1),(6,(.g (.int .i64 (x)))),(7,(.g (.int .i64 (0))))],ob:=lk [(176,.flat 1 [cB8 (48+(n:Int))])] }) ?_ ?_
               ·refine ⟨_,LeS.kr [(176,176)] [(3,.arr 176 0 1),(6,(.g (.int .i64 ((0))))),(7,(.g (.int .i64 (0))))] [(176,.flat 1 [cB8 (48+(n:Int))])] (by simp [zG14,KpR,renV2,renV,zbk,cB8];try rfl) (by simp [zG14,KpOR,renO,renV,zcd,cB8];try rfl) (by rfl) (by rfl) (by simp) (by simp) (by rfl) (by simp [forms]),_,0,rfl,?_,rfl⟩
                ·simp
               ·rintro mM sS ⟨x,rfl,hx,rfl⟩
                subst hx
                refine zbh ?_
                refine AW_r rfl rfl λK hK=>?_
                simp (disch:=omega) [zG15,List.getElem?_eq_getElem,aNews,aAppend,aBuildSlice,chunks,numsOf]
                repeat' first|(exfalso;omega)|(refine ⟨λ_=>?_,λ_=>?_⟩)|(refine ⟨by omega,?_⟩)|(intro _)
                all_goals (refine hK _ ?_;clear hK K)
                all_goals
                 refine zbg rfl (λhc10=>?_) (λhc10=>?_)
                 ·try simp at hc10
                  all_goals
                   refine zbi ?_
                   refine zbm ?_
                   refine zbh ?_
                   refine zbj ?_
                   refine zzh rfl mix (by kernel_rfl) rfl λK hK=>?_
                   simp (disch:=omega) [zG15,List.getElem?_eq_getElem,aNews,aAppend,aBuildSlice,chunks,numsOf]
                   repeat' first|(exfalso;omega)|(refine ⟨λ_=>?_,λ_=>?_⟩)|(refine ⟨by omega,?_⟩)|(intro _)
                   all_goals (refine hK _ ?_;clear hK K)
                   all_goals
                    refine zbm ?_
                    refine zcv rfl rfl λK hK=>?_
                    simp (disch:=omega) [zG15,List.getElem?_eq_getElem,aNews,aAppend,aBuildSlice,chunks,numsOf]
                    repeat' first|(exfalso;omega)|(refine ⟨λ_=>?_,λ_=>?_⟩)|(refine ⟨by omega,?_⟩)|(intro _)
                    all_goals (refine hK _ ?_;clear hK K)
                    all_goals
                     refine ⟨_,LeS.kr [(176,176)] [(3,.arr 176 0 1),(6,(.g (.int .i64 ((0))))),(7,(.g (.int .i64 (0))))] [(176,.flat 1 [cB8 (48+(n:Int))])] (by simp [zG14,KpR,renV2,renV,zbk,cB8];try rfl) (by simp [zG14,KpOR,renO,renV,zcd,cB8];try rfl) (by rfl) (by rfl) (by simp) (by simp) (by rfl) (by simp [forms]),_,?_,0,rfl,?_,rfl⟩
                     ·omega
                     ·omega
                 ·try simp at hc10
                  all_goals
                   refine zbx ?_
                   refine zbm ?_
                   refine AW_r rfl rfl λK hK=>?_
                   simp (disch:=omega) [zG15,List.getElem?_eq_getElem,aNews,aAppend,aBuildSlice,chunks,numsOf]
                   repeat' first|(exfalso;omega)|(refine ⟨λ_=>?_,λ_=>?_⟩)|(refine ⟨by omega,?_⟩)|(intro _)
                   all_goals (refine hK _ ?_;clear hK K)
                   all_goals
                    refine zbp (zcb ?_)
                    simp (disch:=omega) [zG15,List.getElem?_eq_getElem,aNews,aAppend,aBuildSlice,chunks,numsOf,cB8]
                    all_goals first|(have h0:n=0:=(by omega);subst h0;rfl) | rfl | trace_state
end Go.Proofs.YtodmafgmdlkhoaaGreat.Vs
end
