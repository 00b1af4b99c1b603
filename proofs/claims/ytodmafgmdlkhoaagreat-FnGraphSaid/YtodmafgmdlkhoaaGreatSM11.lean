import Derived.Test.YtodmafgmdlkhoaaGreatSM10
import Derived.Test.YtodmafgmdlkhoaaGreatSM7
import Derived.Test.YtodmafgmdlkhoaaGreatSM5
section
open Go Go.Proofs Go.Proofs.YtodmafgmdlkhoaaGreat.Vs
namespace Go.Proofs.YtodmafgmdlkhoaaGreat.Vs
set_option linter.all false
set_option linter.unusedSimpArgs false
set_option linter.unusedVariables false
set_option maxRecDepth 100000
set_option maxHeartbeats 2000000
section
variable {P:Program}{rest:List CO}{st:St}{dst:Option Nat}{f:FuncId}{l:List Int}{actual args:List AV}{r:AV}{es:ES}{K':St→ES→Prop}
theorem DKd_cur1{n:Nat}{c c':Cur}{sz:Nat}{xs:List (List AV)}(ha:∀s:St,ax2s false s [n] [] actual args)(hX:XCall P f args [.cells (curC l c)] r [.cells (curC l c')] [.own sz xs])(ho:st.ob n=some (.cells (curC l c)))(hr:rkT false r=true)(hnm:st.ob (nmC dst)=none)
 (hk:dreg P rest (putC st dst (rnT (rhoX [n] (nmC dst)) r) [(n,.cells (curC l c')),(nmC dst,.own sz xs)]) (es++[([n,nmC dst],[n,nmC dst])]) K'):DKd P rest K' st es dst f actual:=by
 have hne:n≠nmC dst:=by rintro rfl;rw [hnm] at ho;cases ho
 refine DKd_x [n] false [] [n,nmC dst] hX ⟨by simp,by simpa [nmC] using hne,hr,rfl⟩ (λst' h=>⟨by simp,?_,ha _,?_⟩) hk
 ·intro k hk2
  have:k=0:=by simpa using hk2
  subst this
  exact (h (nmC dst) (by simp)).trans hnm
 ·rw [zjd,zkz]
  exact ⟨⟨_,(h n (by simp)).trans ho,by rw [zng];trivial⟩,trivial⟩
end
theorem ztx{st:St}{cs:List AV}(h:st.ob 8=some (.cells cs)):FrzOk (formsX 1++formsX 1) st :=
 ⟨.inr (by decide),λm hm=>by
  have:m=8:=by simpa [formsX,List.range_succ] using hm
  subst this;exact ⟨_,h⟩⟩
def cP3(l:List Int)(c2:Cur):Cur:=belowS l 3 (belowS l 3 c2)
def idA(l:List Int)(c2:Cur):DtId:=⟨below l 3 c2,1+below l 3 (belowS l 3 c2)⟩
def xA(l:List Int)(c2:Cur)(s:Int):DtInst:=⟨idA l c2,3,3,s,(S6 l (cP3 l c2)).x,1+below l 5 (S6 l (cP3 l c2)).c,[],false⟩
theorem immI(ls:List DtInst):immR (ls.map DtInst.cells)=true:=zjq _ (λ_=>rfl) ls
theorem zzs(ls:List DtInst)(i:Nat)(h:i<ls.length)(ds:List DtId):immR ((ls.map DtInst.cells).set i (DtInst.cells (setDeps ls[i] ds)))=true:=by
 rw [←List.map_set];exact immI _
attribute [local simp] cmdO instO immI
def GraphE(l:List Int)(r:AV)(wos' fos:List OB):Prop:=∃(ls:List DtInst) (c':Cur),ls.length≤10∧(∀x∈ls,InstD x)∧r=.sl 16 (ls.map DtInst.cells)∧wos'=[.cells (curC l c')]∧fos=[]
def zG38:=And.intro @zb4 (And.intro @gE (And.intro @tP (And.intro @zbh (And.intro @zbv (And.intro @and_assoc (And.intro @zbb @zbf))))))
def zG39:=And.intro @zbt (And.intro @zbp @zb0)
def zG40:=And.intro @List.range_succ (And.intro @zbp @zb0)
def zG41:=And.intro @zbb @zbf
theorem l12Insts(l:List Int)(hl:Code l)(c:Cur):XCallE Tryz.prog 32 [.ptr 8 0] [.cells (curC l c)] 0 (GraphE l):=by
 refine zm7 Tryz.func32 (by rfl) (by rfl) (by rw [Tryz.ntmps32];exact Nat.le_of_ble_eq_true rfl) (by simp) rfl rfl ?_
 rw [Tryz.ntmps32]
 refine AW_y1 (.cells (curC l c)) (by simp [cvO]<;>assumption) ?_
 refine AW_k [(0,_)] ⟨rfl,trivial⟩ ?_
 refine AW_x rfl rfl λK hK=>?_
 simp (disch:=omega) [zG38,cI,cS,cU,DtId.cells,DtCmd.cells,DtInst.cells,cmdO,instO,setDeps,List.range_succ,zcd,zbs]
 repeat' first|(refine ⟨by omega,?_⟩)|(intro _)
 refine hK _ ?_;clear hK K
 refine AW_x rfl rfl λK hK=>?_
 simp (disch:=omega) [zG38,cI,cS,cU,DtId.cells,DtCmd.cells,DtInst.cells,cmdO,instO,setDeps,List.range_succ,zcd,zbs]
 repeat' first|(refine ⟨by omega,?_⟩)|(simp (disch:=omega) [zG38,cI,cS,cU,DtId.cells,DtCmd.cells,DtInst.cells,cmdO,instO,setDeps,List.range_succ,zcd,zbs])|(intro _)
 refine hK _ ?_;clear hK K
 refine zbj ?_
 refine AW_x rfl rfl λK hK=>?_
 simp (disch:=omega) [zG38,cI,cS,cU,DtId.cells,DtCmd.cells,DtInst.cells,cmdO,instO,setDeps,List.range_succ,zcd,zbs]
 repeat' first|(exfalso;omega)|(refine zci (λ_=>xs_p (xs_g xs_z)) (zc7 l hl _ _) rfl rfl ?_;simp (disch:=omega) [zG38,cI,cS,cU,DtId.cells,DtCmd.cells,DtInst.cells,cmdO,instO,setDeps,List.range_succ,zcd,zbs])|(refine ⟨by omega,?_⟩)|(simp (disch:=omega) [zG38,cI,cS,cU,DtId.cells,DtCmd.cells,DtInst.cells,cmdO,instO,setDeps,List.range_succ,zcd,zbs])|(intro _)
 refine hK _ ?_;clear hK K
 refine zbl ?_
 have hb7:=zcv l 7 c
 refine zby (λmM sS=>∃(n:Nat) (ls:List DtInst) (c2:Cur),mM=2*n∧(n+ls.length≤6∧∀x∈ls,InstL x)∧sS = { env:=lkE [(0,.ptr 8 0),(3,.arr 501 0 ls.length),(4,(.g (.int .i64 ((n:Nat)))))],ob:=lk [(8,.cells (curC l c2)),(501,.own 16 (ls.map DtInst.cells))] }) ?_ ?_
 ·refine ⟨_,LeS.kx [(8,8),(501,224)] [(0,.ptr 8 0),(3,.arr 501 0 ([]).length),(4,(.g (.int .i64 ((((below l 7 c).toNat):Nat)))))] [(8,.cells (curC l (belowS l 7 c))),(501,.own 16 (([]).map DtInst.cells))] (by simp [zG39,KpR,renV2,renV,zbk,curC,zfx];try (first | with_reducible rfl | omega)) (by simp [zG39,KpOX,renO,plO,cvO,renV,pl1,curC,zfx];try rfl) (by rfl) (by simp) (by simp) (by rfl) (by simp [zG40,formsX]),_,(below l 7 c).toNat,[],belowS l 7 c,rfl,?_,rfl⟩
  ·exact ⟨by simp;omega,by simp⟩
 ·rintro mM sS ⟨n,ls,c2,rfl,⟨hnl,hd⟩,rfl⟩
  refine zbj ?_
  refine AW_x rfl rfl λK hK=>?_
  simp (disch:=omega) [zG38,cI,cS,cU,DtId.cells,DtCmd.cells,DtInst.cells,cmdO,instO,setDeps,List.range_succ,zcd,zbs]
  repeat' first|(refine ⟨by omega,?_⟩)|(intro _)
  refine hK _ ?_;clear hK K
  refine zbm rfl (λhc1=>?_) (λhc1=>?_)
  ·try simp [zG41,zbe,zbd] at hc1
   all_goals
    have hb3:=zcv l 3 (belowS l 3 c2)
    have hb5:=zcv l 5 (S6 l (belowS l 3 (belowS l 3 c2))).c
    refine zbn ?_
    refine zbq ?_
    refine zbj ?_
    refine zbl ?_
    refine AW_x rfl rfl λK hK=>?_
    simp (disch:=omega) [zG38,cI,cS,cU,DtId.cells,DtCmd.cells,DtInst.cells,cmdO,instO,setDeps,List.range_succ,zcd,zbs]
    repeat' first|(exfalso;omega)|(refine zci (λ_=>xs_p (xs_g xs_z)) (zc7 l hl _ _) rfl rfl ?_;simp (disch:=omega) [zG38,cI,cS,cU,DtId.cells,DtCmd.cells,DtInst.cells,cmdO,instO,setDeps,List.range_succ,zcd,zbs])|(refine ⟨λ_=>?_,λ_=>?_⟩)|(refine ⟨by omega,?_⟩)|(simp (disch:=omega) [zG38,cI,cS,cU,DtId.cells,DtCmd.cells,DtInst.cells,cmdO,instO,setDeps,List.range_succ,zcd,zbs])|(intro _)
    all_goals (refine hK _ ?_;clear hK K)
    all_goals
     refine AW_d rfl mix (by kernel_rfl) (by kernel_rfl) λK hK=>?_
     simp (disch:=omega) [zG38,cI,cS,cU,DtId.cells,DtCmd.cells,DtInst.cells,cmdO,instO,setDeps,List.range_succ,zcd,zbs]
     repeat' first|(exfalso;omega)|(refine DKd_cur1 (λ_=>xs_p xs_z) (l4Right l hl _) rfl rfl (by simp [zG39,nmC,updL]) ?_;simp (disch:=omega) [zG38,cI,cS,cU,DtId.cells,DtCmd.cells,DtInst.cells,cmdO,instO,setDeps,List.range_succ,zcd,zbs])|(refine zq7 (λ_=>xs_p (xs_g xs_z)) (zc7 l hl _ _) rfl rfl ?_;simp (disch:=omega) [zG38,cI,cS,cU,DtId.cells,DtCmd.cells,DtInst.cells,cmdO,instO,setDeps,List.range_succ,zcd,zbs])|(refine ⟨by omega,?_⟩)|(simp (disch:=omega) [zG38,cI,cS,cU,DtId.cells,DtCmd.cells,DtInst.cells,cmdO,instO,setDeps,List.range_succ,zcd,zbs])|(intro _)
     refine hK _ _ (by kernel_rfl) ?_;clear hK K
     refine zfk (λsS=>∃(x:DtInst) (c3:Cur),(CmdD x.fCmd∧x.fDeps=[])∧sS = { env:=lkE [(0,.ptr 8 0),(3,.arr 501 0 ls.length),(4,(.g (.int .i64 ((n:Nat))))),(5,.ptr 96 0),(6,.ptr 112 0)],ob:=lk [(8,.cells (curC l c3)),(501,.own 16 (ls.map DtInst.cells)),(96,.cells (DtId.cells (idA l c2))),(112,.cells (instO x 502 503)),(502,.own 1 (x.fCmd.fChunks.map cS)),(503,.own 2 (x.fDeps.map DtId.cells))] }) ?_ ?_
     ·skip
      refine AW_x rfl rfl λK hK=>?_
      simp (disch:=omega) [zG38,cI,cS,cU,DtId.cells,DtCmd.cells,DtInst.cells,cmdO,instO,setDeps,List.range_succ,zcd,zbs]
      repeat' first|(exfalso;omega)|(refine zci (λ_=>xs_p (xs_g xs_z)) (zkc l hl _ _) rfl rfl ?_;simp (disch:=omega) [zG38,cI,cS,cU,DtId.cells,DtCmd.cells,DtInst.cells,cmdO,instO,setDeps,List.range_succ,zcd,zbs])|(refine ⟨by omega,?_⟩)|(simp (disch:=omega) [zG38,cI,cS,cU,DtId.cells,DtCmd.cells,DtInst.cells,cmdO,instO,setDeps,List.range_succ,zcd,zbs])|(intro _)
      refine hK _ ?_;clear hK K
      refine zbm rfl (λhc2=>?_) (λhc2=>?_)
      ·try simp [zG41,zbe,zbd] at hc2
       all_goals
        refine zcc rfl rfl λK hK=>?_
        simp (disch:=omega) [zG38,cI,cS,cU,DtId.cells,DtCmd.cells,DtInst.cells,cmdO,instO,setDeps,List.range_succ,zcd,zbs]
        repeat' first|(exfalso;omega)|(refine ⟨λ_=>?_,λ_=>?_⟩)|(refine ⟨by omega,?_⟩)|(simp (disch:=omega) [zG38,cI,cS,cU,DtId.cells,DtCmd.cells,DtInst.cells,cmdO,instO,setDeps,List.range_succ,zcd,zbs])|(intro _)
        all_goals (refine hK _ ?_;clear hK K)
        all_goals
         refine ⟨_,LeS.trans (LeS.znc (cs:=[(.g (.int .i64 (below l 3 c2))),(.g (.int .i64 (1+below l 3 (belowS l 3 c2)))),(.g (.int .i64 (3))),(.g (.int .i64 (3))),(.g (.int .i64 (1))),(.g (.int .i64 ((S6 l (cP3 l c2)).x.fKind))),(.g (.int .i64 ((S6 l (cP3 l c2)).x.fClient))),(.g (.int .i64 ((S6 l (cP3 l c2)).x.fNo))),.s (S6 l (cP3 l c2)).x.fSet,.s (S6 l (cP3 l c2)).x.fName,.s (S6 l (cP3 l c2)).x.fTag,(.g (.int .i64 ((S6 l (cP3 l c2)).x.fN))),.arr 464 0 (S6 l (cP3 l c2)).x.fChunks.length,(.g (.int .i64 (1+below l 5 (S6 l (cP3 l c2)).c))),.g (.slice none 0 0),(.g (.bool (false)))]) 503 2 112 14 (by simp [zG39,zbk]) (by simp [zG39,zbk,curC,instO,cmdO,xA,idA,cP3,DtId.cells]) (by rfl)) (LeS.kx [(8,8),(501,501),(96,96),(112,112),(502,464),(503,503)] [(0,.ptr 8 0),(3,.arr 501 0 ls.length),(4,(.g (.int .i64 ((n:Nat))))),(5,.ptr 96 0),(6,.ptr 112 0)] [(8,.cells (curC l (belowS l 8 (belowS l 5 (S6 l (cP3 l c2)).c)))),(501,.own 16 (ls.map DtInst.cells)),(96,.cells (DtId.cells (idA l c2))),(112,.cells (instO (xA l c2 1) 502 503)),(502,.own 1 ((xA l c2 1).fCmd.fChunks.map cS)),(503,.own 2 ((xA l c2 1).fDeps.map DtId.cells))] (by simp [zG39,KpR,renV2,renV,zbk,curC,instO,cmdO,xA,idA,cP3,DtId.cells];try (first | with_reducible rfl | omega)) (by simp [zG39,KpOX,renO,plO,cvO,renV,pl1,curC,instO,cmdO,xA,idA,cP3,DtId.cells];try rfl) (by rfl) (by simp) (by simp) (by rfl) (by simp [zG40,formsX])),xA l c2 1,belowS l 8 (belowS l 5 (S6 l (cP3 l c2)).c),?_,rfl⟩
         ·exact ⟨(S_bd l _).1,rfl⟩
      ·try simp [zG41,zbe,zbd] at hc2
       all_goals
        refine zbn ?_
        refine ⟨_,LeS.trans (LeS.znc (cs:=[(.g (.int .i64 (below l 3 c2))),(.g (.int .i64 (1+below l 3 (belowS l 3 c2)))),(.g (.int .i64 (3))),(.g (.int .i64 (3))),(.g (.int .i64 (3))),(.g (.int .i64 ((S6 l (cP3 l c2)).x.fKind))),(.g (.int .i64 ((S6 l (cP3 l c2)).x.fClient))),(.g (.int .i64 ((S6 l (cP3 l c2)).x.fNo))),.s (S6 l (cP3 l c2)).x.fSet,.s (S6 l (cP3 l c2)).x.fName,.s (S6 l (cP3 l c2)).x.fTag,(.g (.int .i64 ((S6 l (cP3 l c2)).x.fN))),.arr 464 0 (S6 l (cP3 l c2)).x.fChunks.length,(.g (.int .i64 (1+below l 5 (S6 l (cP3 l c2)).c))),.g (.slice none 0 0),(.g (.bool (false)))]) 503 2 112 14 (by simp [zG39,zbk]) (by simp [zG39,zbk,curC,instO,cmdO,xA,idA,cP3,DtId.cells]) (by rfl)) (LeS.kx [(8,8),(501,501),(96,96),(112,112),(502,464),(503,503)] [(0,.ptr 8 0),(3,.arr 501 0 ls.length),(4,(.g (.int .i64 ((n:Nat))))),(5,.ptr 96 0),(6,.ptr 112 0)] [(8,.cells (curC l (belowS l 8 (belowS l 5 (S6 l (cP3 l c2)).c)))),(501,.own 16 (ls.map DtInst.cells)),(96,.cells (DtId.cells (idA l c2))),(112,.cells (instO (xA l c2 3) 502 503)),(502,.own 1 ((xA l c2 3).fCmd.fChunks.map cS)),(503,.own 2 ((xA l c2 3).fDeps.map DtId.cells))] (by simp [zG39,KpR,renV2,renV,zbk,curC,instO,cmdO,xA,idA,cP3,DtId.cells];try (first | with_reducible rfl | omega)) (by simp [zG39,KpOX,renO,plO,cvO,renV,pl1,curC,instO,cmdO,xA,idA,cP3,DtId.cells];try rfl) (by rfl) (by simp) (by simp) (by rfl) (by simp [zG40,formsX])),xA l c2 3,belowS l 8 (belowS l 5 (S6 l (cP3 l c2)).c),?_,rfl⟩
        ·exact ⟨(S_bd l _).1,rfl⟩
     ·rintro sS ⟨x,c3,hx,rfl⟩
      refine zbj ?_
      refine AW_x rfl rfl λK hK=>?_
      simp (disch:=omega) [zG38,cI,cS,cU,DtId.cells,DtCmd.cells,DtInst.cells,cmdO,instO,setDeps,List.range_succ,zcd,zbs]
      repeat' first|(exfalso;omega)|(refine ⟨λ_=>?_,λ_=>?_⟩)|(refine ⟨by omega,?_⟩)|(simp (disch:=omega) [zG38,cI,cS,cU,DtId.cells,DtCmd.cells,DtInst.cells,cmdO,instO,setDeps,List.range_succ,zcd,zbs])|(intro _)
      all_goals (refine hK _ ?_;clear hK K)
      all_goals
       refine zbl ?_
       have hxd:=hx.2
       refine zby (λmM sS=>∃(r:Nat) (ds:List DtId) (c4:Cur),mM=3-r∧(r≤3∧ds.length≤3*r)∧sS = { env:=lkE [(0,.ptr 8 0),(3,.arr 501 0 ls.length),(4,(.g (.int .i64 ((n:Nat))))),(5,.ptr 96 0),(6,.ptr 112 0),(7,(.g (.int .i64 ((r:Nat)))))],ob:=lk [(8,.cells (curC l c4)),(501,.own 16 (ls.map DtInst.cells)),(96,.cells (DtId.cells (idA l c2))),(112,.cells (instO (setDeps x ds) 502 503)),(502,.own 1 (x.fCmd.fChunks.map cS)),(503,.own 2 (ds.map DtId.cells))] }) ?_ ?_
       ·refine ⟨_,LeS.kx [(8,8),(501,501),(96,96),(112,112),(502,502),(503,503)] [(0,.ptr 8 0),(3,.arr 501 0 ls.length),(4,(.g (.int .i64 ((n:Nat))))),(5,.ptr 96 0),(6,.ptr 112 0),(7,(.g (.int .i64 (((0):Nat)))))] [(8,.cells (curC l (c3))),(501,.own 16 (ls.map DtInst.cells)),(96,.cells (DtId.cells (idA l c2))),(112,.cells (instO (setDeps x ([])) 502 503)),(502,.own 1 (x.fCmd.fChunks.map cS)),(503,.own 2 (([]).map DtId.cells))] (by simp [zG39,KpR,renV2,renV,zbk,curC,instO,cmdO,setDeps,hxd,idA,DtId.cells];try rfl) (by simp [zG39,KpOX,renO,plO,cvO,renV,pl1,curC,instO,cmdO,setDeps,hxd,idA,DtId.cells];try rfl) (by rfl) (by simp) (by simp) (by rfl) (by simp [zG40,formsX]),_,0,[],c3,rfl,?_,rfl⟩
        ·exact ⟨by omega,by simp⟩
       ·rintro mM sS ⟨r,ds,c4,rfl,⟨hr,hds⟩,rfl⟩
        refine zbj ?_
        refine AW_x rfl rfl λK hK=>?_
        simp (disch:=omega) [zG38,cI,cS,cU,DtId.cells,DtCmd.cells,DtInst.cells,cmdO,instO,setDeps,List.range_succ,zcd,zbs]
        repeat' first|(refine ⟨by omega,?_⟩)|(intro _)
        refine hK _ ?_;clear hK K
        refine zbm rfl (λhc3=>?_) (λhc3=>?_)
        ·try simp [zG41,zbe,zbd] at hc3
         all_goals
          refine zbn ?_
          refine zbq ?_
          refine zbj ?_
          refine zbl ?_
          refine AW_x rfl rfl λK hK=>?_
          simp (disch:=omega) [zG38,cI,cS,cU,DtId.cells,DtCmd.cells,DtInst.cells,cmdO,instO,setDeps,List.range_succ,zcd,zbs]
          repeat' first|(exfalso;omega)|(refine ⟨λ_=>?_,λ_=>?_⟩)|(refine ⟨by omega,?_⟩)|(simp (disch:=omega) [zG38,cI,cS,cU,DtId.cells,DtCmd.cells,DtInst.cells,cmdO,instO,setDeps,List.range_succ,zcd,zbs])|(intro _)
          all_goals (refine hK _ ?_;clear hK K)
          all_goals
           refine zbl ?_
           have hcz:True:=trivial
           refine zby (λmM sS=>∃(s:Nat) (ds2:List DtId) (c5:Cur),mM=4-s∧(1≤s∧s≤4∧ds2.length+1≤3*r+s)∧sS = { env:=lkE [(0,.ptr 8 0),(3,.arr 501 0 ls.length),(4,(.g (.int .i64 ((n:Nat))))),(5,.ptr 96 0),(6,.ptr 112 0),(7,(.g (.int .i64 ((r:Nat))))),(8,(.g (.int .i64 ((s:Nat)))))],ob:=lk [(8,.cells (curC l c5)),(501,.own 16 (ls.map DtInst.cells)),(96,.cells (DtId.cells (idA l c2))),(112,.cells (instO (setDeps x ds2) 502 503)),(502,.own 1 (x.fCmd.fChunks.map cS)),(503,.own 2 (ds2.map DtId.cells))] }) ?_ ?_
           ·refine ⟨_,LeS.kx [(8,8),(501,501),(96,96),(112,112),(502,502),(503,503)] [(0,.ptr 8 0),(3,.arr 501 0 ls.length),(4,(.g (.int .i64 ((n:Nat))))),(5,.ptr 96 0),(6,.ptr 112 0),(7,(.g (.int .i64 ((r:Nat))))),(8,(.g (.int .i64 (((1):Nat)))))] [(8,.cells (curC l (c4))),(501,.own 16 (ls.map DtInst.cells)),(96,.cells (DtId.cells (idA l c2))),(112,.cells (instO (setDeps x (ds)) 502 503)),(502,.own 1 (x.fCmd.fChunks.map cS)),(503,.own 2 ((ds).map DtId.cells))] (by simp [zG39,KpR,renV2,renV,zbk,curC,instO,cmdO,setDeps,hcz,idA,DtId.cells,zbv];try rfl) (by simp [zG39,KpOX,renO,plO,cvO,renV,pl1,curC,instO,cmdO,setDeps,hcz,idA,DtId.cells,zbv];try (first | with_reducible rfl|(simp [DtId.cells,zbv,zbh];done) | trace_state)) (by rfl) (by simp) (by simp) (by rfl) (by simp [zG40,formsX]),_,1,ds,c4,rfl,?_,rfl⟩
            ·exact ⟨by omega,by omega,by omega⟩
           ·rintro mM sS ⟨s,ds2,c5,rfl,⟨hs1,hs2,hdl⟩,rfl⟩
            refine zbj ?_
            refine AW_x rfl rfl λK hK=>?_
            simp (disch:=omega) [zG38,cI,cS,cU,DtId.cells,DtCmd.cells,DtInst.cells,cmdO,instO,setDeps,List.range_succ,zcd,zbs]
            repeat' first|(refine ⟨by omega,?_⟩)|(intro _)
            refine hK _ ?_;clear hK K
            refine zbm rfl (λhc4=>?_) (λhc4=>?_)
            ·try simp [zG41,zbe,zbd] at hc4
             all_goals
              refine zbn ?_
              refine zbq ?_
              refine zbj ?_
              refine zbl ?_
              refine AW_x rfl rfl λK hK=>?_
              simp (disch:=omega) [zG38,cI,cS,cU,DtId.cells,DtCmd.cells,DtInst.cells,cmdO,instO,setDeps,List.range_succ,zcd,zbs]
              repeat' first|(exfalso;omega)|(refine ⟨λ_=>?_,λ_=>?_⟩)|(refine ⟨by omega,?_⟩)|(simp (disch:=omega) [zG38,cI,cS,cU,DtId.cells,DtCmd.cells,DtInst.cells,cmdO,instO,setDeps,List.range_succ,zcd,zbs])|(intro _)
              all_goals (refine hK _ ?_;clear hK K)
              all_goals
               refine AW_x rfl rfl λK hK=>?_
               simp (disch:=omega) [zG38,cI,cS,cU,DtId.cells,DtCmd.cells,DtInst.cells,cmdO,instO,setDeps,List.range_succ,zcd,zbs]
               repeat' first|(exfalso;omega)|(refine zci (λ_=>xs_p (xs_g xs_z)) (zkc l hl _ _) rfl rfl ?_;simp (disch:=omega) [zG38,cI,cS,cU,DtId.cells,DtCmd.cells,DtInst.cells,cmdO,instO,setDeps,List.range_succ,zcd,zbs])|(refine ⟨λ_=>?_,λ_=>?_⟩)|(refine ⟨by omega,?_⟩)|(simp (disch:=omega) [zG38,cI,cS,cU,DtId.cells,DtCmd.cells,DtInst.cells,cmdO,instO,setDeps,List.range_succ,zcd,zbs])|(intro _)
               all_goals (refine hK _ ?_;clear hK K)
               all_goals
                refine zbm rfl (λhc5=>?_) (λhc5=>?_)
                ·try simp [zG41,zbe,zbd] at hc5
                 all_goals
                  refine zcc rfl rfl λK hK=>?_
                  simp (disch:=omega) [zG38,cI,cS,cU,DtId.cells,DtCmd.cells,DtInst.cells,cmdO,instO,setDeps,List.range_succ,zcd,zbs]
                  repeat' first|(exfalso;omega)|(refine ⟨λ_=>?_,λ_=>?_⟩)|(refine ⟨by omega,?_⟩)|(simp (disch:=omega) [zG38,cI,cS,cU,DtId.cells,DtCmd.cells,DtInst.cells,cmdO,instO,setDeps,List.range_succ,zcd,zbs])|(intro _)
                  all_goals (refine hK _ ?_;clear hK K)
                  all_goals
                   refine zbq ?_
                   refine zcc rfl rfl λK hK=>?_
                   simp (disch:=omega) [zG38,cI,cS,cU,DtId.cells,DtCmd.cells,DtInst.cells,cmdO,instO,setDeps,List.range_succ,zcd,zbs]
                   repeat' first|(refine ⟨by omega,?_⟩)|(intro _)
                   refine hK _ ?_;clear hK K
                   have hcz:True:=trivial
                   refine ⟨_,LeS.kx [(8,8),(501,501),(96,96),(112,112),(502,502),(503,944)] [(0,.ptr 8 0),(3,.arr 501 0 ls.length),(4,(.g (.int .i64 ((n:Nat))))),(5,.ptr 96 0),(6,.ptr 112 0),(7,(.g (.int .i64 ((r:Nat))))),(8,(.g (.int .i64 (((s+1):Nat)))))] [(8,.cells (curC l (belowS l 5 c5))),(501,.own 16 (ls.map DtInst.cells)),(96,.cells (DtId.cells (idA l c2))),(112,.cells (instO (setDeps x (ds2++[DtId.mk (r:Int) (s:Int)])) 502 503)),(502,.own 1 (x.fCmd.fChunks.map cS)),(503,.own 2 ((ds2++[DtId.mk (r:Int) (s:Int)]).map DtId.cells))] (by simp [zG39,KpR,renV2,renV,zbk,curC,instO,cmdO,setDeps,hcz,idA,DtId.cells,zbv];try rfl) (by simp [zG39,KpOX,renO,plO,cvO,renV,pl1,curC,instO,cmdO,setDeps,hcz,idA,DtId.cells,zbv];try (first | with_reducible rfl|(simp [DtId.cells,zbv,zbh];done) | trace_state)) (by rfl) (by simp) (by simp) (by rfl) (by simp [zG40,formsX]),_,?_,s+1,ds2++[DtId.mk (r:Int) (s:Int)],belowS l 5 c5,rfl,?_,rfl⟩
                   ·omega
                   ·exact ⟨by omega,by omega,by first | omega|(simp;omega)⟩
                ·try simp [zG41,zbe,zbd] at hc5
                 all_goals
                  refine zbn ?_
                  refine zbq ?_
                  refine zcc rfl rfl λK hK=>?_
                  simp (disch:=omega) [zG38,cI,cS,cU,DtId.cells,DtCmd.cells,DtInst.cells,cmdO,instO,setDeps,List.range_succ,zcd,zbs]
                  repeat' first|(exfalso;omega)|(refine ⟨λ_=>?_,λ_=>?_⟩)|(refine ⟨by omega,?_⟩)|(simp (disch:=omega) [zG38,cI,cS,cU,DtId.cells,DtCmd.cells,DtInst.cells,cmdO,instO,setDeps,List.range_succ,zcd,zbs])|(intro _)
                  all_goals (refine hK _ ?_;clear hK K)
                  all_goals
                   first | have hE:∃cz,cz=belowS l 5 c5∧¬below l 5 c5=0:=⟨_,rfl,by assumption⟩ | have hE:∃cz,cz=c5∧True:=⟨_,rfl,trivial⟩
                   obtain ⟨cz,hcz,-⟩:=hE
                   refine ⟨_,LeS.kx [(8,8),(501,501),(96,96),(112,112),(502,502),(503,503)] [(0,.ptr 8 0),(3,.arr 501 0 ls.length),(4,(.g (.int .i64 ((n:Nat))))),(5,.ptr 96 0),(6,.ptr 112 0),(7,(.g (.int .i64 ((r:Nat))))),(8,(.g (.int .i64 (((s+1):Nat)))))] [(8,.cells (curC l (cz))),(501,.own 16 (ls.map DtInst.cells)),(96,.cells (DtId.cells (idA l c2))),(112,.cells (instO (setDeps x (ds2)) 502 503)),(502,.own 1 (x.fCmd.fChunks.map cS)),(503,.own 2 ((ds2).map DtId.cells))] (by simp [zG39,KpR,renV2,renV,zbk,curC,instO,cmdO,setDeps,hcz,idA,DtId.cells,zbv];try rfl) (by simp [zG39,KpOX,renO,plO,cvO,renV,pl1,curC,instO,cmdO,setDeps,hcz,idA,DtId.cells,zbv];try (first | with_reducible rfl|(simp [DtId.cells,zbv,zbh];done) | trace_state)) (by rfl) (by simp) (by simp) (by rfl) (by simp [zG40,formsX]),_,?_,s+1,ds2,cz,rfl,?_,rfl⟩
                   ·omega
                   ·exact ⟨by omega,by omega,by first | omega|(simp;omega)⟩
            ·try simp [zG41,zbe,zbd] at hc4
             all_goals
              refine zb3 ?_
              refine zbq ?_
              refine zcc rfl rfl λK hK=>?_
              simp (disch:=omega) [zG38,cI,cS,cU,DtId.cells,DtCmd.cells,DtInst.cells,cmdO,instO,setDeps,List.range_succ,zcd,zbs]
              repeat' first|(exfalso;omega)|(refine ⟨λ_=>?_,λ_=>?_⟩)|(refine ⟨by omega,?_⟩)|(simp (disch:=omega) [zG38,cI,cS,cU,DtId.cells,DtCmd.cells,DtInst.cells,cmdO,instO,setDeps,List.range_succ,zcd,zbs])|(intro _)
              all_goals (refine hK _ ?_;clear hK K)
              all_goals
               refine ⟨_,LeS.kx [(8,8),(501,501),(96,96),(112,112),(502,502),(503,503)] [(0,.ptr 8 0),(3,.arr 501 0 ls.length),(4,(.g (.int .i64 ((n:Nat))))),(5,.ptr 96 0),(6,.ptr 112 0),(7,(.g (.int .i64 (((r+1):Nat)))))] [(8,.cells (curC l (c5))),(501,.own 16 (ls.map DtInst.cells)),(96,.cells (DtId.cells (idA l c2))),(112,.cells (instO (setDeps x (ds2)) 502 503)),(502,.own 1 (x.fCmd.fChunks.map cS)),(503,.own 2 ((ds2).map DtId.cells))] (by simp [zG39,KpR,renV2,renV,zbk,curC,instO,cmdO,setDeps,hxd,idA,DtId.cells];try rfl) (by simp [zG39,KpOX,renO,plO,cvO,renV,pl1,curC,instO,cmdO,setDeps,hxd,idA,DtId.cells];try rfl) (by rfl) (by simp) (by simp) (by rfl) (by simp [zG40,formsX]),_,?_,r+1,ds2,c5,rfl,?_,rfl⟩
               ·omega
               ·exact ⟨by omega,by omega⟩
        ·try simp [zG41,zbe,zbd] at hc3
         all_goals
          refine zb3 ?_
          refine zbq ?_
          refine zcc rfl rfl λK hK=>?_
          simp (disch:=omega) [zG38,cI,cS,cU,DtId.cells,DtCmd.cells,DtInst.cells,cmdO,instO,setDeps,List.range_succ,zcd,zbs]
          repeat' first|(exfalso;omega)|(refine zv5 [501,502,503] false [] (l8Put ls (setDeps x ds) (by omega)) ?_ ?_ ?_;(focus (simp [List.range_succ,nmC];done));(focus (simp (disch:=omega) [zG38,cI,cS,cU,DtId.cells,DtCmd.cells,DtInst.cells,cmdO,instO,setDeps,List.range_succ,zcd,zbs];done));rintro _ _ _ ⟨l',hl1,hl2,rfl,rfl,rfl⟩;refine ⟨⟨by first | rfl|(simp;done),by first | rfl|(simp;done)⟩,?_⟩;simp (disch:=omega) [zG38,cI,cS,cU,DtId.cells,DtCmd.cells,DtInst.cells,cmdO,instO,setDeps,List.range_succ,zcd,zbs])|(refine ⟨λ_=>?_,λ_=>?_⟩)|(refine ⟨by omega,?_⟩)|(simp (disch:=omega) [zG38,cI,cS,cU,DtId.cells,DtCmd.cells,DtInst.cells,cmdO,instO,setDeps,List.range_succ,zcd,zbs])|(intro _)
          all_goals (refine hK _ ?_;clear hK K)
          all_goals
           refine zbq ?_
           refine zcc rfl rfl λK hK=>?_
           simp (disch:=omega) [zG38,cI,cS,cU,DtId.cells,DtCmd.cells,DtInst.cells,cmdO,instO,setDeps,List.range_succ,zcd,zbs]
           repeat' first|(refine ⟨by omega,?_⟩)|(intro _)
           refine hK _ ?_;clear hK K
           refine ⟨_,LeS.kx [(8,8),(501,1008)] [(0,.ptr 8 0),(3,.arr 501 0 (l').length),(4,(.g (.int .i64 (((n-1):Nat)))))] [(8,.cells (curC l (c4))),(501,.own 16 ((l').map DtInst.cells))] (by simp [zG39,KpR,renV2,renV,zbk,curC,zfx];try (first | with_reducible rfl | omega)) (by simp [zG39,KpOX,renO,plO,cvO,renV,pl1,curC,zfx];try rfl) (by rfl) (by simp) (by simp) (by rfl) (by simp [zG40,formsX]),_,?_,n-1,l',c4,rfl,?_,rfl⟩
           ·omega
           ·exact ⟨by omega,λy hy=>by rcases hl2 y hy with h | rfl;exact hd y h;exact ⟨hx.1,by show ds.length≤50;omega⟩⟩
  ·try simp [zG41,zbe,zbd] at hc1
   all_goals
    refine zb3 ?_
    refine zbq ?_
    refine zbj ?_
    refine AW_x rfl rfl λK hK=>?_
    simp (disch:=omega) [zG38,cI,cS,cU,DtId.cells,DtCmd.cells,DtInst.cells,cmdO,instO,setDeps,List.range_succ,zcd,zbs]
    repeat' first|(exfalso;omega)|(refine zci (λ_=>xs_p (xs_g xs_z)) (zkc l hl _ _) rfl rfl ?_;simp (disch:=omega) [zG38,cI,cS,cU,DtId.cells,DtCmd.cells,DtInst.cells,cmdO,instO,setDeps,List.range_succ,zcd,zbs])|(refine ⟨λ_=>?_,λ_=>?_⟩)|(refine ⟨by omega,?_⟩)|(simp (disch:=omega) [zG38,cI,cS,cU,DtId.cells,DtCmd.cells,DtInst.cells,cmdO,instO,setDeps,List.range_succ,zcd,zbs])|(intro _)
    all_goals (refine hK _ ?_;clear hK K)
    all_goals
     refine zbm rfl (λhc6=>?_) (λhc6=>?_)
     ·try simp [zG41,zbe,zbd] at hc6
      all_goals
       refine AW_x rfl rfl λK hK=>?_
       simp (disch:=omega) [zG38,cI,cS,cU,DtId.cells,DtCmd.cells,DtInst.cells,cmdO,instO,setDeps,List.range_succ,zcd,zbs]
       repeat' first|(exfalso;omega)|(refine zv5 [8] false [] (l8Insts l hl (belowS l 12 c2)) ?_ ?_ ?_;(focus (simp [List.range_succ,nmC];done));(focus (simp (disch:=omega) [zG38,cI,cS,cU,DtId.cells,DtCmd.cells,DtInst.cells,cmdO,instO,setDeps,List.range_succ,zcd,zbs];done));rintro _ _ _ ⟨lr,cr,hlr,hdr,rfl,rfl,rfl⟩;refine ⟨⟨by first | rfl|(simp;done),by first | rfl|(simp;done)⟩,?_⟩;simp (disch:=omega) [zG38,cI,cS,cU,DtId.cells,DtCmd.cells,DtInst.cells,cmdO,instO,setDeps,List.range_succ,zcd,zbs])|(refine ⟨λ_=>?_,λ_=>?_⟩)|(refine ⟨by omega,?_⟩)|(simp (disch:=omega) [zG38,cI,cS,cU,DtId.cells,DtCmd.cells,DtInst.cells,cmdO,instO,setDeps,List.range_succ,zcd,zbs])|(intro _)
       all_goals (refine hK _ ?_;clear hK K)
       all_goals
        refine zg2 (LeS.frzR 1072 (o:=.own 16 (lr.map DtInst.cells)) (sz:=16) (xs:=lr.map DtInst.cells) (ztx (cs:=curC l cr) (by simp [zG39,updL])) (by simp [formsX,List.range_succ]) (by simp [zG39,updL]) ⟨rfl,rfl⟩) ?_
        refine zg2 (LeS.vwT 2 1072 (sz:=16) (xs:=lr.map DtInst.cells) (off:=0) (len:=lr.length) (by simp [zbt]) (by simp [zbt]) (by simp)) ?_
        refine zbr ⟨(.sl 16 (lr.map DtInst.cells)),[.cells (curC l cr)],[],?po,(by simp),(by simp),(by simp [OB.xk]),(zc2 [] [] (by simp [zG39,List.range_succ]) (by simp) ?en)⟩
        case en =>
         simp (disch:=omega) [zG38,cI,cS,cU,DtId.cells,DtCmd.cells,DtInst.cells,cmdO,instO,setDeps,List.range_succ,zcd,zbs]
         all_goals trace_state
        case po=>first | exact ⟨lr,cr,hlr,hdr,rfl,rfl,rfl⟩ | exact ⟨ls2,_,by omega,hd2,rfl,rfl,rfl⟩ | exact ⟨ls,_,by omega,λx hx=>zc0 (hd x hx),rfl,rfl,rfl⟩
     ·try simp [zG41,zbe,zbd] at hc6
      all_goals
       refine zbn ?_
       refine zbq ?_
       refine zbj ?_
       refine AW_x rfl rfl λK hK=>?_
       simp (disch:=omega) [zG38,cI,cS,cU,DtId.cells,DtCmd.cells,DtInst.cells,cmdO,instO,setDeps,List.range_succ,zcd,zbs]
       repeat' first|(exfalso;omega)|(refine zci (λ_=>xs_p (xs_g xs_z)) (zkc l hl _ _) rfl rfl ?_;simp (disch:=omega) [zG38,cI,cS,cU,DtId.cells,DtCmd.cells,DtInst.cells,cmdO,instO,setDeps,List.range_succ,zcd,zbs])|(refine ⟨λ_=>?_,λ_=>?_⟩)|(refine ⟨by omega,?_⟩)|(simp (disch:=omega) [zG38,cI,cS,cU,DtId.cells,DtCmd.cells,DtInst.cells,cmdO,instO,setDeps,List.range_succ,zcd,zbs])|(intro _)
       all_goals (refine hK _ ?_;clear hK K)
       all_goals
        refine zbm rfl (λhc7=>?_) (λhc7=>?_)
        ·try simp [zG41,zbe,zbd] at hc7
         all_goals
          refine AW_x rfl rfl λK hK=>?_
          simp (disch:=omega) [zG38,cI,cS,cU,DtId.cells,DtCmd.cells,DtInst.cells,cmdO,instO,setDeps,List.range_succ,zcd,zbs]
          repeat' first|(exfalso;omega)|(refine ⟨λ_=>?_,λ_=>?_⟩)|(refine ⟨by omega,?_⟩)|(simp (disch:=omega) [zG38,cI,cS,cU,DtId.cells,DtCmd.cells,DtInst.cells,cmdO,instO,setDeps,List.range_succ,zcd,zbs])|(intro _)
          all_goals (refine hK _ ?_;clear hK K)
          all_goals
           refine zg2 (LeS.frzR 501 (o:=.own 16 (ls.map DtInst.cells)) (sz:=16) (xs:=ls.map DtInst.cells) (ztx (cs:=curC l (belowS l 4 (belowS l 12 c2))) (by simp [zG39,updL])) (by simp [formsX,List.range_succ]) (by simp [zG39,updL]) ⟨rfl,rfl⟩) ?_
           refine zg2 (LeS.vwT 2 501 (sz:=16) (xs:=ls.map DtInst.cells) (off:=0) (len:=ls.length) (by simp [zbt]) (by simp [zbt]) (by simp)) ?_
           refine zbr ⟨(.sl 16 (ls.map DtInst.cells)),[.cells (curC l (belowS l 4 (belowS l 12 c2)))],[],?po,(by simp),(by simp),(by simp [OB.xk]),(zc2 [] [] (by simp [zG39,List.range_succ]) (by simp) ?en)⟩
           case en =>
            simp (disch:=omega) [zG38,cI,cS,cU,DtId.cells,DtCmd.cells,DtInst.cells,cmdO,instO,setDeps,List.range_succ,zcd,zbs]
            all_goals trace_state
           case po=>first | exact ⟨lr,cr,hlr,hdr,rfl,rfl,rfl⟩ | exact ⟨ls2,_,by omega,hd2,rfl,rfl,rfl⟩ | exact ⟨ls,_,by omega,λx hx=>zc0 (hd x hx),rfl,rfl,rfl⟩
        ·try simp [zG41,zbe,zbd] at hc7
         all_goals
          refine zbn ?_
          refine zbq ?_
          refine zbj ?_
          refine zg2 (LeS.frzN 501 (sz:=16) (xs:=ls.map DtInst.cells) (ztx (cs:=curC l (belowS l 4 (belowS l 12 c2))) (by simp [zG39,updL])) (by simp [formsX,List.range_succ]) (by simp [zG39,updL])) ?_
          refine AW_x rfl rfl λK hK=>?_
          simp (disch:=omega) [zG38,cI,cS,cU,DtId.cells,DtCmd.cells,DtInst.cells,cmdO,instO,setDeps,List.range_succ,zcd,zbs]
          repeat' first|(exfalso;omega)|(refine ⟨λ_=>?_,λ_=>?_⟩)|(refine ⟨by omega,?_⟩)|(simp (disch:=omega) [zG38,cI,cS,cU,DtId.cells,DtCmd.cells,DtInst.cells,cmdO,instO,setDeps,List.range_succ,zcd,zbs])|(intro _)
          all_goals (refine hK _ ?_;clear hK K)
          all_goals
           refine zbl ?_
           refine zby (λmM sS=>∃(i:Nat) (ls2:List DtInst),mM=ls.length-i∧(i≤ls.length∧ls2.length=ls.length∧∀x∈ls2,InstD x)∧sS = { env:=lkE [(3,.arr 501 0 ls2.length),(10,(.g (.int .i64 ((i:Nat)))))],ob:=lk [(8,.cells (curC l (belowS l 4 (belowS l 12 c2)))),(501,.win 16 (ls2.map DtInst.cells))] }) ?_ ?_
           ·refine ⟨_,LeS.kw [(8,8),(501,501)] [(3,.arr 501 0 (ls).length),(10,(.g (.int .i64 (((0):Nat)))))] [(8,.cells (curC l (belowS l 4 (belowS l 12 c2)))),(501,.win 16 ((ls).map DtInst.cells))] (by simp [zG39,KpR,renV2,renV,zbk,curC,zc5,immI];try (first | with_reducible rfl|(simp;done))) (by simp [zG39,KpOW,wnO,renO,plO,cvO,renV,pl1,curC,zc5,immI];try (first | with_reducible rfl | exact .inr (zq9 (zzs ls2 i hi2 ds) (congrArg (List.set _ _) rfl)) | trace_state)) (by rfl) (by simp) (by simp) (by rfl) (by simp [zG40,formsX]),_,0,ls,rfl,?_,rfl⟩
            ·exact ⟨by omega,rfl,λx hx=>zc0 (hd x hx)⟩
           ·rintro mM sS ⟨i,ls2,rfl,⟨hi,hle,hd2⟩,rfl⟩
            refine zbj ?_
            refine AW_x rfl rfl λK hK=>?_
            simp (disch:=omega) [zG38,cI,cS,cU,DtId.cells,DtCmd.cells,DtInst.cells,cmdO,instO,setDeps,List.range_succ,zcd,zbs]
            repeat' first|(refine ⟨by omega,?_⟩)|(simp (disch:=omega) [zG38,cI,cS,cU,DtId.cells,DtCmd.cells,DtInst.cells,cmdO,instO,setDeps,List.range_succ,zcd,zbs])|(intro _)
            refine hK _ ?_;clear hK K
            refine zbm rfl (λhc8=>?_) (λhc8=>?_)
            ·try simp [zG41,zbe,zbd] at hc8
             all_goals
              have hi2:i<ls2.length:=by omega
              have hdd:=(hd2 ls2[i] (List.getElem_mem _)).2
              refine zbn ?_
              refine zbq ?_
              refine zbj ?_
              refine zbl ?_
              refine AW_x rfl rfl λK hK=>?_
              simp (disch:=omega) [zG38,cI,cS,cU,DtId.cells,DtCmd.cells,DtInst.cells,cmdO,instO,setDeps,List.range_succ,zcd,zbs]
              repeat' first|(exfalso;omega)|(refine ⟨λ_=>?_,λ_=>?_⟩)|(refine ⟨by omega,?_⟩)|(simp (disch:=omega) [zG38,cI,cS,cU,DtId.cells,DtCmd.cells,DtInst.cells,cmdO,instO,setDeps,List.range_succ,zcd,zbs])|(intro _)
              all_goals (refine hK _ ?_;clear hK K)
              all_goals
               refine zbj ?_
               refine AW_x rfl rfl λK hK=>?_
               simp (disch:=omega) [zG38,cI,cS,cU,DtId.cells,DtCmd.cells,DtInst.cells,cmdO,instO,setDeps,List.range_succ,zcd,zbs]
               repeat' first|(refine ⟨by omega,?_⟩)|(intro _)
               refine hK _ ?_;clear hK K
               refine zbl ?_
               refine zby (λmM sS=>∃(k:Nat) (ds:List DtId),mM=ls2[i].fDeps.length-k∧(k≤ls2[i].fDeps.length∧ds.length≤k)∧sS = { env:=lkE [(3,.arr 501 0 ls2.length),(10,(.g (.int .i64 ((i:Nat))))),(11,.arr 502 0 ds.length),(12,(.g (.int .i64 ((k:Nat)))))],ob:=lk [(8,.cells (curC l (belowS l 4 (belowS l 12 c2)))),(501,.win 16 (ls2.map DtInst.cells)),(502,.win 2 (ds.map DtId.cells))] }) ?_ ?_
               ·refine ⟨_,LeS.kw [(8,8),(501,501),(502,1232)] [(3,.arr 501 0 ls2.length),(10,(.g (.int .i64 ((i:Nat))))),(11,.arr 502 0 ([]).length),(12,(.g (.int .i64 (((0):Nat)))))] [(8,.cells (curC l (belowS l 4 (belowS l 12 c2)))),(501,.win 16 (ls2.map DtInst.cells)),(502,.win 2 (([]).map DtId.cells))] (by simp [zG39,KpR,renV2,renV,zbk,curC,zc5,immI,zbv,DtId.cells];try rfl) (by simp [zG39,KpOW,wnO,renO,plO,cvO,renV,pl1,curC,zc5,immI,zbv,DtId.cells];try (first | with_reducible rfl|(simp [DtId.cells,zbv,zbh];done) | trace_state)) (by rfl) (by simp) (by simp) (by rfl) (by simp [zG40,formsX]),_,0,[],rfl,?_,rfl⟩
                ·exact ⟨by omega,by simp⟩
               ·rintro mM sS ⟨k,ds,rfl,⟨hk,hds⟩,rfl⟩
                refine zbj ?_
                refine AW_x rfl rfl λK hK=>?_
                simp (disch:=omega) [zG38,cI,cS,cU,DtId.cells,DtCmd.cells,DtInst.cells,cmdO,instO,setDeps,List.range_succ,zcd,zbs]
                repeat' first|(refine ⟨by omega,?_⟩)|(simp (disch:=omega) [zG38,cI,cS,cU,DtId.cells,DtCmd.cells,DtInst.cells,cmdO,instO,setDeps,List.range_succ,zcd,zbs])|(intro _)
                refine hK _ ?_;clear hK K
                refine zbm rfl (λhc9=>?_) (λhc9=>?_)
                ·try simp [zG41,zbe,zbd] at hc9
                 all_goals
                  refine zbn ?_
                  refine zbq ?_
                  refine zbj ?_
                  refine zbl ?_
                  refine AW_x rfl rfl λK hK=>?_
                  simp (disch:=omega) [zG38,cI,cS,cU,DtId.cells,DtCmd.cells,DtInst.cells,cmdO,instO,setDeps,List.range_succ,zcd,zbs]
                  repeat' first|(exfalso;omega)|(refine zcx (zbc zbw (zbc (zbu rfl) zbi)) (zhc ls2 (ls2[i].fDeps[k]) (by omega)) rfl ?_;simp (disch:=omega) [zG38,cI,cS,cU,DtId.cells,DtCmd.cells,DtInst.cells,cmdO,instO,setDeps,List.range_succ,zcd,zbs])|(refine zcy (zhc ls2 (ls2[i].fDeps[k]) (by omega)) (by rfl) ?_ ?_;(focus (simp (disch:=omega) [zG38,cI,cS,cU,DtId.cells,DtCmd.cells,DtInst.cells,cmdO,instO,setDeps,List.range_succ,zcd,zbs];done));simp (disch:=omega) [zG38,cI,cS,cU,DtId.cells,DtCmd.cells,DtInst.cells,cmdO,instO,setDeps,List.range_succ,zcd,zbs])|(refine ⟨λ_=>?_,λ_=>?_⟩)|(refine ⟨by omega,?_⟩)|(simp (disch:=omega) [zG38,cI,cS,cU,DtId.cells,DtCmd.cells,DtInst.cells,cmdO,instO,setDeps,List.range_succ,zcd,zbs])|(intro _)
                  all_goals (refine hK _ ?_;clear hK K)
                  all_goals
                   refine zbm rfl (λhc10=>?_) (λhc10=>?_)
                   ·try simp [zG41,zbe,zbd] at hc10
                    all_goals
                     refine zcc rfl rfl λK hK=>?_
                     simp (disch:=omega) [zG38,cI,cS,cU,DtId.cells,DtCmd.cells,DtInst.cells,cmdO,instO,setDeps,List.range_succ,zcd,zbs]
                     repeat' first|(exfalso;omega)|(refine ⟨λ_=>?_,λ_=>?_⟩)|(refine ⟨by omega,?_⟩)|(simp (disch:=omega) [zG38,cI,cS,cU,DtId.cells,DtCmd.cells,DtInst.cells,cmdO,instO,setDeps,List.range_succ,zcd,zbs])|(intro _)
                     all_goals (refine hK _ ?_;clear hK K)
                     all_goals
                      refine zbq ?_
                      refine zcc rfl rfl λK hK=>?_
                      simp (disch:=omega) [zG38,cI,cS,cU,DtId.cells,DtCmd.cells,DtInst.cells,cmdO,instO,setDeps,List.range_succ,zcd,zbs]
                      repeat' first|(refine ⟨by omega,?_⟩)|(intro _)
                      refine hK _ ?_;clear hK K
                      refine ⟨_,LeS.kw [(8,8),(501,501),(502,1744)] [(3,.arr 501 0 ls2.length),(10,(.g (.int .i64 ((i:Nat))))),(11,.arr 502 0 (ds++[ls2[i].fDeps[k]]).length),(12,(.g (.int .i64 (((k+1):Nat)))))] [(8,.cells (curC l (belowS l 4 (belowS l 12 c2)))),(501,.win 16 (ls2.map DtInst.cells)),(502,.win 2 ((ds++[ls2[i].fDeps[k]]).map DtId.cells))] (by simp [zG39,KpR,renV2,renV,zbk,curC,zc5,immI,zbv,DtId.cells];try rfl) (by simp [zG39,KpOW,wnO,renO,plO,cvO,renV,pl1,curC,zc5,immI,zbv,DtId.cells];try (first | with_reducible rfl|(simp [DtId.cells,zbv,zbh];done) | trace_state)) (by rfl) (by simp) (by simp) (by rfl) (by simp [zG40,formsX]),_,?_,k+1,ds++[ls2[i].fDeps[k]],rfl,?_,rfl⟩
                      ·omega
                      ·first | exact ⟨by omega,by omega⟩ | exact ⟨by omega,by simp;omega⟩
                   ·try simp [zG41,zbe,zbd] at hc10
                    all_goals
                     refine zbn ?_
                     refine zbq ?_
                     refine zcc rfl rfl λK hK=>?_
                     simp (disch:=omega) [zG38,cI,cS,cU,DtId.cells,DtCmd.cells,DtInst.cells,cmdO,instO,setDeps,List.range_succ,zcd,zbs]
                     repeat' first|(exfalso;omega)|(refine ⟨λ_=>?_,λ_=>?_⟩)|(refine ⟨by omega,?_⟩)|(simp (disch:=omega) [zG38,cI,cS,cU,DtId.cells,DtCmd.cells,DtInst.cells,cmdO,instO,setDeps,List.range_succ,zcd,zbs])|(intro _)
                     all_goals (refine hK _ ?_;clear hK K)
                     all_goals
                      refine ⟨_,LeS.kw [(8,8),(501,501),(502,502)] [(3,.arr 501 0 ls2.length),(10,(.g (.int .i64 ((i:Nat))))),(11,.arr 502 0 (ds).length),(12,(.g (.int .i64 (((k+1):Nat)))))] [(8,.cells (curC l (belowS l 4 (belowS l 12 c2)))),(501,.win 16 (ls2.map DtInst.cells)),(502,.win 2 ((ds).map DtId.cells))] (by simp [zG39,KpR,renV2,renV,zbk,curC,zc5,immI,zbv,DtId.cells];try rfl) (by simp [zG39,KpOW,wnO,renO,plO,cvO,renV,pl1,curC,zc5,immI,zbv,DtId.cells];try (first | with_reducible rfl|(simp [DtId.cells,zbv,zbh];done) | trace_state)) (by rfl) (by simp) (by simp) (by rfl) (by simp [zG40,formsX]),_,?_,k+1,ds,rfl,?_,rfl⟩
                      ·omega
                      ·first | exact ⟨by omega,by omega⟩ | exact ⟨by omega,by simp;omega⟩
                ·try simp [zG41,zbe,zbd] at hc9
                 all_goals
                  refine zb3 ?_
                  refine zbq ?_
                  refine zg2 (LeS.frzR 502 (o:=.win 2 (ds.map DtId.cells)) (sz:=2) (xs:=ds.map DtId.cells) (ztx (cs:=curC l (belowS l 4 (belowS l 12 c2))) (by simp [zG39,updL])) (by simp [formsX,List.range_succ]) (by simp [zG39,updL]) ⟨rfl,rfl,zjb (zbv ds)⟩) ?_
                  refine zg2 (LeS.vwT 11 502 (sz:=2) (xs:=ds.map DtId.cells) (off:=0) (len:=ds.length) (by simp [zG39,zbk]) (by simp [zbt]) (by simp)) ?_
                  refine zcc rfl rfl λK hK=>?_
                  simp (disch:=omega) [zG38,cI,cS,cU,DtId.cells,DtCmd.cells,DtInst.cells,cmdO,instO,setDeps,List.range_succ,zcd,zbs]
                  repeat' first|(exfalso;omega)|(refine ⟨λ_=>?_,λ_=>?_⟩)|(refine ⟨by omega,?_⟩)|(simp (disch:=omega) [zG38,cI,cS,cU,DtId.cells,DtCmd.cells,DtInst.cells,cmdO,instO,setDeps,List.range_succ,zcd,zbs])|(intro _)
                  all_goals (refine hK _ ?_;clear hK K)
                  all_goals
                   refine zbq ?_
                   refine zcc rfl rfl λK hK=>?_
                   simp (disch:=omega) [zG38,cI,cS,cU,DtId.cells,DtCmd.cells,DtInst.cells,cmdO,instO,setDeps,List.range_succ,zcd,zbs]
                   repeat' first|(refine ⟨by omega,?_⟩)|(intro _)
                   refine hK _ ?_;clear hK K
                   refine ⟨_,LeS.kw [(8,8),(501,501)] [(3,.arr 501 0 (ls2.set i (setDeps ls2[i] ds)).length),(10,(.g (.int .i64 (((i+1):Nat)))))] [(8,.cells (curC l (belowS l 4 (belowS l 12 c2)))),(501,.win 16 ((ls2.set i (setDeps ls2[i] ds)).map DtInst.cells))] (by simp [zG39,KpR,renV2,renV,zbk,curC,zc5,immI];try (first | with_reducible rfl|(simp;done))) (by simp [zG39,KpOW,wnO,renO,plO,cvO,renV,pl1,curC,zc5,immI];try (first | with_reducible rfl | exact .inr (zq9 (zzs ls2 i hi2 ds) (congrArg (List.set _ _) rfl)) | trace_state)) (by rfl) (by simp) (by simp) (by rfl) (by simp [zG40,formsX]),_,?_,i+1,ls2.set i (setDeps ls2[i] ds),rfl,?_,rfl⟩
                   ·omega
                   ·exact ⟨by omega,by simp;omega,zxh hd2 ⟨(hd2 ls2[i] (List.getElem_mem _)).1,by show ds.length≤100;omega⟩⟩
            ·try simp [zG41,zbe,zbd] at hc8
             all_goals
              refine zb3 ?_
              refine zbq ?_
              refine AW_x rfl rfl λK hK=>?_
              simp (disch:=omega) [zG38,cI,cS,cU,DtId.cells,DtCmd.cells,DtInst.cells,cmdO,instO,setDeps,List.range_succ,zcd,zbs]
              repeat' first|(exfalso;omega)|(refine ⟨λ_=>?_,λ_=>?_⟩)|(refine ⟨by omega,?_⟩)|(simp (disch:=omega) [zG38,cI,cS,cU,DtId.cells,DtCmd.cells,DtInst.cells,cmdO,instO,setDeps,List.range_succ,zcd,zbs])|(intro _)
              all_goals (refine hK _ ?_;clear hK K)
              all_goals
               refine zg2 (LeS.frzR 501 (o:=.win 16 (ls2.map DtInst.cells)) (sz:=16) (xs:=ls2.map DtInst.cells) (ztx (cs:=curC l (belowS l 4 (belowS l 12 c2))) (by simp [zG39,updL])) (by simp [formsX,List.range_succ]) (by simp [zG39,updL]) ⟨rfl,rfl,immI ls2⟩) ?_
               refine zg2 (LeS.vwT 2 501 (sz:=16) (xs:=ls2.map DtInst.cells) (off:=0) (len:=ls2.length) (by simp [zbt]) (by simp [zbt]) (by simp)) ?_
               refine zbr ⟨(.sl 16 (ls2.map DtInst.cells)),[.cells (curC l (belowS l 4 (belowS l 12 c2)))],[],?po,(by simp),(by simp),(by simp [OB.xk]),(zc2 [] [] (by simp [zG39,List.range_succ]) (by simp) ?en)⟩
               case en =>
                simp (disch:=omega) [zG38,cI,cS,cU,DtId.cells,DtCmd.cells,DtInst.cells,cmdO,instO,setDeps,List.range_succ,zcd,zbs]
                all_goals trace_state
               case po=>first | exact ⟨lr,cr,hlr,hdr,rfl,rfl,rfl⟩ | exact ⟨ls2,_,by omega,hd2,rfl,rfl,rfl⟩ | exact ⟨ls,_,by omega,λx hx=>zc0 (hd x hx),rfl,rfl,rfl⟩
end Go.Proofs.YtodmafgmdlkhoaaGreat.Vs
end
section
open Go Go.Proofs Go.Proofs.YtodmafgmdlkhoaaGreat.Vs
namespace Go.Proofs.YtodmafgmdlkhoaaGreat.Vs
set_option linter.all false
set_option linter.unusedSimpArgs false
set_option linter.unusedVariables false
/-! what the order keeps -/
theorem ordR_nd(l:List DtInst):(ordR l).Nodup:=by
 unfold ordR
 by_cases h:InstsP l
 ·rw [zfp h]
  have ho:=zgo h
  have hr:=zgn h ho
  refine List.pairwise_flatten.2 ⟨λp hp=>?_,?_⟩
  ·obtain ⟨a,-,rfl⟩:=hr p hp
   exact zzj h a
  ·refine List.Pairwise.imp_of_mem (λ{p q} hp hq hne x hx y hy e=>?_) ho.2
   subst e
   obtain ⟨a,-,rfl⟩:=hr p hp
   obtain ⟨b,-,rfl⟩:=hr q hq
   refine hne ?_
   rw [zri h ((zc9 h a x).1 hx),zri h ((zc9 h b x).1 hy)]
 ·rw [zgz h];simp
theorem zh2{l:List DtInst}{x:DtId}(hx:x∈ordR l):InstsP l∧RdyP l x:=by
 unfold ordR at hx
 by_cases h:InstsP l
 ·rw [zfp h,List.mem_flatten] at hx
  obtain ⟨p,hp,hx⟩:=hx
  exact ⟨h,(zw6 h (zgn h (zgo h) p hp) x hx).1⟩
 ·rw [zgz h] at hx;simp at hx
theorem ordR_inst{l:List DtInst}{x:DtId}(hx:x∈ordR l):instAt l x∈l∧(instAt l x).fId=x:=by
 obtain ⟨h,hr⟩:=zh2 hx
 have h1:=((zk2 h x).1 hr).1
 rcases zhd l x with hh | e
 ·exact hh
 ·rw [e] at h1;simp [zeroInst] at h1
end Go.Proofs.YtodmafgmdlkhoaaGreat.Vs
end
section
open Go Go.Proofs Go.Proofs.YtodmafgmdlkhoaaGreat.Vs
namespace Go.Proofs.YtodmafgmdlkhoaaGreat.Vs
set_option linter.all false
set_option linter.unusedSimpArgs false
set_option linter.unusedVariables false
/-! what the order is: each that is ready, once, behind what it hangs on -/
theorem goS_end{l:List DtInst}(h:InstsP l):∀(n:Nat) (out:List (List DtId)),OutOk l out→(leftR l out).length<n→nextP l (goS l n out)=none
 | 0,out,_,hn=>by omega
 | n+1,out,ho,hn=>by
  rw [goS]
  cases hp:nextP l out with
  | none=>exact hp
  | some p =>
   obtain ⟨k,hk,rfl⟩:=zns hp
   have hm:=zj7 (List.getElem_mem hk)
   refine goS_end h n _ ⟨λq hq=>?_,List.nodup_append.2 ⟨ho.2,by simp,λa ha b hb=>?_⟩⟩ ?_
   ·rcases List.mem_append.1 hq with hq | hq
    ·exact ho.1 q hq
    ·rw [List.mem_singleton] at hq;exact hq ▸ hm.1
   ·rw [List.mem_singleton] at hb;rintro rfl;exact hm.2 (hb ▸ ha)
   ·rw [znr h hk];simp;omega
theorem parts_end{l:List DtInst}(h:InstsP l):nextP l (partsL l)=none:=by
 unfold partsL
 refine goS_end h _ [] ⟨by simp,by simp⟩ ?_
 rw [zk5];omega
theorem filt_lt{α:Type}{p q:α→Bool}:∀ {l:List α} {x:α},(∀z∈l,p z=true→q z=true)→x∈l→q x=true→p x=false→(l.filter p).length<(l.filter q).length
 | [],x,_,hx,_,_=>by simp at hx
 | a :: l,x,h,hx,hq,hp=>by
  have hle:(l.filter p).length≤(l.filter q).length:=by
   have h2:∀z∈l,p z=true→q z=true:=λz hz=>h z (List.mem_cons_of_mem _ hz)
   clear h hx
   induction l with
   | nil=>simp
   | cons b l ih =>
    have ih:=ih λz hz=>h2 z (List.mem_cons_of_mem _ hz)
    have hb:=h2 b List.mem_cons_self
    rw [List.filter_cons,List.filter_cons]
    cases hpb:p b with
    | false=>cases q b<;>simp<;>omega
    | true=>rw [hb hpb];simp;omega
  rw [List.filter_cons,List.filter_cons]
  rcases List.mem_cons.1 hx with rfl | hx
  ·rw [hq,hp];simp;omega
  ·have ih:=filt_lt (λz hz=>h z (List.mem_cons_of_mem _ hz)) hx hq hp
   have ha:=h a List.mem_cons_self
   cases hpa:p a with
   | false=>cases q a<;>simp<;>omega
   | true=>rw [ha hpa];simp;omega
noncomputable def rkL(l:List DtInst)(x:DtId):Nat:=((l.map (·.fId)).filter λz=>decB (z=x∨Rch l x z)).length
theorem all_told{l:List DtInst}(h:InstsP l){out:List (List DtId)}(ho:OutOk l out)(hn:nextP l out=none):∀(n:Nat) (x:DtId),rkL l x=n→RdyP l x→x∈out.flatten:=by
 intro n
 induction n using Nat.strongRecOn with
 | ind n ih =>
  intro x hx hr
  refine Classical.byContradiction λhnt=>?_
  obtain ⟨-,y0,hy0,rfl⟩:=zpy h hr
  rw [zw5 h ho] at hn
  have hf:(l.find? λx=>decB (CandP l out.flatten x.fId))=none:=by
   cases hf:l.find? λx=>decB (CandP l out.flatten x.fId) with
   | none=>rfl
   | some z=>rw [hf] at hn;cases hn
  have hc:=List.find?_eq_none.1 hf y0 hy0
  rw [zbb] at hc
  have hnf:¬FreeP l (partL l y0.fId) out.flatten:=λhf=>hc ⟨hnt,hr,hf⟩
  have ⟨y,hy,d,hd,hd1,hd2⟩:∃y∈partL l y0.fId,∃d∈depsL l y,d∉partL l y0.fId∧d∉out.flatten:=by
   refine Classical.byContradiction λhno=>hnf λy hy d hd=>?_
   refine Classical.byContradiction λhor=>hno ⟨y,hy,d,hd,λh1=>hor (.inl h1),λh1=>hor (.inr h1)⟩
  have hs:=(zc9 h y0.fId y).1 hy
  have hyr:=zl8 h hr hs
  have hxd:Rch l y0.fId d:=by
   rcases hs with e | ⟨h1,-⟩
   ·exact e ▸ .base hd
   ·exact .step h1 hd
  have hdx:¬Rch l d y0.fId:=λh1=>hd1 ((zc9 h y0.fId d).2 (.inr ⟨hxd,h1⟩))
  have hdn:d≠y0.fId:=λe=>hd1 (e ▸ zpx h _)
  have hdr:=rdy_rch h hr hxd
  refine hd2 (ih (rkL l d) ?_ d rfl hdr)
  rw [←hx]
  refine filt_lt (x:=y0.fId) (λz hz hz2=>?_) (List.mem_map.2 ⟨y0,hy0,rfl⟩) (zcb (.inl rfl)) (zce λhh=>?_)
  ·rw [zbb] at hz2 ⊢
   rcases hz2 with rfl | hz2
   ·exact .inr hxd
   ·exact .inr (zj5 hxd hz2)
  ·rcases hh with hh | hh
   ·exact hdn hh.symm
   ·exact hdx hh
theorem ordR_all{l:List DtInst}(h:InstsP l){x:DtId}(hr:RdyP l x):x∈ordR l:=by
 unfold ordR
 rw [zfp h]
 exact all_told h (zgo h) (parts_end h) _ x rfl hr
theorem ordR_iff(l:List DtInst)(x:DtId):x∈ordR l↔InstsP l∧RdyP l x:=⟨zh2,λ⟨h,hr⟩=>ordR_all h hr⟩
theorem ordR_cnt{l:List DtInst}(h:InstsP l):(l.filter λx=>decB (RdyP l x.fId)).length=(ordR l).length:=by
 have h1:((l.filter λx=>decB (RdyP l x.fId)).map (·.fId)).Nodup:=zle ((zhz h).sublist (List.filter_sublist.map _))
 have h2:=ordR_nd l
 have hm:∀x,x∈(l.filter λx=>decB (RdyP l x.fId)).map (·.fId)↔x∈ordR l:=by
  intro x
  rw [ordR_iff,List.mem_map]
  constructor
  ·rintro ⟨y,hy,rfl⟩
   rw [List.mem_filter,zbb] at hy
   exact ⟨h,hy.2⟩
  ·rintro ⟨-,hr⟩
   obtain ⟨-,y,hy,rfl⟩:=zpy h hr
   exact ⟨y,List.mem_filter.2 ⟨hy,zcb hr⟩,rfl⟩
 have key:∀(a b:List DtId),a.Nodup→(∀x∈a,x∈b)→a.length≤b.length:=by
  intro a
  induction a with
  | nil=>intro b _ _;simp
  | cons z a ih =>
   intro b hn hs
   obtain ⟨h1,h2⟩:=List.nodup_cons.1 hn
   obtain ⟨s,t,rfl⟩:=List.append_of_mem (hs z List.mem_cons_self)
   have:=ih (s++t) h2 λx hx=>by
    have:=hs x (List.mem_cons_of_mem _ hx)
    simp only [List.mem_append,List.mem_cons] at this ⊢
    rcases this with h | rfl | h
    ·exact .inl h
    ·exact absurd hx h1
    ·exact .inr h
   simp at this ⊢
   omega
 have k1:=key _ _ h1 λx hx=>(hm x).1 hx
 have k2:=key _ _ h2 λx hx=>(hm x).2 hx
 rw [List.length_map] at k1 k2
 omega
def AllFree(l:List DtInst)(out:List (List DtId)):Prop:=∀(j:Nat) p,out[j]? = some p→FreeP l p (out.take j).flatten
theorem free_app{l:List DtInst}{out:List (List DtId)}(ha:AllFree l out){p:List DtId}(hp:FreeP l p out.flatten):AllFree l (out++[p]):=by
 intro j q hq
 by_cases hj:j<out.length
 ·rw [List.getElem?_append_left hj] at hq
  rw [List.take_append_of_le_length (by omega)]
  exact ha j q hq
 ·by_cases e:j=out.length
  ·subst e
   rw [List.getElem?_append_right (by omega)] at hq
   simp at hq
   subst hq
   rw [List.take_append_of_le_length (by omega),List.take_length]
   exact hp
  ·rw [List.getElem?_eq_none (by simp;omega)] at hq;cases hq
theorem zzt{l:List DtInst}:∀(n:Nat) (out:List (List DtId)),AllFree l out→AllFree l (goS l n out)
 | 0,out,ha=>ha
 | n+1,out,ha=>by
  rw [goS]
  cases hp:nextP l out with
  | none=>exact ha
  | some p =>
   refine zzt n _ (free_app ha ?_)
   have:=List.find?_some hp
   rw [Bool.and_eq_true,zbb,zbb] at this
   exact this.2
theorem parts_free(l:List DtInst):AllFree l (partsL l):=zzt _ [] λj p hp=>by simp at hp
theorem flat_at{α:Type}:∀(L:List (List α)) (i:Nat) (x:α),L.flatten[i]? = some x→∃(j:Nat) (p:List α),L[j]? = some p∧x∈p∧(L.take j).flatten.length≤i
 | [],i,x,h=>by simp at h
 | p :: L,i,x,h=>by
  rw [List.flatten_cons] at h
  by_cases hi:i<p.length
  ·rw [List.getElem?_append_left hi] at h
   exact ⟨0,p,rfl,List.mem_of_getElem? h,by simp⟩
  ·rw [List.getElem?_append_right (by omega)] at h
   obtain ⟨j,q,h1,h2,h3⟩:=flat_at L _ x h
   exact ⟨j+1,q,by simpa using h1,h2,by rw [List.take_succ_cons,List.flatten_cons,List.length_append];omega⟩
theorem ord_dep{l:List DtInst}{i:Nat}(hi:i<(ordR l).length){d:DtId}(hd:d∈(instAt l (ordR l)[i]).fDeps):d∈(ordR l).take i∨(ordR l)[i]∈reachL l d:=by
 obtain ⟨h,hr⟩:=zh2 (List.getElem_mem hi)
 have h3:=((zk2 h _).1 hr).1
 have hdl:d∈depsL l (ordR l)[i]:=by unfold depsL;rw [if_pos h3];exact hd
 have hg:(partsL l).flatten[i]? = some (ordR l)[i]:=by
  have:=List.getElem?_eq_getElem hi
  conv at this=>lhs;unfold ordR
  rwa [zfp h] at this
 obtain ⟨j,p,h1,h2,h4⟩:=flat_at _ _ _ hg
 have hjl:j<(partsL l).length:=(List.getElem?_eq_some_iff.1 h1).1
 have hpm:p∈partsL l:=List.mem_of_getElem? h1
 obtain ⟨a,ha,hpa⟩:=zgn h (zgo h) p hpm
 rcases parts_free l j p h1 _ h2 d hdl with h5 | h5
 ·right
  rw [(zc3 h d).2]
  rw [hpa] at h2 h5
  have hs:Same l d (ordR l)[i]:=zk3 (ztd ((zc9 h a d).1 h5)) ((zc9 h a _).1 h2)
  rcases hs with e | ⟨h6,-⟩
  ·rw [e] at hdl ⊢;exact .base hdl
  ·exact h6
 ·left
  have e:ordR l=((partsL l).take j).flatten++((partsL l).drop j).flatten:=by
   unfold ordR
   rw [zfp h,←List.flatten_append,List.take_append_drop]
  rw [e,List.take_append,List.mem_append]
  left
  rw [List.take_of_length_le h4]
  exact h5
theorem zp6{l:List DtInst}{i:Nat}(hi:i<(ordR l).length):(ordR l)[i]∉(ordR l).take i:=by
 intro hm
 obtain ⟨j,hj⟩:=List.getElem?_of_mem hm
 have hji:j<i:=by have:=(List.getElem?_eq_some_iff.1 hj).1;rw [List.length_take] at this;omega
 rw [List.getElem?_take,if_pos hji,List.getElem?_eq_getElem (by omega)] at hj
 have:=List.pairwise_iff_getElem.1 (ordR_nd l) j i (by omega) hi hji
 exact this (Option.some.inj hj)
end Go.Proofs.YtodmafgmdlkhoaaGreat.Vs
end
section
open Go Go.Proofs Go.Proofs.YtodmafgmdlkhoaaGreat.Vs
namespace Go.Proofs.YtodmafgmdlkhoaaGreat.Vs
set_option linter.all false
set_option linter.unusedSimpArgs false
set_option linter.unusedVariables false
set_option maxRecDepth 100000
theorem zxi(l:List DtInst)(hs:szS DtInst.sz l≤1048576)(hn:l.length≤1048576)(hm:∀x∈l,InstSm x):XCall Tryz.prog 16 [.sl 16 (l.map DtInst.cells)] [] (.arr 16 0 (bif decB (InstsP l) then waitL l else []).length) [] [.own 2 ((bif decB (InstsP l) then waitL l else []).map DtId.cells)]:=by
 by_cases hp:InstsP l
 ·have hpb:=zcb hp
  refine zb5 Tryz.func16 (by rfl) (by rfl) (by rw [Tryz.ntmps16];exact Nat.le_of_ble_eq_true rfl) rfl (by simp) rfl rfl ?_
  rw [Tryz.ntmps16]
  refine zfl   ?_
  refine AW_k [(0,_)] ⟨rfl,trivial⟩ ?_
  refine AW_x rfl rfl λK hK=>?_
  simp (disch:=omega) [zG38,DtInst.cells,DtCmd.cells,DtId.cells]
  repeat' first|(refine ⟨by omega,?_⟩)|(intro _)
  refine hK _ ?_;clear hK K
  refine zbj ?_
  refine AW_x rfl rfl λK hK=>?_
  simp (disch:=omega) [zG38,DtInst.cells,DtCmd.cells,DtId.cells]
  repeat' first|(exfalso;omega)|(refine zcx (zbc zbw zbi) (zct _ (by assumption)) rfl ?_;simp (disch:=omega) [zG38,DtInst.cells,DtCmd.cells,DtId.cells])|(refine zcy (zct _ (by assumption)) (by rfl) ?_ ?_;(focus (simp (disch:=omega) [zG38,DtInst.cells,DtCmd.cells,DtId.cells];done));simp (disch:=omega) [zG38,DtInst.cells,DtCmd.cells,DtId.cells])|(refine ⟨by omega,?_⟩)|(simp (disch:=omega) [zG38,DtInst.cells,DtCmd.cells,DtId.cells])|(intro _)
  refine hK _ ?_;clear hK K
  refine zbm rfl (λhc1=>?_) (λhc1=>?_)
  ·try simp [zG41,zbe,zbd,zco,zcu] at hc1
   all_goals
    refine AW_x rfl rfl λK hK=>?_
    simp (disch:=omega) [zG38,DtInst.cells,DtCmd.cells,DtId.cells]
    repeat' first|(exfalso;omega)|(refine ⟨λ_=>?_,λ_=>?_⟩)|(refine ⟨by omega,?_⟩)|(simp (disch:=omega) [zG38,DtInst.cells,DtCmd.cells,DtId.cells])|(intro _)
    all_goals (refine hK _ ?_;clear hK K)
    all_goals
     refine zbr (zc2 [500] [(500,2)] (by simp [zG39,List.range_succ]) (by simp) ?_)
     simp (disch:=omega) [zG38,DtInst.cells,DtCmd.cells,DtId.cells,hpb]
     all_goals first|(exfalso;exact absurd hp (by assumption))|(rw [waT_e l i (by omega)];exact ⟨rfl,rfl⟩) | trace_state
  ·try simp [zG41,zbe,zbd,zco,zcu] at hc1
   all_goals
    refine zbn ?_
    refine zbq ?_
    refine AW_x rfl rfl λK hK=>?_
    simp (disch:=omega) [zG38,DtInst.cells,DtCmd.cells,DtId.cells]
    repeat' first|(exfalso;omega)|(refine ⟨λ_=>?_,λ_=>?_⟩)|(refine ⟨by omega,?_⟩)|(simp (disch:=omega) [zG38,DtInst.cells,DtCmd.cells,DtId.cells])|(intro _)
    all_goals (refine hK _ ?_;clear hK K)
    all_goals
     refine zbj ?_
     refine AW_x rfl rfl λK hK=>?_
     simp (disch:=omega) [zG38,DtInst.cells,DtCmd.cells,DtId.cells]
     repeat' first|(refine ⟨by omega,?_⟩)|(simp (disch:=omega) [zG38,DtInst.cells,DtCmd.cells,DtId.cells])|(intro _)
     refine hK _ ?_;clear hK K
     refine zbl ?_
     refine zby (λmM sS=>∃(i:Nat),mM=l.length-i∧(i≤l.length)∧sS = { env:=lkE [(0,.sl 16 (l.map DtInst.cells)),(3,.arr 501 0 (waT l i).length),(10,.sl 16 (l.map DtInst.cells)),(11,(.g (.int .i64 ((l.length:Nat))))),(12,(.g (.int .i64 ((i:Nat)))))],ob:=lk [(501,.win 2 ((waT l i).map DtId.cells))] }) ?_ ?_
     ·refine ⟨_,LeS.kx [(501,160)] [(0,.sl 16 (l.map DtInst.cells)),(3,.arr 501 0 (waT l (0)).length),(10,.sl 16 (l.map DtInst.cells)),(11,(.g (.int .i64 ((l.length:Nat))))),(12,(.g (.int .i64 (((0):Nat)))))] [(501,.win 2 ((waT l (0)).map DtId.cells))] (by simp [zG39,KpR,renV2,renV,zbk,DtId.cells,zgp,zbv];try (first|(rw [hsx];done)|(rw [hsx];simp;done))) (by simp [zG39,KpOX,renO,plO,cvO,renV,pl1,DtId.cells,zgp,zbv];try (first|(rw [hsx];done)|(rw [hsx];simp [DtId.cells];done))) (by rfl) (by simp) (by simp) (by rfl) (by simp [zG40,formsX]),_,0,rfl,?_,rfl⟩
      ·simp
     ·rintro mM sS ⟨i,rfl,hi,rfl⟩
      have hwl:=zw7 l i hi
      refine AW_x rfl rfl λK hK=>?_
      simp (disch:=omega) [zG38,DtInst.cells,DtCmd.cells,DtId.cells]
      repeat' first|(refine ⟨by omega,?_⟩)|(intro _)
      refine hK _ ?_;clear hK K
      refine zbj ?_
      refine zbm rfl (λhc2=>?_) (λhc2=>?_)
      ·try simp [zG41,zbe,zbd,zco,zcu] at hc2
       all_goals
        have hws:=waT_s l i (by omega)
        have hmi:=hm l[i] (List.getElem_mem _)
        refine zbn ?_
        refine zbq ?_
        refine zbj ?_
        refine zbl ?_
        refine AW_x rfl rfl λK hK=>?_
        simp (disch:=omega) [zG38,DtInst.cells,DtCmd.cells,DtId.cells]
        repeat' first|(exfalso;omega)|(refine ⟨λ_=>?_,λ_=>?_⟩)|(refine ⟨by omega,?_⟩)|(simp (disch:=omega) [zG38,DtInst.cells,DtCmd.cells,DtId.cells])|(intro _)
        all_goals (refine hK _ ?_;clear hK K)
        all_goals
         refine AW_x rfl rfl λK hK=>?_
         simp (disch:=omega) [zG38,DtInst.cells,DtCmd.cells,DtId.cells]
         repeat' first|(exfalso;omega)|(refine zjy [] true [] (zth l l[i].fId hs hn hm hp) ?_ ?_ ?_;(focus (simp [List.range_succ,nmC];done));(focus (simp (disch:=omega) [zG38,DtInst.cells,DtCmd.cells,DtId.cells];done));simp (disch:=omega) [zG38,DtInst.cells,DtCmd.cells,DtId.cells])|(refine ⟨λ_=>?_,λ_=>?_⟩)|(refine ⟨by omega,?_⟩)|(simp (disch:=omega) [zG38,DtInst.cells,DtCmd.cells,DtId.cells])|(intro _)
         all_goals (refine hK _ ?_;clear hK K)
         all_goals
          refine zbm rfl (λhc3=>?_) (λhc3=>?_)
          ·try simp [zG41,zbe,zbd,zco,zcu] at hc3
           all_goals
            refine zcc rfl rfl λK hK=>?_
            simp (disch:=omega) [zG38,DtInst.cells,DtCmd.cells,DtId.cells]
            repeat' first|(exfalso;omega)|(refine ⟨λ_=>?_,λ_=>?_⟩)|(refine ⟨by omega,?_⟩)|(simp (disch:=omega) [zG38,DtInst.cells,DtCmd.cells,DtId.cells])|(intro _)
            all_goals (refine hK _ ?_;clear hK K)
            all_goals
             refine zbq ?_
             refine zcc rfl rfl λK hK=>?_
             simp (disch:=omega) [zG38,DtInst.cells,DtCmd.cells,DtId.cells]
             repeat' first|(refine ⟨by omega,?_⟩)|(intro _)
             refine hK _ ?_;clear hK K
             first | have hsx:=hws.1 ⟨by assumption,by assumption⟩ | have hsx:=hws.2 (λhh=>by first | exact hh.2 (by assumption) | exact absurd hh.1 (by assumption))
             refine ⟨_,LeS.kx [(501,496)] [(0,.sl 16 (l.map DtInst.cells)),(3,.arr 501 0 (waT l (i+1)).length),(10,.sl 16 (l.map DtInst.cells)),(11,(.g (.int .i64 ((l.length:Nat))))),(12,(.g (.int .i64 (((i+1):Nat)))))] [(501,.win 2 ((waT l (i+1)).map DtId.cells))] (by simp [zG39,KpR,renV2,renV,zbk,DtId.cells,zgp,zbv];try (first|(rw [hsx];done)|(rw [hsx];simp;done))) (by simp [zG39,KpOX,renO,plO,cvO,renV,pl1,DtId.cells,zgp,zbv];try (first|(rw [hsx];done)|(rw [hsx];simp [DtId.cells];done))) (by rfl) (by simp) (by simp) (by rfl) (by simp [zG40,formsX]),_,?_,i+1,rfl,?_,rfl⟩
             ·omega
             ·omega
          ·try simp [zG41,zbe,zbd,zco,zcu] at hc3
           all_goals
            refine zbn ?_
            refine zbq ?_
            refine zcc rfl rfl λK hK=>?_
            simp (disch:=omega) [zG38,DtInst.cells,DtCmd.cells,DtId.cells]
            repeat' first|(exfalso;omega)|(refine ⟨λ_=>?_,λ_=>?_⟩)|(refine ⟨by omega,?_⟩)|(simp (disch:=omega) [zG38,DtInst.cells,DtCmd.cells,DtId.cells])|(intro _)
            all_goals (refine hK _ ?_;clear hK K)
            all_goals
             first | have hsx:=hws.1 ⟨by assumption,by assumption⟩ | have hsx:=hws.2 (λhh=>by first | exact hh.2 (by assumption) | exact absurd hh.1 (by assumption))
             refine ⟨_,LeS.kx [(501,501)] [(0,.sl 16 (l.map DtInst.cells)),(3,.arr 501 0 (waT l (i+1)).length),(10,.sl 16 (l.map DtInst.cells)),(11,(.g (.int .i64 ((l.length:Nat))))),(12,(.g (.int .i64 (((i+1):Nat)))))] [(501,.win 2 ((waT l (i+1)).map DtId.cells))] (by simp [zG39,KpR,renV2,renV,zbk,DtId.cells,zgp,zbv];try (first|(rw [hsx];done)|(rw [hsx];simp;done))) (by simp [zG39,KpOX,renO,plO,cvO,renV,pl1,DtId.cells,zgp,zbv];try (first|(rw [hsx];done)|(rw [hsx];simp [DtId.cells];done))) (by rfl) (by simp) (by simp) (by rfl) (by simp [zG40,formsX]),_,?_,i+1,rfl,?_,rfl⟩
             ·omega
             ·omega
      ·try simp [zG41,zbe,zbd,zco,zcu] at hc2
       all_goals
        refine zb3 ?_
        refine zbq ?_
        refine AW_x rfl rfl λK hK=>?_
        simp (disch:=omega) [zG38,DtInst.cells,DtCmd.cells,DtId.cells]
        repeat' first|(exfalso;omega)|(refine ⟨λ_=>?_,λ_=>?_⟩)|(refine ⟨by omega,?_⟩)|(simp (disch:=omega) [zG38,DtInst.cells,DtCmd.cells,DtId.cells])|(intro _)
        all_goals (refine hK _ ?_;clear hK K)
        all_goals
         refine zbr (zc2 [501] [] (by simp [zG39,List.range_succ]) (by simp) ?_)
         simp (disch:=omega) [zG38,DtInst.cells,DtCmd.cells,DtId.cells,hpb]
         all_goals first|(exfalso;exact absurd hp (by assumption))|(rw [waT_e l i (by omega)];exact ⟨rfl,rfl⟩) | trace_state
 ·have hpb:=zce hp
  have hpf:InstsP l=False:=propext ⟨hp,False.elim⟩
  refine zb5 Tryz.func16 (by rfl) (by rfl) (by rw [Tryz.ntmps16];exact Nat.le_of_ble_eq_true rfl) rfl (by simp) rfl rfl ?_
  rw [Tryz.ntmps16]
  refine zfl   ?_
  refine AW_k [(0,_)] ⟨rfl,trivial⟩ ?_
  refine AW_x rfl rfl λK hK=>?_
  simp (disch:=omega) [zG38,DtInst.cells,DtCmd.cells,DtId.cells]
  repeat' first|(refine ⟨by omega,?_⟩)|(intro _)
  refine hK _ ?_;clear hK K
  refine zbj ?_
  refine AW_x rfl rfl λK hK=>?_
  simp (disch:=omega) [zG38,DtInst.cells,DtCmd.cells,DtId.cells]
  repeat' first|(exfalso;omega)|(refine zcx (zbc zbw zbi) (zct _ (by assumption)) rfl ?_;simp (disch:=omega) [zG38,DtInst.cells,DtCmd.cells,DtId.cells])|(refine zcy (zct _ (by assumption)) (by rfl) ?_ ?_;(focus (simp (disch:=omega) [zG38,DtInst.cells,DtCmd.cells,DtId.cells];done));simp (disch:=omega) [zG38,DtInst.cells,DtCmd.cells,DtId.cells])|(refine ⟨by omega,?_⟩)|(simp (disch:=omega) [zG38,DtInst.cells,DtCmd.cells,DtId.cells])|(intro _)
  refine hK _ ?_;clear hK K
  refine zbm rfl (λhc4=>?_) (λhc4=>?_)
  ·try simp [zG41,zbe,zbd,zco,zcu,hpf] at hc4
   all_goals
    refine AW_x rfl rfl λK hK=>?_
    simp (disch:=omega) [zG38,DtInst.cells,DtCmd.cells,DtId.cells]
    repeat' first|(exfalso;omega)|(refine ⟨λ_=>?_,λ_=>?_⟩)|(refine ⟨by omega,?_⟩)|(simp (disch:=omega) [zG38,DtInst.cells,DtCmd.cells,DtId.cells])|(intro _)
    all_goals (refine hK _ ?_;clear hK K)
    all_goals
     refine zbr (zc2 [500] [(500,2)] (by simp [zG39,List.range_succ]) (by simp) ?_)
     simp (disch:=omega) [zG38,DtInst.cells,DtCmd.cells,DtId.cells,hpb]
     all_goals first|(exfalso;exact absurd (by assumption) hp) | trace_state
  ·try simp [zG41,zbe,zbd,zco,zcu,hpf] at hc4
   all_goals
    refine zbn ?_
    refine zbq ?_
    refine AW_x rfl rfl λK hK=>?_
    simp (disch:=omega) [zG38,DtInst.cells,DtCmd.cells,DtId.cells]
    repeat' first|(exfalso;omega)|(refine ⟨λ_=>?_,λ_=>?_⟩)|(refine ⟨by omega,?_⟩)|(simp (disch:=omega) [zG38,DtInst.cells,DtCmd.cells,DtId.cells])|(intro _)
    all_goals (refine hK _ ?_;clear hK K)
    all_goals
     refine zbj ?_
     refine AW_x rfl rfl λK hK=>?_
     simp (disch:=omega) [zG38,DtInst.cells,DtCmd.cells,DtId.cells]
     repeat' first|(refine ⟨by omega,?_⟩)|(simp (disch:=omega) [zG38,DtInst.cells,DtCmd.cells,DtId.cells])|(intro _)
     refine hK _ ?_;clear hK K
     refine zbl ?_
     done
end Go.Proofs.YtodmafgmdlkhoaaGreat.Vs
end
