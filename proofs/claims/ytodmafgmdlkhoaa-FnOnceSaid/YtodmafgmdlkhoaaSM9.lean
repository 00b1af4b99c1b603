import Derived.Test.YtodmafgmdlkhoaaSM7
import Derived.Test.YtodmafgmdlkhoaaSM8
section
namespace Go.Proofs.Ytodmafgmdlkhoaa.Vs
set_option linter.all false
set_option maxRecDepth 100000
set_option maxHeartbeats 4000000
/-! a right command, drawn -/
structure RS where
 x:DtCmd
 c:Cur
def S0(l:List Int)(c:Cur):RS:=⟨⟨1+below l 7 c,1+below l 3 (belowS l 7 c),1+below l 6 (belowS l 3 (belowS l 7 c)),[],[],[],0,[]⟩,belowS l 6 (belowS l 3 (belowS l 7 c))⟩
def S1(l:List Int)(c:Cur):RS:=if below l 4 (S0 l c).c=0 then ⟨{ (S0 l c).x with fKind:=3 },belowS l 4 (S0 l c).c⟩ else ⟨(S0 l c).x,belowS l 4 (S0 l c).c⟩
def S2(l:List Int)(c:Cur):RS:=if (S1 l c).x.fKind=7 then S1 l c else ⟨{ (S1 l c).x with fSet:=([[97],[98],[97,98]]:List (List UInt8)).getD (below l 3 (S1 l c).c).toNat [] },belowS l 3 (S1 l c).c⟩
def S3(l:List Int)(c:Cur):RS:=if (S2 l c).x.fKind=3∨(S2 l c).x.fKind=4 then ⟨{ (S2 l c).x with fName:=([[120],[121],[122]]:List (List UInt8)).getD (below l 3 (S2 l c).c).toNat [] },belowS l 3 (S2 l c).c⟩ else S2 l c
def S4(l:List Int)(c:Cur):RS:=if (S3 l c).x.fKind=4 then ⟨{ (S3 l c).x with fTag:=([[107,101,101,112],[116]]:List (List UInt8)).getD (below l 2 (S3 l c).c).toNat [] },belowS l 2 (S3 l c).c⟩ else S3 l c
def S5(l:List Int)(c:Cur):RS:=if (S4 l c).x.fKind=5 then ⟨{ (S4 l c).x with fN:=below l 4 (S4 l c).c },belowS l 4 (S4 l c).c⟩ else S4 l c
def chT(l:List Int)(c:Cur):List UInt8:=shortS (strN [IntKind.u8.wrap (below l 4 c)])
def chL(l:List Int):Nat→List (List UInt8) × Cur→List (List UInt8) × Cur
 | 0,s=>s
 | n+1,s=>chL l n (s.1++[chT l s.2],belowS l 4 s.2)
def S6(l:List Int)(c:Cur):RS:=if (S5 l c).x.fKind=3 then
 ⟨{ (S5 l c).x with fChunks:=(chL l (1+below l 3 (S5 l c).c).toNat ([],belowS l 3 (S5 l c).c)).1 },(chL l (1+below l 3 (S5 l c).c).toNat ([],belowS l 3 (S5 l c).c)).2⟩ else S5 l c
def CmdD(x:DtCmd):Prop:=x.fSet.length≤16∧x.fName.length≤16∧x.fTag.length≤16∧x.fChunks.length≤4∧∀t∈x.fChunks,t.length≤16
theorem zdv(xs:List (List UInt8))(n:Nat)(h:∀x∈xs,x.length≤16):(xs.getD n []).length≤16:=by
 rw [List.getD_eq_getElem?_getD]
 cases hx:xs[n]? with
 | none=>simp
 | some x=>exact h x (List.mem_of_getElem? hx)
theorem chL_len(l:List Int):∀(n:Nat) (s:List (List UInt8) × Cur),(∀t∈s.1,t.length≤16)→(chL l n s).1.length=s.1.length+n∧∀t∈(chL l n s).1,t.length≤16
 | 0,s,h=>⟨rfl,h⟩
 | n+1,s,h=>by
  have:=chL_len l n (s.1++[chT l s.2],belowS l 4 s.2) λt ht=>by
   rcases List.mem_append.1 ht with ht | ht
   ·exact h t ht
   ·rw [List.mem_singleton] at ht;rw [ht];unfold chT shortS;rw [List.length_take];omega
  refine ⟨?_,this.2⟩
  rw [chL,this.1];simp;omega
theorem S_bd(l:List Int)(c:Cur):CmdD (S6 l c).x∧0≤(S0 l c).x.fKind:=by
 have h0:=zdh l 7 c
 have k0:(S0 l c).x.fSet=[]∧(S0 l c).x.fName=[]∧(S0 l c).x.fTag=[]∧(S0 l c).x.fChunks=[]:=⟨rfl,rfl,rfl,rfl⟩
 have k1:(S1 l c).x.fSet=[]∧(S1 l c).x.fName=[]∧(S1 l c).x.fTag=[]∧(S1 l c).x.fChunks=[]:=by unfold S1;split<;>exact k0
 have k2:(S2 l c).x.fSet.length≤16∧(S2 l c).x.fName=[]∧(S2 l c).x.fTag=[]∧(S2 l c).x.fChunks=[]:=by
  unfold S2;split
  ·exact ⟨by rw [k1.1];simp,k1.2⟩
  ·exact ⟨zdv _ _ (by simp),k1.2⟩
 have k3:(S3 l c).x.fSet.length≤16∧(S3 l c).x.fName.length≤16∧(S3 l c).x.fTag=[]∧(S3 l c).x.fChunks=[]:=by
  unfold S3;split
  ·exact ⟨k2.1,zdv _ _ (by simp),k2.2.2⟩
  ·exact ⟨k2.1,by rw [k2.2.1];simp,k2.2.2⟩
 have k4:(S4 l c).x.fSet.length≤16∧(S4 l c).x.fName.length≤16∧(S4 l c).x.fTag.length≤16∧(S4 l c).x.fChunks=[]:=by
  unfold S4;split
  ·exact ⟨k3.1,k3.2.1,zdv _ _ (by simp),k3.2.2.2⟩
  ·exact ⟨k3.1,k3.2.1,by rw [k3.2.2.1];simp,k3.2.2.2⟩
 have k5:(S5 l c).x.fSet.length≤16∧(S5 l c).x.fName.length≤16∧(S5 l c).x.fTag.length≤16∧(S5 l c).x.fChunks=[]:=by
  unfold S5;split<;>exact k4
 refine ⟨?_,by show 0≤1+below l 7 c;omega⟩
 have hb:=zdh l 3 (S5 l c).c
 unfold S6;split
 ·obtain ⟨h1,h2⟩:=chL_len l (1+below l 3 (S5 l c).c).toNat ([],belowS l 3 (S5 l c).c) (by simp)
  exact ⟨k5.1,k5.2.1,k5.2.2.1,by simp only [h1,List.length_nil];omega,h2⟩
 ·exact ⟨k5.1,k5.2.1,k5.2.2.1,by rw [k5.2.2.2];simp,by rw [k5.2.2.2];simp⟩
theorem S5_ch(l:List Int)(c:Cur):(S5 l c).x.fChunks=[]:=by
 unfold S5;split
 all_goals (show (S4 l c).x.fChunks=[];unfold S4;split)
 all_goals (show (S3 l c).x.fChunks=[];unfold S3;split)
 all_goals (show (S2 l c).x.fChunks=[];unfold S2;split)
 all_goals (show (S1 l c).x.fChunks=[];unfold S1;split)
 all_goals rfl
def zG17:=And.intro @zcv (And.intro @gE (And.intro @tP (And.intro @and_assoc @List.range_succ)))
def zG18:=And.intro @zba @zbf
def zG19:=And.intro @zbq (And.intro @zbz @zbx)
def zG20:=And.intro @List.range_succ (And.intro @zbq @zbz)
theorem l4Right(l:List Int)(hl:Code l)(c:Cur):XCall Try.prog 53 [.ptr 8 0] [.cells (curC l c)] (.agg (cmdO (S6 l c).x 16)) [.cells (curC l (S6 l c).c)] [.own 1 ((S6 l c).x.fChunks.map cS)]:=by
 refine zbt Try.func53 (by rfl) (by rfl) (by rw [Try.ntmps53];exact Nat.le_of_ble_eq_true rfl) rfl (by simp) rfl rfl ?_
 rw [Try.ntmps53]
 refine zh1 (.cells (curC l c)) (by simp [cvO]<;>assumption) ?_
 refine AW_k [(0,_)] ⟨rfl,trivial⟩ ?_
 have hb1:=zdh l 7 c
 have hb2:=zdh l 3 (belowS l 7 c)
 have hb6:=zdh l 6 (belowS l 3 (belowS l 7 c))
 refine AW_x rfl rfl λK hK=>?_
 simp (disch:=omega) [zG17,cI,cS,cU,DtCmd.cells,cmdO,numsOf]
 repeat' first|(refine ⟨by omega,?_⟩)|(intro _)
 refine hK _ ?_;clear hK K
 refine AW_x rfl rfl λK hK=>?_
 simp (disch:=omega) [zG17,cI,cS,cU,DtCmd.cells,cmdO,numsOf]
 repeat' first|(exfalso;omega)|(refine zc3 (λ_=>xs_p (xs_g xs_z)) (zdx l hl _ _) rfl rfl ?_;simp (disch:=omega) [zG17,cI,cS,cU,DtCmd.cells,cmdO,numsOf])|(refine ⟨by omega,?_⟩)|(simp (disch:=omega) [zG17,cI,cS,cU,DtCmd.cells,cmdO,numsOf])|(intro _)
 refine hK _ ?_;clear hK K
 refine zf2 (λsS=>(True)∧sS = { env:=lkE [(0,.ptr 8 0),(2,.ptr 48 0),(3,.ptr 64 0)],ob:=lk [(8,.cells (curC l (S1 l c).c)),(48,.cells [(.g (.int .i64 (0))),(.g (.int .i64 (0))),(.g (.int .i64 (0))),.s [],.s [],.s [],(.g (.int .i64 (0))),.g (.slice none 0 0)]),(64,.cells [(.g (.int .i64 ((S1 l c).x.fKind))),(.g (.int .i64 ((S1 l c).x.fClient))),(.g (.int .i64 ((S1 l c).x.fNo))),.s (S1 l c).x.fSet,.s (S1 l c).x.fName,.s (S1 l c).x.fTag,(.g (.int .i64 ((S1 l c).x.fN))),.g (.slice none 0 0)])] }) ?_ ?_
 ·skip
  refine AW_x rfl rfl λK hK=>?_
  simp (disch:=omega) [zG17,cI,cS,cU,DtCmd.cells,cmdO,numsOf]
  repeat' first|(exfalso;omega)|(refine zc3 (λ_=>xs_p (xs_g xs_z)) (zko l hl _ _) rfl rfl ?_;simp (disch:=omega) [zG17,cI,cS,cU,DtCmd.cells,cmdO,numsOf])|(refine ⟨by omega,?_⟩)|(simp (disch:=omega) [zG17,cI,cS,cU,DtCmd.cells,cmdO,numsOf])|(intro _)
  refine hK _ ?_;clear hK K
  refine zbi rfl (λhc1=>?_) (λhc1=>?_)
  ·try simp [zG18,zbd,zbc] at hc1
   all_goals
    refine zb6 rfl rfl λK hK=>?_
    simp (disch:=omega) [zG17,cI,cS,cU,DtCmd.cells,cmdO,numsOf]
    repeat' first|(exfalso;omega)|(refine ⟨λ_=>?_,λ_=>?_⟩)|(refine ⟨by omega,?_⟩)|(simp (disch:=omega) [zG17,cI,cS,cU,DtCmd.cells,cmdO,numsOf])|(intro _)
    all_goals (refine hK _ ?_;clear hK K)
    all_goals
     have hR:S1 l c=⟨{ (S0 l c).x with fKind:=3 },belowS l 4 (S0 l c).c⟩:=if_pos (by assumption)
     refine ⟨_,LeS.kx [(8,8),(48,48),(64,64)] [(0,.ptr 8 0),(2,.ptr 48 0),(3,.ptr 64 0)] [(8,.cells (curC l (S1 l c).c)),(48,.cells [(.g (.int .i64 (0))),(.g (.int .i64 (0))),(.g (.int .i64 (0))),.s [],.s [],.s [],(.g (.int .i64 (0))),.g (.slice none 0 0)]),(64,.cells [(.g (.int .i64 ((S1 l c).x.fKind))),(.g (.int .i64 ((S1 l c).x.fClient))),(.g (.int .i64 ((S1 l c).x.fNo))),.s (S1 l c).x.fSet,.s (S1 l c).x.fName,.s (S1 l c).x.fTag,(.g (.int .i64 ((S1 l c).x.fN))),.g (.slice none 0 0)])] (by simp [zG19,KpR,renV2,renV,zbl,hR,curC,S0];try rfl) (by simp [zG19,KpOX,renO,plO,cvO,renV,pl1,hR,curC,S0];try rfl) (by rfl) (by simp) (by simp) (by rfl) (by simp [zG20,formsX]),?_,rfl⟩
     ·trivial
  ·try simp [zG18,zbd,zbc] at hc1
   all_goals
    refine zbk ?_
    have hR:S1 l c=⟨(S0 l c).x,belowS l 4 (S0 l c).c⟩:=if_neg (by assumption)
    refine ⟨_,LeS.kx [(8,8),(48,48),(64,64)] [(0,.ptr 8 0),(2,.ptr 48 0),(3,.ptr 64 0)] [(8,.cells (curC l (S1 l c).c)),(48,.cells [(.g (.int .i64 (0))),(.g (.int .i64 (0))),(.g (.int .i64 (0))),.s [],.s [],.s [],(.g (.int .i64 (0))),.g (.slice none 0 0)]),(64,.cells [(.g (.int .i64 ((S1 l c).x.fKind))),(.g (.int .i64 ((S1 l c).x.fClient))),(.g (.int .i64 ((S1 l c).x.fNo))),.s (S1 l c).x.fSet,.s (S1 l c).x.fName,.s (S1 l c).x.fTag,(.g (.int .i64 ((S1 l c).x.fN))),.g (.slice none 0 0)])] (by simp [zG19,KpR,renV2,renV,zbl,hR,curC,S0];try rfl) (by simp [zG19,KpOX,renO,plO,cvO,renV,pl1,hR,curC,S0];try rfl) (by rfl) (by simp) (by simp) (by rfl) (by simp [zG20,formsX]),?_,rfl⟩
    ·trivial
 ·rintro sS ⟨-,rfl⟩
  refine zf2 (λsS=>(True)∧sS = { env:=lkE [(0,.ptr 8 0),(2,.ptr 48 0),(3,.ptr 64 0)],ob:=lk [(8,.cells (curC l (S2 l c).c)),(48,.cells [(.g (.int .i64 (0))),(.g (.int .i64 (0))),(.g (.int .i64 (0))),.s [],.s [],.s [],(.g (.int .i64 (0))),.g (.slice none 0 0)]),(64,.cells [(.g (.int .i64 ((S2 l c).x.fKind))),(.g (.int .i64 ((S2 l c).x.fClient))),(.g (.int .i64 ((S2 l c).x.fNo))),.s (S2 l c).x.fSet,.s (S2 l c).x.fName,.s (S2 l c).x.fTag,(.g (.int .i64 ((S2 l c).x.fN))),.g (.slice none 0 0)])] }) ?_ ?_
  ·skip
   refine AW_x rfl rfl λK hK=>?_
   simp (disch:=omega) [zG17,cI,cS,cU,DtCmd.cells,cmdO,numsOf]
   repeat' first|(exfalso;omega)|(refine ⟨λ_=>?_,λ_=>?_⟩)|(refine ⟨by omega,?_⟩)|(simp (disch:=omega) [zG17,cI,cS,cU,DtCmd.cells,cmdO,numsOf])|(intro _)
   all_goals (refine hK _ ?_;clear hK K)
   all_goals
    refine zbi rfl (λhc2=>?_) (λhc2=>?_)
    ·try simp [zG18,zbd,zbc] at hc2
     all_goals
      refine zb6 rfl rfl λK hK=>?_
      simp (disch:=omega) [zG17,cI,cS,cU,DtCmd.cells,cmdO,numsOf]
      repeat' first|(exfalso;omega)|(first | refine zcm (λ_=>xs_p (xs_a xs_z)) (zhb l hl _ [[97],[98],[97,98]] (by simp)) rfl rfl rfl (by decide) rfl ?_ | refine zcm (λ_=>xs_p (xs_a xs_z)) (zhb l hl _ [[120],[121],[122]] (by simp)) rfl rfl rfl (by decide) rfl ?_ | refine zcm (λ_=>xs_p (xs_a xs_z)) (zhb l hl _ [[107,101,101,112],[116]] (by simp)) rfl rfl rfl (by decide) rfl ?_;simp (disch:=omega) [zG17,cI,cS,cU,DtCmd.cells,cmdO,numsOf])|(refine ⟨λ_=>?_,λ_=>?_⟩)|(refine ⟨by omega,?_⟩)|(simp (disch:=omega) [zG17,cI,cS,cU,DtCmd.cells,cmdO,numsOf])|(intro _)
      all_goals (refine hK _ ?_;clear hK K)
      all_goals
       have hR:S2 l c=⟨{ (S1 l c).x with fSet:=([[97],[98],[97,98]]:List (List UInt8)).getD (below l 3 (S1 l c).c).toNat [] },belowS l 3 (S1 l c).c⟩:=if_neg (by assumption)
       refine ⟨_,LeS.kx [(8,8),(48,48),(64,64)] [(0,.ptr 8 0),(2,.ptr 48 0),(3,.ptr 64 0)] [(8,.cells (curC l (S2 l c).c)),(48,.cells [(.g (.int .i64 (0))),(.g (.int .i64 (0))),(.g (.int .i64 (0))),.s [],.s [],.s [],(.g (.int .i64 (0))),.g (.slice none 0 0)]),(64,.cells [(.g (.int .i64 ((S2 l c).x.fKind))),(.g (.int .i64 ((S2 l c).x.fClient))),(.g (.int .i64 ((S2 l c).x.fNo))),.s (S2 l c).x.fSet,.s (S2 l c).x.fName,.s (S2 l c).x.fTag,(.g (.int .i64 ((S2 l c).x.fN))),.g (.slice none 0 0)])] (by simp [zG19,KpR,renV2,renV,zbl,hR,curC];try rfl) (by simp [zG19,KpOX,renO,plO,cvO,renV,pl1,hR,curC];try rfl) (by rfl) (by simp) (by simp) (by rfl) (by simp [zG20,formsX]),?_,rfl⟩
       ·trivial
    ·try simp [zG18,zbd,zbc] at hc2
     all_goals
      refine zbk ?_
      have hR:S2 l c=S1 l c:=if_pos (by assumption)
      refine ⟨_,LeS.kx [(8,8),(48,48),(64,64)] [(0,.ptr 8 0),(2,.ptr 48 0),(3,.ptr 64 0)] [(8,.cells (curC l (S2 l c).c)),(48,.cells [(.g (.int .i64 (0))),(.g (.int .i64 (0))),(.g (.int .i64 (0))),.s [],.s [],.s [],(.g (.int .i64 (0))),.g (.slice none 0 0)]),(64,.cells [(.g (.int .i64 ((S2 l c).x.fKind))),(.g (.int .i64 ((S2 l c).x.fClient))),(.g (.int .i64 ((S2 l c).x.fNo))),.s (S2 l c).x.fSet,.s (S2 l c).x.fName,.s (S2 l c).x.fTag,(.g (.int .i64 ((S2 l c).x.fN))),.g (.slice none 0 0)])] (by simp [zG19,KpR,renV2,renV,zbl,hR,curC];try rfl) (by simp [zG19,KpOX,renO,plO,cvO,renV,pl1,hR,curC];try rfl) (by rfl) (by simp) (by simp) (by rfl) (by simp [zG20,formsX]),?_,rfl⟩
      ·trivial
  ·rintro sS ⟨-,rfl⟩
   refine zf2 (λsS=>(True)∧sS = { env:=lkE [(0,.ptr 8 0),(2,.ptr 48 0),(3,.ptr 64 0)],ob:=lk [(8,.cells (curC l (S3 l c).c)),(48,.cells [(.g (.int .i64 (0))),(.g (.int .i64 (0))),(.g (.int .i64 (0))),.s [],.s [],.s [],(.g (.int .i64 (0))),.g (.slice none 0 0)]),(64,.cells [(.g (.int .i64 ((S3 l c).x.fKind))),(.g (.int .i64 ((S3 l c).x.fClient))),(.g (.int .i64 ((S3 l c).x.fNo))),.s (S3 l c).x.fSet,.s (S3 l c).x.fName,.s (S3 l c).x.fTag,(.g (.int .i64 ((S3 l c).x.fN))),.g (.slice none 0 0)])] }) ?_ ?_
   ·skip
    refine AW_x rfl rfl λK hK=>?_
    simp (disch:=omega) [zG17,cI,cS,cU,DtCmd.cells,cmdO,numsOf]
    repeat' first|(exfalso;omega)|(refine ⟨λ_=>?_,λ_=>?_⟩)|(refine ⟨by omega,?_⟩)|(simp (disch:=omega) [zG17,cI,cS,cU,DtCmd.cells,cmdO,numsOf])|(intro _)
    all_goals (refine hK _ ?_;clear hK K)
    all_goals
     refine zbi rfl (λhc3=>?_) (λhc3=>?_)
     ·try simp [zG18,zbd,zbc] at hc3
      all_goals
       refine zb6 rfl rfl λK hK=>?_
       simp (disch:=omega) [zG17,cI,cS,cU,DtCmd.cells,cmdO,numsOf]
       repeat' first|(exfalso;omega)|(first | refine zcm (λ_=>xs_p (xs_a xs_z)) (zhb l hl _ [[97],[98],[97,98]] (by simp)) rfl rfl rfl (by decide) rfl ?_ | refine zcm (λ_=>xs_p (xs_a xs_z)) (zhb l hl _ [[120],[121],[122]] (by simp)) rfl rfl rfl (by decide) rfl ?_ | refine zcm (λ_=>xs_p (xs_a xs_z)) (zhb l hl _ [[107,101,101,112],[116]] (by simp)) rfl rfl rfl (by decide) rfl ?_;simp (disch:=omega) [zG17,cI,cS,cU,DtCmd.cells,cmdO,numsOf])|(refine ⟨λ_=>?_,λ_=>?_⟩)|(refine ⟨by omega,?_⟩)|(simp (disch:=omega) [zG17,cI,cS,cU,DtCmd.cells,cmdO,numsOf])|(intro _)
       all_goals (refine hK _ ?_;clear hK K)
       all_goals
        have hR:S3 l c=⟨{ (S2 l c).x with fName:=([[120],[121],[122]]:List (List UInt8)).getD (below l 3 (S2 l c).c).toNat [] },belowS l 3 (S2 l c).c⟩:=if_pos (by first | assumption | grind)
        refine ⟨_,LeS.kx [(8,8),(48,48),(64,64)] [(0,.ptr 8 0),(2,.ptr 48 0),(3,.ptr 64 0)] [(8,.cells (curC l (S3 l c).c)),(48,.cells [(.g (.int .i64 (0))),(.g (.int .i64 (0))),(.g (.int .i64 (0))),.s [],.s [],.s [],(.g (.int .i64 (0))),.g (.slice none 0 0)]),(64,.cells [(.g (.int .i64 ((S3 l c).x.fKind))),(.g (.int .i64 ((S3 l c).x.fClient))),(.g (.int .i64 ((S3 l c).x.fNo))),.s (S3 l c).x.fSet,.s (S3 l c).x.fName,.s (S3 l c).x.fTag,(.g (.int .i64 ((S3 l c).x.fN))),.g (.slice none 0 0)])] (by simp [zG19,KpR,renV2,renV,zbl,hR,curC];try rfl) (by simp [zG19,KpOX,renO,plO,cvO,renV,pl1,hR,curC];try rfl) (by rfl) (by simp) (by simp) (by rfl) (by simp [zG20,formsX]),?_,rfl⟩
        ·trivial
     ·try simp [zG18,zbd,zbc] at hc3
      all_goals
       refine zbk ?_
       have hR:S3 l c=S2 l c:=if_neg (by first | assumption | grind)
       refine ⟨_,LeS.kx [(8,8),(48,48),(64,64)] [(0,.ptr 8 0),(2,.ptr 48 0),(3,.ptr 64 0)] [(8,.cells (curC l (S3 l c).c)),(48,.cells [(.g (.int .i64 (0))),(.g (.int .i64 (0))),(.g (.int .i64 (0))),.s [],.s [],.s [],(.g (.int .i64 (0))),.g (.slice none 0 0)]),(64,.cells [(.g (.int .i64 ((S3 l c).x.fKind))),(.g (.int .i64 ((S3 l c).x.fClient))),(.g (.int .i64 ((S3 l c).x.fNo))),.s (S3 l c).x.fSet,.s (S3 l c).x.fName,.s (S3 l c).x.fTag,(.g (.int .i64 ((S3 l c).x.fN))),.g (.slice none 0 0)])] (by simp [zG19,KpR,renV2,renV,zbl,hR,curC];try rfl) (by simp [zG19,KpOX,renO,plO,cvO,renV,pl1,hR,curC];try rfl) (by rfl) (by simp) (by simp) (by rfl) (by simp [zG20,formsX]),?_,rfl⟩
       ·trivial
   ·rintro sS ⟨-,rfl⟩
    refine zf2 (λsS=>(True)∧sS = { env:=lkE [(0,.ptr 8 0),(2,.ptr 48 0),(3,.ptr 64 0)],ob:=lk [(8,.cells (curC l (S4 l c).c)),(48,.cells [(.g (.int .i64 (0))),(.g (.int .i64 (0))),(.g (.int .i64 (0))),.s [],.s [],.s [],(.g (.int .i64 (0))),.g (.slice none 0 0)]),(64,.cells [(.g (.int .i64 ((S4 l c).x.fKind))),(.g (.int .i64 ((S4 l c).x.fClient))),(.g (.int .i64 ((S4 l c).x.fNo))),.s (S4 l c).x.fSet,.s (S4 l c).x.fName,.s (S4 l c).x.fTag,(.g (.int .i64 ((S4 l c).x.fN))),.g (.slice none 0 0)])] }) ?_ ?_
    ·skip
     refine AW_x rfl rfl λK hK=>?_
     simp (disch:=omega) [zG17,cI,cS,cU,DtCmd.cells,cmdO,numsOf]
     repeat' first|(exfalso;omega)|(refine ⟨λ_=>?_,λ_=>?_⟩)|(refine ⟨by omega,?_⟩)|(simp (disch:=omega) [zG17,cI,cS,cU,DtCmd.cells,cmdO,numsOf])|(intro _)
     all_goals (refine hK _ ?_;clear hK K)
     all_goals
      refine zbi rfl (λhc4=>?_) (λhc4=>?_)
      ·try simp [zG18,zbd,zbc] at hc4
       all_goals
        refine zb6 rfl rfl λK hK=>?_
        simp (disch:=omega) [zG17,cI,cS,cU,DtCmd.cells,cmdO,numsOf]
        repeat' first|(exfalso;omega)|(first | refine zcm (λ_=>xs_p (xs_a xs_z)) (zhb l hl _ [[97],[98],[97,98]] (by simp)) rfl rfl rfl (by decide) rfl ?_ | refine zcm (λ_=>xs_p (xs_a xs_z)) (zhb l hl _ [[120],[121],[122]] (by simp)) rfl rfl rfl (by decide) rfl ?_ | refine zcm (λ_=>xs_p (xs_a xs_z)) (zhb l hl _ [[107,101,101,112],[116]] (by simp)) rfl rfl rfl (by decide) rfl ?_;simp (disch:=omega) [zG17,cI,cS,cU,DtCmd.cells,cmdO,numsOf])|(refine ⟨λ_=>?_,λ_=>?_⟩)|(refine ⟨by omega,?_⟩)|(simp (disch:=omega) [zG17,cI,cS,cU,DtCmd.cells,cmdO,numsOf])|(intro _)
        all_goals (refine hK _ ?_;clear hK K)
        all_goals
         have hR:S4 l c=⟨{ (S3 l c).x with fTag:=([[107,101,101,112],[116]]:List (List UInt8)).getD (below l 2 (S3 l c).c).toNat [] },belowS l 2 (S3 l c).c⟩:=if_pos (by first | assumption | grind)
         refine ⟨_,LeS.kx [(8,8),(48,48),(64,64)] [(0,.ptr 8 0),(2,.ptr 48 0),(3,.ptr 64 0)] [(8,.cells (curC l (S4 l c).c)),(48,.cells [(.g (.int .i64 (0))),(.g (.int .i64 (0))),(.g (.int .i64 (0))),.s [],.s [],.s [],(.g (.int .i64 (0))),.g (.slice none 0 0)]),(64,.cells [(.g (.int .i64 ((S4 l c).x.fKind))),(.g (.int .i64 ((S4 l c).x.fClient))),(.g (.int .i64 ((S4 l c).x.fNo))),.s (S4 l c).x.fSet,.s (S4 l c).x.fName,.s (S4 l c).x.fTag,(.g (.int .i64 ((S4 l c).x.fN))),.g (.slice none 0 0)])] (by simp [zG19,KpR,renV2,renV,zbl,hR,curC];try rfl) (by simp [zG19,KpOX,renO,plO,cvO,renV,pl1,hR,curC];try rfl) (by rfl) (by simp) (by simp) (by rfl) (by simp [zG20,formsX]),?_,rfl⟩
         ·trivial
      ·try simp [zG18,zbd,zbc] at hc4
       all_goals
        refine zbk ?_
        have hR:S4 l c=S3 l c:=if_neg (by first | assumption | grind)
        refine ⟨_,LeS.kx [(8,8),(48,48),(64,64)] [(0,.ptr 8 0),(2,.ptr 48 0),(3,.ptr 64 0)] [(8,.cells (curC l (S4 l c).c)),(48,.cells [(.g (.int .i64 (0))),(.g (.int .i64 (0))),(.g (.int .i64 (0))),.s [],.s [],.s [],(.g (.int .i64 (0))),.g (.slice none 0 0)]),(64,.cells [(.g (.int .i64 ((S4 l c).x.fKind))),(.g (.int .i64 ((S4 l c).x.fClient))),(.g (.int .i64 ((S4 l c).x.fNo))),.s (S4 l c).x.fSet,.s (S4 l c).x.fName,.s (S4 l c).x.fTag,(.g (.int .i64 ((S4 l c).x.fN))),.g (.slice none 0 0)])] (by simp [zG19,KpR,renV2,renV,zbl,hR,curC];try rfl) (by simp [zG19,KpOX,renO,plO,cvO,renV,pl1,hR,curC];try rfl) (by rfl) (by simp) (by simp) (by rfl) (by simp [zG20,formsX]),?_,rfl⟩
        ·trivial
    ·rintro sS ⟨-,rfl⟩
     refine zf2 (λsS=>(True)∧sS = { env:=lkE [(0,.ptr 8 0),(2,.ptr 48 0),(3,.ptr 64 0)],ob:=lk [(8,.cells (curC l (S5 l c).c)),(48,.cells [(.g (.int .i64 (0))),(.g (.int .i64 (0))),(.g (.int .i64 (0))),.s [],.s [],.s [],(.g (.int .i64 (0))),.g (.slice none 0 0)]),(64,.cells [(.g (.int .i64 ((S5 l c).x.fKind))),(.g (.int .i64 ((S5 l c).x.fClient))),(.g (.int .i64 ((S5 l c).x.fNo))),.s (S5 l c).x.fSet,.s (S5 l c).x.fName,.s (S5 l c).x.fTag,(.g (.int .i64 ((S5 l c).x.fN))),.g (.slice none 0 0)])] }) ?_ ?_
     ·skip
      refine AW_x rfl rfl λK hK=>?_
      simp (disch:=omega) [zG17,cI,cS,cU,DtCmd.cells,cmdO,numsOf]
      repeat' first|(exfalso;omega)|(refine ⟨λ_=>?_,λ_=>?_⟩)|(refine ⟨by omega,?_⟩)|(simp (disch:=omega) [zG17,cI,cS,cU,DtCmd.cells,cmdO,numsOf])|(intro _)
      all_goals (refine hK _ ?_;clear hK K)
      all_goals
       refine zbi rfl (λhc5=>?_) (λhc5=>?_)
       ·try simp [zG18,zbd,zbc] at hc5
        all_goals
         refine zb6 rfl rfl λK hK=>?_
         simp (disch:=omega) [zG17,cI,cS,cU,DtCmd.cells,cmdO,numsOf]
         repeat' first|(exfalso;omega)|(refine zc3 (λ_=>xs_p (xs_g xs_z)) (zdx l hl _ _) rfl rfl ?_;simp (disch:=omega) [zG17,cI,cS,cU,DtCmd.cells,cmdO,numsOf])|(refine ⟨λ_=>?_,λ_=>?_⟩)|(refine ⟨by omega,?_⟩)|(simp (disch:=omega) [zG17,cI,cS,cU,DtCmd.cells,cmdO,numsOf])|(intro _)
         all_goals (refine hK _ ?_;clear hK K)
         all_goals
          have hR:S5 l c=⟨{ (S4 l c).x with fN:=below l 4 (S4 l c).c },belowS l 4 (S4 l c).c⟩:=if_pos (by first | assumption | grind)
          refine ⟨_,LeS.kx [(8,8),(48,48),(64,64)] [(0,.ptr 8 0),(2,.ptr 48 0),(3,.ptr 64 0)] [(8,.cells (curC l (S5 l c).c)),(48,.cells [(.g (.int .i64 (0))),(.g (.int .i64 (0))),(.g (.int .i64 (0))),.s [],.s [],.s [],(.g (.int .i64 (0))),.g (.slice none 0 0)]),(64,.cells [(.g (.int .i64 ((S5 l c).x.fKind))),(.g (.int .i64 ((S5 l c).x.fClient))),(.g (.int .i64 ((S5 l c).x.fNo))),.s (S5 l c).x.fSet,.s (S5 l c).x.fName,.s (S5 l c).x.fTag,(.g (.int .i64 ((S5 l c).x.fN))),.g (.slice none 0 0)])] (by simp [zG19,KpR,renV2,renV,zbl,hR,curC];try rfl) (by simp [zG19,KpOX,renO,plO,cvO,renV,pl1,hR,curC];try rfl) (by rfl) (by simp) (by simp) (by rfl) (by simp [zG20,formsX]),?_,rfl⟩
          ·trivial
       ·try simp [zG18,zbd,zbc] at hc5
        all_goals
         refine zbk ?_
         have hR:S5 l c=S4 l c:=if_neg (by first | assumption | grind)
         refine ⟨_,LeS.kx [(8,8),(48,48),(64,64)] [(0,.ptr 8 0),(2,.ptr 48 0),(3,.ptr 64 0)] [(8,.cells (curC l (S5 l c).c)),(48,.cells [(.g (.int .i64 (0))),(.g (.int .i64 (0))),(.g (.int .i64 (0))),.s [],.s [],.s [],(.g (.int .i64 (0))),.g (.slice none 0 0)]),(64,.cells [(.g (.int .i64 ((S5 l c).x.fKind))),(.g (.int .i64 ((S5 l c).x.fClient))),(.g (.int .i64 ((S5 l c).x.fNo))),.s (S5 l c).x.fSet,.s (S5 l c).x.fName,.s (S5 l c).x.fTag,(.g (.int .i64 ((S5 l c).x.fN))),.g (.slice none 0 0)])] (by simp [zG19,KpR,renV2,renV,zbl,hR,curC];try rfl) (by simp [zG19,KpOX,renO,plO,cvO,renV,pl1,hR,curC];try rfl) (by rfl) (by simp) (by simp) (by rfl) (by simp [zG20,formsX]),?_,rfl⟩
         ·trivial
     ·rintro sS ⟨-,rfl⟩
      refine zf2 (λsS=>(True)∧sS = { env:=lkE [(2,.ptr 48 0),(3,.ptr 64 0)],ob:=lk [(8,.cells (curC l (S6 l c).c)),(48,.cells [(.g (.int .i64 (0))),(.g (.int .i64 (0))),(.g (.int .i64 (0))),.s [],.s [],.s [],(.g (.int .i64 (0))),.g (.slice none 0 0)]),(64,.cells (cmdO (S6 l c).x 501)),(501,.own 1 ((S6 l c).x.fChunks.map cS))] }) ?_ ?_
      ·skip
       refine AW_x rfl rfl λK hK=>?_
       simp (disch:=omega) [zG17,cI,cS,cU,DtCmd.cells,cmdO,numsOf]
       repeat' first|(exfalso;omega)|(refine ⟨λ_=>?_,λ_=>?_⟩)|(refine ⟨by omega,?_⟩)|(simp (disch:=omega) [zG17,cI,cS,cU,DtCmd.cells,cmdO,numsOf])|(intro _)
       all_goals (refine hK _ ?_;clear hK K)
       all_goals
        refine zbi rfl (λhc6=>?_) (λhc6=>?_)
        ·try simp [zG18,zbd,zbc] at hc6
         all_goals
          refine AW_x rfl rfl λK hK=>?_
          simp (disch:=omega) [zG17,cI,cS,cU,DtCmd.cells,cmdO,numsOf]
          repeat' first|(exfalso;omega)|(refine zc3 (λ_=>xs_p (xs_g xs_z)) (zdx l hl _ _) rfl rfl ?_;simp (disch:=omega) [zG17,cI,cS,cU,DtCmd.cells,cmdO,numsOf])|(refine ⟨λ_=>?_,λ_=>?_⟩)|(refine ⟨by omega,?_⟩)|(simp (disch:=omega) [zG17,cI,cS,cU,DtCmd.cells,cmdO,numsOf])|(intro _)
          all_goals (refine hK _ ?_;clear hK K)
          all_goals
           refine zbn ?_
           have hb3:=zdh l 3 (S5 l c).c
           refine zbv (λmM sS=>∃(n:Nat) (ch:List (List UInt8)) (c2:Cur),mM=2*n∧(chL l n (ch,c2)=chL l (1+below l 3 (S5 l c).c).toNat ([],belowS l 3 (S5 l c).c)∧n+ch.length≤4)∧sS = { env:=lkE [(0,.ptr 8 0),(2,.ptr 48 0),(3,.ptr 64 0),(4,(.g (.int .i64 ((n:Nat)))))],ob:=lk [(8,.cells (curC l c2)),(48,.cells [(.g (.int .i64 (0))),(.g (.int .i64 (0))),(.g (.int .i64 (0))),.s [],.s [],.s [],(.g (.int .i64 (0))),.g (.slice none 0 0)]),(64,.cells [(.g (.int .i64 ((S5 l c).x.fKind))),(.g (.int .i64 ((S5 l c).x.fClient))),(.g (.int .i64 ((S5 l c).x.fNo))),.s (S5 l c).x.fSet,.s (S5 l c).x.fName,.s (S5 l c).x.fTag,(.g (.int .i64 ((S5 l c).x.fN))),.arr 501 0 ch.length]),(501,.own 1 (ch.map cS))] }) ?_ ?_
           ·refine ⟨_,LeS.trans (LeS.znc (cs:=[(.g (.int .i64 ((S5 l c).x.fKind))),(.g (.int .i64 ((S5 l c).x.fClient))),(.g (.int .i64 ((S5 l c).x.fNo))),.s (S5 l c).x.fSet,.s (S5 l c).x.fName,.s (S5 l c).x.fTag,(.g (.int .i64 ((S5 l c).x.fN))),.g (.slice none 0 0)]) 501 1 64 7 (by simp [zG19,zbl]) (by simp [zG19,zbl,cI,curC]) (by rfl)) (LeS.kx [(8,8),(48,48),(64,64),(501,501)] [(0,.ptr 8 0),(2,.ptr 48 0),(3,.ptr 64 0),(4,(.g (.int .i64 ((((1+below l 3 (S5 l c).c).toNat):Nat)))))] [(8,.cells (curC l (belowS l 3 (S5 l c).c))),(48,.cells [(.g (.int .i64 (0))),(.g (.int .i64 (0))),(.g (.int .i64 (0))),.s [],.s [],.s [],(.g (.int .i64 (0))),.g (.slice none 0 0)]),(64,.cells [(.g (.int .i64 ((S5 l c).x.fKind))),(.g (.int .i64 ((S5 l c).x.fClient))),(.g (.int .i64 ((S5 l c).x.fNo))),.s (S5 l c).x.fSet,.s (S5 l c).x.fName,.s (S5 l c).x.fTag,(.g (.int .i64 ((S5 l c).x.fN))),.arr 501 0 ([]).length]),(501,.own 1 (([]).map cS))] (by simp [zG19,KpR,renV2,renV,zbl,cI,curC];try (first | rfl|(simp (disch:=omega) [zcv];omega) | omega)) (by simp [zG19,KpOX,renO,plO,cvO,renV,pl1,cI,curC];try (first | rfl|(simp [cS,chT];done) | exact ⟨⟨(List.take_of_length_le (by simp)).symm,rfl⟩,by rw [List.take_of_length_le (by simp)];exact zci ch⟩ | trace_state)) (by rfl) (by simp) (by simp) (by rfl) (by simp [zG20,formsX])),_,(1+below l 3 (S5 l c).c).toNat,[],belowS l 3 (S5 l c).c,rfl,?_,rfl⟩
            ·exact ⟨rfl,by simp;omega⟩
           ·rintro mM sS ⟨n,ch,c2,rfl,⟨hch,hcl⟩,rfl⟩
            have hb4:=zdh l 4 c2
            refine zbj ?_
            refine AW_x rfl rfl λK hK=>?_
            simp (disch:=omega) [zG17,cI,cS,cU,DtCmd.cells,cmdO,numsOf]
            repeat' first|(refine ⟨by omega,?_⟩)|(intro _)
            refine hK _ ?_;clear hK K
            refine zbi rfl (λhc7=>?_) (λhc7=>?_)
            ·try simp [zG18,zbd,zbc] at hc7
             all_goals
              refine zbk ?_
              refine zbo ?_
              refine zbj ?_
              refine zbn ?_
              refine zhn rfl mix (by kernel_rfl) (by kernel_rfl) λK hK=>?_
              simp (disch:=omega) [zG17,cI,cS,cU,DtCmd.cells,cmdO,numsOf]
              repeat' first|(exfalso;omega)|(refine zmn (λ_=>xs_p (xs_g xs_z)) (zdx l hl _ _) rfl rfl ?_;simp (disch:=omega) [zG17,cI,cS,cU,DtCmd.cells,cmdO,numsOf])|(refine zfi (λst'=>(zbg zf1 zbm)) (zsw _ (by simp [strN])) rfl ?_;simp (disch:=omega) [zG17,cI,cS,cU,DtCmd.cells,cmdO,numsOf])|(refine zfj (zsw _ (by simp [strN])) (by rfl) (λst' hst=>?_) ?_;(focus (simp (disch:=omega) [zG17,cI,cS,cU,DtCmd.cells,cmdO,numsOf] at hst;simp (disch:=omega) [zG17,cI,cS,cU,DtCmd.cells,cmdO,numsOf,hst,zbe];done));simp (disch:=omega) [zG17,cI,cS,cU,DtCmd.cells,cmdO,numsOf])|(refine ⟨λ_=>?_,λ_=>?_⟩)|(refine ⟨by omega,?_⟩)|(simp (disch:=omega) [zG17,cI,cS,cU,DtCmd.cells,cmdO,numsOf])|(intro _)
              all_goals (refine hK _ _ (by kernel_rfl) ?_;clear hK K)
              all_goals
               refine zbo ?_
               refine zb6 rfl rfl λK hK=>?_
               simp (disch:=omega) [zG17,cI,cS,cU,DtCmd.cells,cmdO,numsOf]
               repeat' first|(refine ⟨by omega,?_⟩)|(intro _)
               refine hK _ ?_;clear hK K
               refine ⟨_,LeS.kx [(8,8),(48,48),(64,64),(501,1120)] [(0,.ptr 8 0),(2,.ptr 48 0),(3,.ptr 64 0),(4,(.g (.int .i64 (((n-1):Nat)))))] [(8,.cells (curC l (belowS l 4 c2))),(48,.cells [(.g (.int .i64 (0))),(.g (.int .i64 (0))),(.g (.int .i64 (0))),.s [],.s [],.s [],(.g (.int .i64 (0))),.g (.slice none 0 0)]),(64,.cells [(.g (.int .i64 ((S5 l c).x.fKind))),(.g (.int .i64 ((S5 l c).x.fClient))),(.g (.int .i64 ((S5 l c).x.fNo))),.s (S5 l c).x.fSet,.s (S5 l c).x.fName,.s (S5 l c).x.fTag,(.g (.int .i64 ((S5 l c).x.fN))),.arr 501 0 (ch++[chT l c2]).length]),(501,.own 1 ((ch++[chT l c2]).map cS))] (by simp [zG19,KpR,renV2,renV,zbl,cI,curC];try (first | rfl | omega)) (by simp [zG19,KpOX,renO,plO,cvO,renV,pl1,cI,curC];try (first | rfl|(simp [cS,chT];done) | exact ⟨⟨(List.take_of_length_le (by simp)).symm,rfl⟩,by rw [List.take_of_length_le (by simp)];exact zci ch⟩ | trace_state)) (by rfl) (by simp) (by simp) (by rfl) (by simp [zG20,formsX]),_,?_,n-1,ch++[chT l c2],belowS l 4 c2,rfl,?_,rfl⟩
               ·omega
               ·refine ⟨?_,by simp;omega⟩;rw [←hch];obtain ⟨m,rfl⟩:∃m,n=m+1:=⟨n-1,by omega⟩;rfl
            ·try simp [zG18,zbd,zbc] at hc7
             all_goals
              refine zb0 ?_
              have hR:S6 l c=⟨{ (S5 l c).x with fChunks:=ch },c2⟩:=by unfold S6;rw [if_pos (by assumption),←hch];obtain rfl:n=0:=(by omega);rfl
              refine ⟨_,LeS.kx [(8,8),(48,48),(64,64),(501,501)] [(2,.ptr 48 0),(3,.ptr 64 0)] [(8,.cells (curC l (S6 l c).c)),(48,.cells [(.g (.int .i64 (0))),(.g (.int .i64 (0))),(.g (.int .i64 (0))),.s [],.s [],.s [],(.g (.int .i64 (0))),.g (.slice none 0 0)]),(64,.cells (cmdO (S6 l c).x 501)),(501,.own 1 ((S6 l c).x.fChunks.map cS))] (by simp [zG19,KpR,renV2,renV,zbl,hR,cmdO,hch,curC];try rfl) (by simp [zG19,KpOX,renO,plO,cvO,renV,pl1,hR,cmdO,hch,curC];try rfl) (by rfl) (by simp) (by simp) (by rfl) (by simp [zG20,formsX]),?_,rfl⟩
              ·trivial
        ·try simp [zG18,zbd,zbc] at hc6
         all_goals
          refine zbk ?_
          have hR:S6 l c=S5 l c:=if_neg (by first | assumption | grind)
          have hch:=S5_ch l c
          refine ⟨_,LeS.trans (LeS.znc (cs:=[(.g (.int .i64 ((S5 l c).x.fKind))),(.g (.int .i64 ((S5 l c).x.fClient))),(.g (.int .i64 ((S5 l c).x.fNo))),.s (S5 l c).x.fSet,.s (S5 l c).x.fName,.s (S5 l c).x.fTag,(.g (.int .i64 ((S5 l c).x.fN))),.g (.slice none 0 0)]) 501 1 64 7 (by simp [zG19,zbl]) (by simp [zG19,zbl,hR,cmdO,hch,curC]) (by rfl)) (LeS.kx [(8,8),(48,48),(64,64),(501,501)] [(2,.ptr 48 0),(3,.ptr 64 0)] [(8,.cells (curC l (S6 l c).c)),(48,.cells [(.g (.int .i64 (0))),(.g (.int .i64 (0))),(.g (.int .i64 (0))),.s [],.s [],.s [],(.g (.int .i64 (0))),.g (.slice none 0 0)]),(64,.cells (cmdO (S6 l c).x 501)),(501,.own 1 ((S6 l c).x.fChunks.map cS))] (by simp [zG19,KpR,renV2,renV,zbl,hR,cmdO,hch,curC];try rfl) (by simp [zG19,KpOX,renO,plO,cvO,renV,pl1,hR,cmdO,hch,curC];try rfl) (by rfl) (by simp) (by simp) (by rfl) (by simp [zG20,formsX])),?_,rfl⟩
          ·trivial
      ·rintro sS ⟨-,rfl⟩
       refine AW_x rfl rfl λK hK=>?_
       simp (disch:=omega) [zG17,cI,cS,cU,DtCmd.cells,cmdO,numsOf]
       repeat' first|(exfalso;omega)|(refine ⟨λ_=>?_,λ_=>?_⟩)|(refine ⟨by omega,?_⟩)|(simp (disch:=omega) [zG17,cI,cS,cU,DtCmd.cells,cmdO,numsOf])|(intro _)
       all_goals (refine hK _ ?_;clear hK K)
       all_goals
        refine zbp (zb5 [501] [] (by simp [zG19,List.range_succ]) (by simp) ?_)
        simp (disch:=omega) [zG17,cI,cS,cU,DtCmd.cells,cmdO,numsOf,cmdO]
        all_goals trace_state
end Go.Proofs.Ytodmafgmdlkhoaa.Vs
end
section
namespace Go.Proofs.Ytodmafgmdlkhoaa.Vs
set_option linter.all false
set_option maxRecDepth 100000
set_option maxHeartbeats 2000000
theorem zb3:∀ns:List Int,numsOf (ns.map cU)=some ns
 | []=>rfl
 | n :: ns=>by
  have:=zb3 ns
  simp only [List.map_cons,cU,numsOf] at this ⊢
  rw [this];rfl
theorem zc6(xs:List Int):scR (xs.map cU)=true:=zd2 _ (λ_=>rfl) xs
def txV(l:List Int)(k:Int)(c:Cur):Int:=if k=1 then IntKind.u8.wrap ((byte l c).tmod 2) else if k=2 then IntKind.u8.wrap (IntKind.i64.wrap (97+(byte l c).tmod 4)) else IntKind.u8.wrap (byte l c)
def txL(l:List Int)(k:Int):Nat→List Int × Cur→List Int × Cur
 | 0,s=>s
 | n+1,s=>txL l k n (s.1++[txV l k s.2],stp l s.2)
theorem txL_len(l:List Int)(k:Int):∀(n:Nat) (s:List Int × Cur),(txL l k n s).1.length=s.1.length+n
 | 0,s=>rfl
 | n+1,s=>by rw [txL,txL_len];simp;omega
/-- A drawn text of at most m bytes, and the place behind it. -/
def TXT(l:List Int)(m:Nat)(c:Cur):List Int × Cur:=txL l (below l 4 c) (below l ((m:Int)+1) (belowS l 4 c)).toNat ([],belowS l ((m:Int)+1) (belowS l 4 c))
theorem zh7(l:List Int)(m:Nat)(c:Cur):(TXT l m c).1.length≤m:=by
 unfold TXT
 rw [txL_len]
 have:=zdh l ((m:Int)+1) (belowS l 4 c)
 simp only [List.length_nil]
 omega
theorem zz3{P:Program}{f:FuncId}{args:List AV}{wos wos' fos:List OB}{r:AV}(h:XCallE P f args wos fos.length (λr' w' f'=>r'=r∧w'=wos'∧f'=fos))(hlen:wos'.length=wos.length)(hxk':(wos'++fos).all OB.xk=true):XCall P f args wos r wos' fos:=by
 obtain ⟨h1,h2,h3⟩:=h
 refine ⟨h1,hlen,h2,hxk',λw I β χ vs g1 g2 g3 g4 g5 g6 g7=>(h3 w I β χ vs g1 g2 g3 g4 g5 g6 g7).mono ?_⟩
 rintro e w' ⟨r',w'',f',⟨rfl,rfl,rfl⟩,-,-,-,hh⟩
 exact hh
theorem l1TextE(l:List Int)(hl:Code l)(c:Cur)(m:Nat)(hm:m≤1000):XCallE Try.prog 55 [.ptr 8 0,(.g (.int .i64 ((m:Nat))))] [.cells (curC l c)] 0 (λr w f=>r=.s (strN (TXT l m c).1)∧w=[.cells (curC l (TXT l m c).2)]∧f=[]):=by
 refine zf3 Try.func55 (by rfl) (by rfl) (by rw [Try.ntmps55];exact Nat.le_of_ble_eq_true rfl) (by simp) rfl rfl ?_
 rw [Try.ntmps55]
 refine AW_y1 (.cells (curC l c)) (by simp [cvO]<;>assumption) ?_
 refine AW_k [(0,_),(1,_)] ⟨rfl,rfl,trivial⟩ ?_
 refine AW_x rfl rfl λK hK=>?_
 simp (disch:=omega) [zG17,cI,cS,cU,zbe,zba,zbf,zb3,numsOf,zc6,-aAppZ]
 repeat' first|(refine ⟨by omega,?_⟩)|(intro _)
 refine hK _ ?_;clear hK K
 refine AW_x rfl rfl λK hK=>?_
 simp (disch:=omega) [zG17,cI,cS,cU,zbe,zba,zbf,zb3,numsOf,zc6,-aAppZ]
 repeat' first|(refine ⟨by omega,?_⟩)|(simp (disch:=omega) [zG17,cI,cS,cU,zbe,zba,zbf,zb3,numsOf,zc6,-aAppZ])|(intro _)
 refine hK _ ?_;clear hK K
 refine AW_x rfl rfl λK hK=>?_
 simp (disch:=omega) [zG17,cI,cS,cU,zbe,zba,zbf,zb3,numsOf,zc6,-aAppZ]
 repeat' first|(exfalso;omega)|(refine zc3 (λ_=>xs_p (xs_g xs_z)) (zdx l hl _ _) rfl rfl ?_;simp (disch:=omega) [zG17,cI,cS,cU,zbe,zba,zbf,zb3,numsOf,zc6,-aAppZ])|(refine ⟨by omega,?_⟩)|(simp (disch:=omega) [zG17,cI,cS,cU,zbe,zba,zbf,zb3,numsOf,zc6,-aAppZ])|(intro _)
 refine hK _ ?_;clear hK K
 refine zbj ?_
 refine AW_x rfl rfl λK hK=>?_
 simp (disch:=omega) [zG17,cI,cS,cU,zbe,zba,zbf,zb3,numsOf,zc6,-aAppZ]
 repeat' first|(exfalso;omega)|(refine zc3 (λ_=>xs_p (xs_g xs_z)) (zdx l hl _ _) rfl rfl ?_;simp (disch:=omega) [zG17,cI,cS,cU,zbe,zba,zbf,zb3,numsOf,zc6,-aAppZ])|(refine ⟨by omega,?_⟩)|(simp (disch:=omega) [zG17,cI,cS,cU,zbe,zba,zbf,zb3,numsOf,zc6,-aAppZ])|(intro _)
 refine hK _ ?_;clear hK K
 refine zbn ?_
 have hb7:=zdh l ((m:Int)+1) (belowS l 4 c)
 refine zbv (λmM sS=>∃(n:Nat) (xs:List Int) (c2:Cur),mM=2*n∧(txL l (below l 4 c) n (xs,c2)=TXT l m c∧n+xs.length≤m)∧sS = { env:=lkE [(0,.ptr 8 0),(5,.arr 160 0 xs.length),(6,(.g (.int .i64 (below l 4 c)))),(7,(.g (.int .i64 ((n:Nat)))))],ob:=lk [(8,.cells (curC l c2)),(160,.own 1 (xs.map cU))] }) ?_ ?_
 ·refine ⟨_,LeS.kx [(8,8),(160,160)] [(0,.ptr 8 0),(5,.arr 160 0 ([]).length),(6,(.g (.int .i64 (below l 4 c)))),(7,(.g (.int .i64 ((((below l ((m:Int)+1) (belowS l 4 c)).toNat):Nat)))))] [(8,.cells (curC l (belowS l ((m:Int)+1) (belowS l 4 c)))),(160,.own 1 (([]).map cU))] (by simp [zG19,KpR,renV2,renV,zbl,curC,cU];try (first | with_reducible rfl | omega)) (by simp [zG19,KpOX,renO,plO,cvO,renV,pl1,curC,cU];try (first | with_reducible rfl | exact zc6 xs | exact ⟨rfl,zc6 xs⟩|(simp [cU,zbe];done) | trace_state)) (by rfl) (by simp) (by simp) (by rfl) (by simp [zG20,formsX]),_,(below l ((m:Int)+1) (belowS l 4 c)).toNat,[],belowS l ((m:Int)+1) (belowS l 4 c),rfl,?_,rfl⟩
  ·exact ⟨rfl,by simp;omega⟩
 ·rintro mM sS ⟨n,xs,c2,rfl,⟨htx,hnl⟩,rfl⟩
  refine zbj ?_
  refine AW_x rfl rfl λK hK=>?_
  simp (disch:=omega) [zG17,cI,cS,cU,zbe,zba,zbf,zb3,numsOf,zc6,-aAppZ]
  repeat' first|(refine ⟨by omega,?_⟩)|(intro _)
  refine hK _ ?_;clear hK K
  refine zbi rfl (λhc1=>?_) (λhc1=>?_)
  ·try simp [zG18,zbd,zbc] at hc1
   all_goals
    have hby:=zm8 l c2
    refine zbk ?_
    refine zbo ?_
    refine zbj ?_
    refine zbn ?_
    refine AW_x rfl rfl λK hK=>?_
    simp (disch:=omega) [zG17,cI,cS,cU,zbe,zba,zbf,zb3,numsOf,zc6,-aAppZ]
    repeat' first|(exfalso;omega)|(refine zc3 (λ_=>xs_p xs_z) (zpi l hl _) rfl rfl ?_;simp (disch:=omega) [zG17,cI,cS,cU,zbe,zba,zbf,zb3,numsOf,zc6,-aAppZ])|(refine ⟨λ_=>?_,λ_=>?_⟩)|(refine ⟨by omega,?_⟩)|(simp (disch:=omega) [zG17,cI,cS,cU,zbe,zba,zbf,zb3,numsOf,zc6,-aAppZ])|(intro _)
    all_goals (refine hK _ ?_;clear hK K)
    all_goals
     refine zbj ?_
     refine AW_x rfl rfl λK hK=>?_
     simp (disch:=omega) [zG17,cI,cS,cU,zbe,zba,zbf,zb3,numsOf,zc6,-aAppZ]
     repeat' first|(refine ⟨by omega,?_⟩)|(intro _)
     refine hK _ ?_;clear hK K
     refine zbi rfl (λhc2=>?_) (λhc2=>?_)
     ·try simp [zG18,zbd,zbc] at hc2
      all_goals
       refine zb6 rfl rfl λK hK=>?_
       simp (disch:=omega) [zG17,cI,cS,cU,zbe,zba,zbf,zb3,numsOf,zc6,-aAppZ]
       repeat' first|(exfalso;omega)|(refine ⟨λ_=>?_,λ_=>?_⟩)|(refine ⟨by omega,?_⟩)|(simp (disch:=omega) [zG17,cI,cS,cU,zbe,zba,zbf,zb3,numsOf,zc6,-aAppZ])|(intro _)
       all_goals (refine hK _ ?_;clear hK K)
       all_goals
        refine zbo ?_
        refine zbj ?_
        refine AW_x rfl rfl λK hK=>?_
        simp (disch:=omega) [zG17,cI,cS,cU,zbe,zba,zbf,zb3,numsOf,zc6,-aAppZ]
        repeat' first|(refine ⟨by omega,?_⟩)|(intro _)
        refine hK _ ?_;clear hK K
        refine zbi rfl (λhc3=>?_) (λhc3=>?_)
        ·try simp [zG18,zbd,zbc] at hc3
         all_goals
          refine zb6 rfl rfl λK hK=>?_
          simp (disch:=omega) [zG17,cI,cS,cU,zbe,zba,zbf,zb3,numsOf,zc6,-aAppZ]
          repeat' first|(exfalso;omega)|(refine ⟨λ_=>?_,λ_=>?_⟩)|(refine ⟨by omega,?_⟩)|(simp (disch:=omega) [zG17,cI,cS,cU,zbe,zba,zbf,zb3,numsOf,zc6,-aAppZ])|(intro _)
          all_goals (refine hK _ ?_;clear hK K)
          all_goals
           refine zbo ?_
           refine zb6 rfl rfl λK hK=>?_
           simp (disch:=omega) [zG17,cI,cS,cU,zbe,zba,zbf,zb3,numsOf,zc6,-aAppZ]
           repeat' first|(refine ⟨by omega,?_⟩)|(simp (disch:=omega) [zG17,cI,cS,cU,zbe,zba,zbf,zb3,numsOf,zc6,-aAppZ])|(intro _)
           refine hK _ ?_;clear hK K
           refine zbo ?_
           refine zb6 rfl rfl λK hK=>?_
           simp (disch:=omega) [zG17,cI,cS,cU,zbe,zba,zbf,zb3,numsOf,zc6,-aAppZ]
           repeat' first|(refine ⟨by omega,?_⟩)|(intro _)
           refine hK _ ?_;clear hK K
           refine ⟨_,LeS.kx [(8,8),(160,576)] [(0,.ptr 8 0),(5,.arr 160 0 (xs++[IntKind.u8.wrap (byte l c2)]).length),(6,(.g (.int .i64 (below l 4 c)))),(7,(.g (.int .i64 (((n-1):Nat)))))] [(8,.cells (curC l (stp l c2))),(160,.own 1 ((xs++[IntKind.u8.wrap (byte l c2)]).map cU))] (by simp [zG19,KpR,renV2,renV,zbl,curC,cU];try (first | with_reducible rfl | omega)) (by simp [zG19,KpOX,renO,plO,cvO,renV,pl1,curC,cU];try (first | with_reducible rfl | exact zc6 xs | exact ⟨rfl,zc6 xs⟩|(simp [cU,zbe];done) | trace_state)) (by rfl) (by simp) (by simp) (by rfl) (by simp [zG20,formsX]),_,?_,n-1,xs++[IntKind.u8.wrap (byte l c2)],stp l c2,rfl,?_,rfl⟩
           ·omega
           ·refine ⟨?_,by simp;omega⟩;rw [←htx];obtain ⟨q,rfl⟩:∃q,n=q+1:=⟨n-1,by omega⟩;simp [txL,txV, *]
        ·try simp [zG18,zbd,zbc] at hc3
         all_goals
          refine zbk ?_
          refine zbo ?_
          refine zb6 rfl rfl λK hK=>?_
          simp (disch:=omega) [zG17,cI,cS,cU,zbe,zba,zbf,zb3,numsOf,zc6,-aAppZ]
          repeat' first|(exfalso;omega)|(refine ⟨λ_=>?_,λ_=>?_⟩)|(refine ⟨by omega,?_⟩)|(simp (disch:=omega) [zG17,cI,cS,cU,zbe,zba,zbf,zb3,numsOf,zc6,-aAppZ])|(intro _)
          all_goals (refine hK _ ?_;clear hK K)
          all_goals
           refine zbo ?_
           refine zb6 rfl rfl λK hK=>?_
           simp (disch:=omega) [zG17,cI,cS,cU,zbe,zba,zbf,zb3,numsOf,zc6,-aAppZ]
           repeat' first|(refine ⟨by omega,?_⟩)|(intro _)
           refine hK _ ?_;clear hK K
           refine ⟨_,LeS.kx [(8,8),(160,576)] [(0,.ptr 8 0),(5,.arr 160 0 (xs++[IntKind.u8.wrap ((byte l c2).tmod 2)]).length),(6,(.g (.int .i64 (below l 4 c)))),(7,(.g (.int .i64 (((n-1):Nat)))))] [(8,.cells (curC l (stp l c2))),(160,.own 1 ((xs++[IntKind.u8.wrap ((byte l c2).tmod 2)]).map cU))] (by simp [zG19,KpR,renV2,renV,zbl,curC,cU];try (first | with_reducible rfl | omega)) (by simp [zG19,KpOX,renO,plO,cvO,renV,pl1,curC,cU];try (first | with_reducible rfl | exact zc6 xs | exact ⟨rfl,zc6 xs⟩|(simp [cU,zbe];done) | trace_state)) (by rfl) (by simp) (by simp) (by rfl) (by simp [zG20,formsX]),_,?_,n-1,xs++[IntKind.u8.wrap ((byte l c2).tmod 2)],stp l c2,rfl,?_,rfl⟩
           ·omega
           ·refine ⟨?_,by simp;omega⟩;rw [←htx];obtain ⟨q,rfl⟩:∃q,n=q+1:=⟨n-1,by omega⟩;simp [txL,txV, *]
     ·try simp [zG18,zbd,zbc] at hc2
      all_goals
       refine zbk ?_
       refine zbo ?_
       refine zbj ?_
       refine AW_x rfl rfl λK hK=>?_
       simp (disch:=omega) [zG17,cI,cS,cU,zbe,zba,zbf,zb3,numsOf,zc6,-aAppZ]
       repeat' first|(exfalso;omega)|(refine ⟨λ_=>?_,λ_=>?_⟩)|(refine ⟨by omega,?_⟩)|(simp (disch:=omega) [zG17,cI,cS,cU,zbe,zba,zbf,zb3,numsOf,zc6,-aAppZ])|(intro _)
       all_goals (refine hK _ ?_;clear hK K)
       all_goals
        refine zbi rfl (λhc4=>?_) (λhc4=>?_)
        ·try simp [zG18,zbd,zbc] at hc4
         all_goals
          refine zb6 rfl rfl λK hK=>?_
          simp (disch:=omega) [zG17,cI,cS,cU,zbe,zba,zbf,zb3,numsOf,zc6,-aAppZ]
          repeat' first|(exfalso;omega)|(refine ⟨λ_=>?_,λ_=>?_⟩)|(refine ⟨by omega,?_⟩)|(simp (disch:=omega) [zG17,cI,cS,cU,zbe,zba,zbf,zb3,numsOf,zc6,-aAppZ])|(intro _)
          all_goals (refine hK _ ?_;clear hK K)
          all_goals
           refine zbo ?_
           refine zb6 rfl rfl λK hK=>?_
           simp (disch:=omega) [zG17,cI,cS,cU,zbe,zba,zbf,zb3,numsOf,zc6,-aAppZ]
           repeat' first|(refine ⟨by omega,?_⟩)|(simp (disch:=omega) [zG17,cI,cS,cU,zbe,zba,zbf,zb3,numsOf,zc6,-aAppZ])|(intro _)
           refine hK _ ?_;clear hK K
           refine zbo ?_
           refine zb6 rfl rfl λK hK=>?_
           simp (disch:=omega) [zG17,cI,cS,cU,zbe,zba,zbf,zb3,numsOf,zc6,-aAppZ]
           repeat' first|(refine ⟨by omega,?_⟩)|(intro _)
           refine hK _ ?_;clear hK K
           refine ⟨_,LeS.kx [(8,8),(160,576)] [(0,.ptr 8 0),(5,.arr 160 0 (xs++[IntKind.u8.wrap (IntKind.i64.wrap (97+(byte l c2).tmod 4))]).length),(6,(.g (.int .i64 (below l 4 c)))),(7,(.g (.int .i64 (((n-1):Nat)))))] [(8,.cells (curC l (stp l c2))),(160,.own 1 ((xs++[IntKind.u8.wrap (IntKind.i64.wrap (97+(byte l c2).tmod 4))]).map cU))] (by simp [zG19,KpR,renV2,renV,zbl,curC,cU];try (first | with_reducible rfl | omega)) (by simp [zG19,KpOX,renO,plO,cvO,renV,pl1,curC,cU];try (first | with_reducible rfl | exact zc6 xs | exact ⟨rfl,zc6 xs⟩|(simp [cU,zbe];done) | trace_state)) (by rfl) (by simp) (by simp) (by rfl) (by simp [zG20,formsX]),_,?_,n-1,xs++[IntKind.u8.wrap (IntKind.i64.wrap (97+(byte l c2).tmod 4))],stp l c2,rfl,?_,rfl⟩
           ·omega
           ·refine ⟨?_,by simp;omega⟩;rw [←htx];obtain ⟨q,rfl⟩:∃q,n=q+1:=⟨n-1,by omega⟩;simp [txL,txV, *]
        ·try simp [zG18,zbd,zbc] at hc4
         all_goals
          refine zbk ?_
          refine zbo ?_
          refine zb6 rfl rfl λK hK=>?_
          simp (disch:=omega) [zG17,cI,cS,cU,zbe,zba,zbf,zb3,numsOf,zc6,-aAppZ]
          repeat' first|(exfalso;omega)|(refine ⟨λ_=>?_,λ_=>?_⟩)|(refine ⟨by omega,?_⟩)|(simp (disch:=omega) [zG17,cI,cS,cU,zbe,zba,zbf,zb3,numsOf,zc6,-aAppZ])|(intro _)
          all_goals (refine hK _ ?_;clear hK K)
          all_goals
           refine zbo ?_
           refine zb6 rfl rfl λK hK=>?_
           simp (disch:=omega) [zG17,cI,cS,cU,zbe,zba,zbf,zb3,numsOf,zc6,-aAppZ]
           repeat' first|(refine ⟨by omega,?_⟩)|(intro _)
           refine hK _ ?_;clear hK K
           refine ⟨_,LeS.kx [(8,8),(160,576)] [(0,.ptr 8 0),(5,.arr 160 0 (xs++[IntKind.u8.wrap (byte l c2)]).length),(6,(.g (.int .i64 (below l 4 c)))),(7,(.g (.int .i64 (((n-1):Nat)))))] [(8,.cells (curC l (stp l c2))),(160,.own 1 ((xs++[IntKind.u8.wrap (byte l c2)]).map cU))] (by simp [zG19,KpR,renV2,renV,zbl,curC,cU];try (first | with_reducible rfl | omega)) (by simp [zG19,KpOX,renO,plO,cvO,renV,pl1,curC,cU];try (first | with_reducible rfl | exact zc6 xs | exact ⟨rfl,zc6 xs⟩|(simp [cU,zbe];done) | trace_state)) (by rfl) (by simp) (by simp) (by rfl) (by simp [zG20,formsX]),_,?_,n-1,xs++[IntKind.u8.wrap (byte l c2)],stp l c2,rfl,?_,rfl⟩
           ·omega
           ·refine ⟨?_,by simp;omega⟩;rw [←htx];obtain ⟨q,rfl⟩:∃q,n=q+1:=⟨n-1,by omega⟩;simp [txL,txV, *]
  ·try simp [zG18,zbd,zbc] at hc1
   all_goals
    refine zb0 ?_
    refine zbo ?_
    refine zdp (LeS.frzR 160 (o:=.own 1 (xs.map cU)) (sz:=1) (xs:=xs.map cU) (zxm (cs:=curC l c2) (by simp [zG19,updL])) (by simp [formsX,List.range_succ]) (by simp [zG19,updL]) ⟨rfl,rfl⟩) ?_
    refine AW_x rfl rfl λK hK=>?_
    simp (disch:=omega) [zG17,cI,cS,cU,zbe,zba,zbf,zb3,numsOf,zc6,-aAppZ]
    repeat' first|(exfalso;omega)|(refine ⟨λ_=>?_,λ_=>?_⟩)|(refine ⟨by omega,?_⟩)|(simp (disch:=omega) [zG17,cI,cS,cU,zbe,zba,zbf,zb3,numsOf,zc6,-aAppZ])|(intro _)
    all_goals (refine hK _ ?_;clear hK K)
    all_goals
     refine zme (.s (strN xs)) [.cells (curC l c2)] [] ?po (by simp) (by simp) (by simp [OB.xk]) (zb5 [] [] (by simp [zG19,List.range_succ]) (by simp) ?en)
     case en =>
      simp (disch:=omega) [zG17,cI,cS,cU,zbe,zba,zbf,zb3,numsOf,zc6,-aAppZ]
      all_goals trace_state
     case po=>(obtain rfl:n=0:=(by omega));rw [←htx];exact ⟨rfl,rfl,rfl⟩
theorem l1Text(l:List Int)(hl:Code l)(c:Cur)(m:Nat)(hm:m≤1000):XCall Try.prog 55 [.ptr 8 0,(.g (.int .i64 ((m:Nat))))] [.cells (curC l c)] (.s (strN (TXT l m c).1)) [.cells (curC l (TXT l m c).2)] []:=zz3 (l1TextE l hl c m hm) rfl rfl
end Go.Proofs.Ytodmafgmdlkhoaa.Vs
end
section
namespace Go.Proofs.Ytodmafgmdlkhoaa.Vs
set_option linter.all false
set_option maxRecDepth 100000
set_option maxHeartbeats 2000000
theorem zbs{P:Program}{st:St}(nm:Nat)(ts:List TypeId)(s:AV)(n o l:Nat):aAppZ P st nm ts s (.arr n o l)=none:=by
 unfold aAppZ
 split
 ·rename_i h;cases h
 ·rfl
def CmdF(x:DtCmd):Prop:=(x.fSet.length≤16∧x.fSet≠[111,108,100])∧x.fName.length≤16∧x.fTag.length≤16∧x.fChunks.length≤5∧∀t∈x.fChunks,t.length≤16
theorem zgh(xs:List (List UInt8))(n:Nat)(h:∀x∈xs,x≠[111,108,100]):xs.getD n []≠[111,108,100]:=by
 rw [List.getD_eq_getElem?_getD]
 cases hx:xs[n]? with
 | none=>simp
 | some x=>exact h x (List.mem_of_getElem? hx)
theorem zfk(l:List Int)(c:Cur):(S6 l c).x.fSet≠[111,108,100]:=by
 have e6:(S6 l c).x.fSet=(S5 l c).x.fSet:=by unfold S6;split<;>rfl
 have e5:(S5 l c).x.fSet=(S4 l c).x.fSet:=by unfold S5;split<;>rfl
 have e4:(S4 l c).x.fSet=(S3 l c).x.fSet:=by unfold S4;split<;>rfl
 have e3:(S3 l c).x.fSet=(S2 l c).x.fSet:=by unfold S3;split<;>rfl
 have e1:(S1 l c).x.fSet=[]:=by unfold S1;split<;>rfl
 rw [e6,e5,e4,e3]
 unfold S2
 split
 ·rw [e1];simp
 ·exact zgh _ _ (by simp)
theorem zjv{x:DtCmd}(h:CmdD x)(ho:x.fSet≠[111,108,100]):CmdF x:=⟨⟨h.1,ho⟩,h.2.1,h.2.2.1,by have:=h.2.2.2.1;omega,h.2.2.2.2⟩
def setKind(x:DtCmd)(n:Int):DtCmd:={ x with fKind:=n }
def setClient(x:DtCmd)(n:Int):DtCmd:={ x with fClient:=n }
def setNo(x:DtCmd)(n:Int):DtCmd:={ x with fNo:=n }
def setSet(x:DtCmd)(n:List UInt8):DtCmd:={ x with fSet:=n }
def setN(x:DtCmd)(n:Int):DtCmd:={ x with fN:=n }
def addCh(x:DtCmd)(t:List UInt8):DtCmd:={ x with fChunks:=x.fChunks++[t] }
theorem zg0{x:DtCmd}{t:List UInt8}(h:CmdF x)(ht:t.length≤16)(ho:t≠[111,108,100]):CmdF (setSet x t):=⟨⟨ht,ho⟩,h.2⟩
theorem zh8{x:DtCmd}{t:List UInt8}(h:CmdD x)(ho:x.fSet≠[111,108,100])(ht:t.length≤16):CmdF (addCh x t):=by
 obtain ⟨h1,h2,h3,h4,h5⟩:=h
 refine ⟨⟨h1,ho⟩,h2,h3,by show (x.fChunks++[t]).length≤5;simp;omega,λu hu=>?_⟩
 rcases List.mem_append.1 hu with hu | hu
 ·exact h5 u hu
 ·rw [List.mem_singleton] at hu;rwa [hu]
def cA(l:List Int)(c:Cur):Cur:=(S6 l (belowS l 12 c)).c
def xA(l:List Int)(c:Cur):DtCmd:=(S6 l (belowS l 12 c)).x
def cE(l:List Int)(c:Cur):Cur:=belowS l 6 (belowS l 8 (cA l c))
attribute [local simp] cmdO
def CmdE(l:List Int)(r:AV)(wos' fos:List OB):Prop:=∃(x:DtCmd) (c':Cur),CmdF x∧r=.agg (cmdO x 16)∧wos'=[.cells (curC l c')]∧fos=[.own 1 (x.fChunks.map cS)]
theorem l4Cmd(l:List Int)(hl:Code l)(c:Cur):XCallE Try.prog 24 [.ptr 8 0] [.cells (curC l c)] 1 (CmdE l):=by
 refine zfe Try.func24 (by rfl) (by rfl) (by rw [Try.ntmps24];exact Nat.le_of_ble_eq_true rfl) (by simp) rfl ?_
 rw [Try.ntmps24]
 refine zh1 (.cells (curC l c)) (by simp [cvO]<;>assumption) ?_
 refine AW_k [(0,_)] ⟨rfl,trivial⟩ ?_
 refine AW_x rfl rfl λK hK=>?_
 simp (disch:=omega) [zG17,cI,cS,cU,DtCmd.cells,cmdO,zbe,zci,zba,zbf,zbs,-aAppZ]
 repeat' first|(refine ⟨by omega,?_⟩)|(intro _)
 refine hK _ ?_;clear hK K
 refine zbj ?_
 refine AW_x rfl rfl λK hK=>?_
 simp (disch:=omega) [zG17,cI,cS,cU,DtCmd.cells,cmdO,zbe,zci,zba,zbf,zbs,-aAppZ]
 repeat' first|(exfalso;omega)|(refine zc3 (λ_=>xs_p (xs_g xs_z)) (zko l hl _ _) rfl rfl ?_;simp (disch:=omega) [zG17,cI,cS,cU,DtCmd.cells,cmdO,zbe,zci,zba,zbf,zbs,-aAppZ])|(refine ⟨by omega,?_⟩)|(simp (disch:=omega) [zG17,cI,cS,cU,DtCmd.cells,cmdO,zbe,zci,zba,zbf,zbs,-aAppZ])|(intro _)
 refine hK _ ?_;clear hK K
 refine zbi rfl (λhc1=>?_) (λhc1=>?_)
 ·try simp [zG18,zbd,zbc] at hc1
  all_goals
   refine AW_x rfl rfl λK hK=>?_
   simp (disch:=omega) [zG17,cI,cS,cU,DtCmd.cells,cmdO,zbe,zci,zba,zbf,zbs,-aAppZ]
   repeat' first|(exfalso;omega)|(refine ⟨λ_=>?_,λ_=>?_⟩)|(refine ⟨by omega,?_⟩)|(simp (disch:=omega) [zG17,cI,cS,cU,DtCmd.cells,cmdO,zbe,zci,zba,zbf,zbs,-aAppZ])|(intro _)
   all_goals (refine hK _ ?_;clear hK K)
   all_goals
    refine zbp ⟨(.agg (cmdO ⟨0,0,0,[],[],[],0,[]⟩ 16)),[.cells (curC l (belowS l 12 c))],[.own 1 []],?po,(by simp),(by simp),(by simp [OB.xk]),(zb5 [1000] [(1000,1)] (by simp [zG19,List.range_succ]) (by simp) ?en)⟩
    case en =>
     simp (disch:=omega) [zG17,cI,cS,cU,DtCmd.cells,cmdO,zbe,zci,zba,zbf,zbs,-aAppZ]
     all_goals trace_state
    case po=>first | exact ⟨x,c3,hx,rfl,rfl,rfl⟩ | exact ⟨⟨0,0,0,[],[],[],0,[]⟩,_,by simp [CmdF],rfl,rfl,rfl⟩
 ·try simp [zG18,zbd,zbc] at hc1
  all_goals
   refine zbk ?_
   refine zbo ?_
   refine AW_x rfl rfl λK hK=>?_
   simp (disch:=omega) [zG17,cI,cS,cU,DtCmd.cells,cmdO,zbe,zci,zba,zbf,zbs,-aAppZ]
   repeat' first|(exfalso;omega)|(refine zc9 [8] false [] (l4Right l hl (belowS l 12 c)) ?_ ?_ ?_;(focus (simp [List.range_succ,nmC];done));(focus (simp (disch:=omega) [zG17,cI,cS,cU,DtCmd.cells,cmdO,zbe,zci,zba,zbf,zbs,-aAppZ,zbe];done));simp (disch:=omega) [zG17,cI,cS,cU,DtCmd.cells,cmdO,zbe,zci,zba,zbf,zbs,-aAppZ])|(refine ⟨λ_=>?_,λ_=>?_⟩)|(refine ⟨by omega,?_⟩)|(simp (disch:=omega) [zG17,cI,cS,cU,DtCmd.cells,cmdO,zbe,zci,zba,zbf,zbs,-aAppZ])|(intro _)
   all_goals (refine hK _ ?_;clear hK K)
   all_goals
    refine zf2 (λsS=>∃(x:DtCmd) (c3:Cur),(CmdF x)∧sS = { env:=lkE [(2,.ptr 48 0),(3,.ptr 64 0)],ob:=lk [(8,.cells (curC l c3)),(48,.cells [(.g (.int .i64 (0))),(.g (.int .i64 (0))),(.g (.int .i64 (0))),.s [],.s [],.s [],(.g (.int .i64 (0))),.g (.slice none 0 0)]),(64,.cells (cmdO x 501)),(501,.own 1 (x.fChunks.map cS))] }) ?_ ?_
    ·skip
     refine AW_x rfl rfl λK hK=>?_
     simp (disch:=omega) [zG17,cI,cS,cU,DtCmd.cells,cmdO,zbe,zci,zba,zbf,zbs,-aAppZ]
     repeat' first|(exfalso;omega)|(refine zc3 (λ_=>xs_p (xs_g xs_z)) (zko l hl _ _) rfl rfl ?_;simp (disch:=omega) [zG17,cI,cS,cU,DtCmd.cells,cmdO,zbe,zci,zba,zbf,zbs,-aAppZ])|(refine ⟨by omega,?_⟩)|(simp (disch:=omega) [zG17,cI,cS,cU,DtCmd.cells,cmdO,zbe,zci,zba,zbf,zbs,-aAppZ])|(intro _)
     refine hK _ ?_;clear hK K
     refine zbi rfl (λhc2=>?_) (λhc2=>?_)
     ·try simp [zG18,zbd,zbc] at hc2
      all_goals
       refine AW_x rfl rfl λK hK=>?_
       simp (disch:=omega) [zG17,cI,cS,cU,DtCmd.cells,cmdO,zbe,zci,zba,zbf,zbs,-aAppZ]
       repeat' first|(exfalso;omega)|(refine zc3 (λ_=>xs_p (xs_g xs_z)) (zdx l hl _ _) rfl rfl ?_;simp (disch:=omega) [zG17,cI,cS,cU,DtCmd.cells,cmdO,zbe,zci,zba,zbf,zbs,-aAppZ])|(refine ⟨λ_=>?_,λ_=>?_⟩)|(refine ⟨by omega,?_⟩)|(simp (disch:=omega) [zG17,cI,cS,cU,DtCmd.cells,cmdO,zbe,zci,zba,zbf,zbs,-aAppZ])|(intro _)
       all_goals (refine hK _ ?_;clear hK K)
       all_goals
        refine zbn ?_
        refine AW_x rfl rfl λK hK=>?_
        simp (disch:=omega) [zG17,cI,cS,cU,DtCmd.cells,cmdO,zbe,zci,zba,zbf,zbs,-aAppZ]
        repeat' first|(refine ⟨by omega,?_⟩)|(intro _)
        refine hK _ ?_;clear hK K
        refine zbi rfl (λhc3=>?_) (λhc3=>?_)
        ·try simp [zG18,zbd,zbc] at hc3
         all_goals
          refine zb6 rfl rfl λK hK=>?_
          simp (disch:=omega) [zG17,cI,cS,cU,DtCmd.cells,cmdO,zbe,zci,zba,zbf,zbs,-aAppZ]
          repeat' first|(exfalso;omega)|(first | refine zcm (λ_=>xs_p (xs_a xs_z)) (zcz l hl _ [-1,0,8,3] (by simp)) rfl rfl rfl (by decide) rfl ?_ | refine zcm (λ_=>xs_p (xs_a xs_z)) (zcz l hl _ [0,9,10] (by simp)) rfl rfl rfl (by decide) rfl ?_ | refine zcm (λ_=>xs_p (xs_a xs_z)) (zcz l hl _ [0,1000,1001] (by simp)) rfl rfl rfl (by decide) rfl ?_ | refine zcm (λ_=>xs_p (xs_a xs_z)) (zcz l hl _ [-1,9,10] (by simp)) rfl rfl rfl (by decide) rfl ?_;simp (disch:=omega) [zG17,cI,cS,cU,DtCmd.cells,cmdO,zbe,zci,zba,zbf,zbs,-aAppZ])|(refine ⟨λ_=>?_,λ_=>?_⟩)|(refine ⟨by omega,?_⟩)|(simp (disch:=omega) [zG17,cI,cS,cU,DtCmd.cells,cmdO,zbe,zci,zba,zbf,zbs,-aAppZ])|(intro _)
          all_goals (refine hK _ ?_;clear hK K)
          all_goals
           refine ⟨_,LeS.kx [(8,8),(48,48),(64,64),(501,144)] [(2,.ptr 48 0),(3,.ptr 64 0)] [(8,.cells (curC l (belowS l 4 (cE l c)))),(48,.cells [(.g (.int .i64 (0))),(.g (.int .i64 (0))),(.g (.int .i64 (0))),.s [],.s [],.s [],(.g (.int .i64 (0))),.g (.slice none 0 0)]),(64,.cells (cmdO (setKind (xA l c) (pickZ [-1,0,8,3] (below l 4 (cE l c)))) 501)),(501,.own 1 ((setKind (xA l c) (pickZ [-1,0,8,3] (below l 4 (cE l c)))).fChunks.map cS))] (by simp [zG19,KpR,renV2,renV,zbl,curC,cmdO,xA,cA,cE,setKind,setClient,setNo,setSet,setN,addCh];try (first | with_reducible rfl | omega)) (by simp [zG19,KpOX,renO,plO,cvO,renV,pl1,curC,cmdO,xA,cA,cE,setKind,setClient,setNo,setSet,setN,addCh];try (first | with_reducible rfl | exact zci _ | exact ⟨rfl,zci _⟩|(simp [cS,zci];done) | trace_state)) (by rfl) (by simp) (by simp) (by rfl) (by simp [zG20,formsX]),setKind (xA l c) (pickZ [-1,0,8,3] (below l 4 (cE l c))),belowS l 4 (cE l c),?_,rfl⟩
           ·have hs6:=(S_bd l (belowS l 12 c)).1;have hq:=zjv hs6 (zfk _ _);first | exact hq | exact zg0 hq (zdv _ _ (by simp)) (zgh _ _ (by simp)) | exact zh8 hs6 (zfk _ _) (by rw [zgz];have:=zh7 l 9 (cE l c);omega)
        ·try simp [zG18,zbd,zbc] at hc3
         all_goals
          refine AW_x rfl rfl λK hK=>?_
          simp (disch:=omega) [zG17,cI,cS,cU,DtCmd.cells,cmdO,zbe,zci,zba,zbf,zbs,-aAppZ]
          repeat' first|(exfalso;omega)|(refine ⟨λ_=>?_,λ_=>?_⟩)|(refine ⟨by omega,?_⟩)|(simp (disch:=omega) [zG17,cI,cS,cU,DtCmd.cells,cmdO,zbe,zci,zba,zbf,zbs,-aAppZ])|(intro _)
          all_goals (refine hK _ ?_;clear hK K)
          all_goals
           refine zbi rfl (λhc4=>?_) (λhc4=>?_)
           ·try simp [zG18,zbd,zbc] at hc4
            all_goals
             refine zb6 rfl rfl λK hK=>?_
             simp (disch:=omega) [zG17,cI,cS,cU,DtCmd.cells,cmdO,zbe,zci,zba,zbf,zbs,-aAppZ]
             repeat' first|(exfalso;omega)|(first | refine zcm (λ_=>xs_p (xs_a xs_z)) (zcz l hl _ [-1,0,8,3] (by simp)) rfl rfl rfl (by decide) rfl ?_ | refine zcm (λ_=>xs_p (xs_a xs_z)) (zcz l hl _ [0,9,10] (by simp)) rfl rfl rfl (by decide) rfl ?_ | refine zcm (λ_=>xs_p (xs_a xs_z)) (zcz l hl _ [0,1000,1001] (by simp)) rfl rfl rfl (by decide) rfl ?_ | refine zcm (λ_=>xs_p (xs_a xs_z)) (zcz l hl _ [-1,9,10] (by simp)) rfl rfl rfl (by decide) rfl ?_;simp (disch:=omega) [zG17,cI,cS,cU,DtCmd.cells,cmdO,zbe,zci,zba,zbf,zbs,-aAppZ])|(refine ⟨λ_=>?_,λ_=>?_⟩)|(refine ⟨by omega,?_⟩)|(simp (disch:=omega) [zG17,cI,cS,cU,DtCmd.cells,cmdO,zbe,zci,zba,zbf,zbs,-aAppZ])|(intro _)
             all_goals (refine hK _ ?_;clear hK K)
             all_goals
              refine ⟨_,LeS.kx [(8,8),(48,48),(64,64),(501,144)] [(2,.ptr 48 0),(3,.ptr 64 0)] [(8,.cells (curC l (belowS l 3 (cE l c)))),(48,.cells [(.g (.int .i64 (0))),(.g (.int .i64 (0))),(.g (.int .i64 (0))),.s [],.s [],.s [],(.g (.int .i64 (0))),.g (.slice none 0 0)]),(64,.cells (cmdO (setClient (xA l c) (pickZ [0,9,10] (below l 3 (cE l c)))) 501)),(501,.own 1 ((setClient (xA l c) (pickZ [0,9,10] (below l 3 (cE l c)))).fChunks.map cS))] (by simp [zG19,KpR,renV2,renV,zbl,curC,cmdO,xA,cA,cE,setKind,setClient,setNo,setSet,setN,addCh];try (first | with_reducible rfl | omega)) (by simp [zG19,KpOX,renO,plO,cvO,renV,pl1,curC,cmdO,xA,cA,cE,setKind,setClient,setNo,setSet,setN,addCh];try (first | with_reducible rfl | exact zci _ | exact ⟨rfl,zci _⟩|(simp [cS,zci];done) | trace_state)) (by rfl) (by simp) (by simp) (by rfl) (by simp [zG20,formsX]),setClient (xA l c) (pickZ [0,9,10] (below l 3 (cE l c))),belowS l 3 (cE l c),?_,rfl⟩
              ·have hs6:=(S_bd l (belowS l 12 c)).1;have hq:=zjv hs6 (zfk _ _);first | exact hq | exact zg0 hq (zdv _ _ (by simp)) (zgh _ _ (by simp)) | exact zh8 hs6 (zfk _ _) (by rw [zgz];have:=zh7 l 9 (cE l c);omega)
           ·try simp [zG18,zbd,zbc] at hc4
            all_goals
             refine AW_x rfl rfl λK hK=>?_
             simp (disch:=omega) [zG17,cI,cS,cU,DtCmd.cells,cmdO,zbe,zci,zba,zbf,zbs,-aAppZ]
             repeat' first|(exfalso;omega)|(refine ⟨λ_=>?_,λ_=>?_⟩)|(refine ⟨by omega,?_⟩)|(simp (disch:=omega) [zG17,cI,cS,cU,DtCmd.cells,cmdO,zbe,zci,zba,zbf,zbs,-aAppZ])|(intro _)
             all_goals (refine hK _ ?_;clear hK K)
             all_goals
              refine zbi rfl (λhc5=>?_) (λhc5=>?_)
              ·try simp [zG18,zbd,zbc] at hc5
               all_goals
                refine zb6 rfl rfl λK hK=>?_
                simp (disch:=omega) [zG17,cI,cS,cU,DtCmd.cells,cmdO,zbe,zci,zba,zbf,zbs,-aAppZ]
                repeat' first|(exfalso;omega)|(first | refine zcm (λ_=>xs_p (xs_a xs_z)) (zcz l hl _ [-1,0,8,3] (by simp)) rfl rfl rfl (by decide) rfl ?_ | refine zcm (λ_=>xs_p (xs_a xs_z)) (zcz l hl _ [0,9,10] (by simp)) rfl rfl rfl (by decide) rfl ?_ | refine zcm (λ_=>xs_p (xs_a xs_z)) (zcz l hl _ [0,1000,1001] (by simp)) rfl rfl rfl (by decide) rfl ?_ | refine zcm (λ_=>xs_p (xs_a xs_z)) (zcz l hl _ [-1,9,10] (by simp)) rfl rfl rfl (by decide) rfl ?_;simp (disch:=omega) [zG17,cI,cS,cU,DtCmd.cells,cmdO,zbe,zci,zba,zbf,zbs,-aAppZ])|(refine ⟨λ_=>?_,λ_=>?_⟩)|(refine ⟨by omega,?_⟩)|(simp (disch:=omega) [zG17,cI,cS,cU,DtCmd.cells,cmdO,zbe,zci,zba,zbf,zbs,-aAppZ])|(intro _)
                all_goals (refine hK _ ?_;clear hK K)
                all_goals
                 refine ⟨_,LeS.kx [(8,8),(48,48),(64,64),(501,144)] [(2,.ptr 48 0),(3,.ptr 64 0)] [(8,.cells (curC l (belowS l 3 (cE l c)))),(48,.cells [(.g (.int .i64 (0))),(.g (.int .i64 (0))),(.g (.int .i64 (0))),.s [],.s [],.s [],(.g (.int .i64 (0))),.g (.slice none 0 0)]),(64,.cells (cmdO (setNo (xA l c) (pickZ [0,1000,1001] (below l 3 (cE l c)))) 501)),(501,.own 1 ((setNo (xA l c) (pickZ [0,1000,1001] (below l 3 (cE l c)))).fChunks.map cS))] (by simp [zG19,KpR,renV2,renV,zbl,curC,cmdO,xA,cA,cE,setKind,setClient,setNo,setSet,setN,addCh];try (first | with_reducible rfl | omega)) (by simp [zG19,KpOX,renO,plO,cvO,renV,pl1,curC,cmdO,xA,cA,cE,setKind,setClient,setNo,setSet,setN,addCh];try (first | with_reducible rfl | exact zci _ | exact ⟨rfl,zci _⟩|(simp [cS,zci];done) | trace_state)) (by rfl) (by simp) (by simp) (by rfl) (by simp [zG20,formsX]),setNo (xA l c) (pickZ [0,1000,1001] (below l 3 (cE l c))),belowS l 3 (cE l c),?_,rfl⟩
                 ·have hs6:=(S_bd l (belowS l 12 c)).1;have hq:=zjv hs6 (zfk _ _);first | exact hq | exact zg0 hq (zdv _ _ (by simp)) (zgh _ _ (by simp)) | exact zh8 hs6 (zfk _ _) (by rw [zgz];have:=zh7 l 9 (cE l c);omega)
              ·try simp [zG18,zbd,zbc] at hc5
               all_goals
                refine AW_x rfl rfl λK hK=>?_
                simp (disch:=omega) [zG17,cI,cS,cU,DtCmd.cells,cmdO,zbe,zci,zba,zbf,zbs,-aAppZ]
                repeat' first|(exfalso;omega)|(refine ⟨λ_=>?_,λ_=>?_⟩)|(refine ⟨by omega,?_⟩)|(simp (disch:=omega) [zG17,cI,cS,cU,DtCmd.cells,cmdO,zbe,zci,zba,zbf,zbs,-aAppZ])|(intro _)
                all_goals (refine hK _ ?_;clear hK K)
                all_goals
                 refine zbi rfl (λhc6=>?_) (λhc6=>?_)
                 ·try simp [zG18,zbd,zbc] at hc6
                  all_goals
                   refine zb6 rfl rfl λK hK=>?_
                   simp (disch:=omega) [zG17,cI,cS,cU,DtCmd.cells,cmdO,zbe,zci,zba,zbf,zbs,-aAppZ]
                   repeat' first|(exfalso;omega)|(refine zcm (λ_=>xs_p (xs_a xs_z)) (zhb l hl _ [[],[65],[97,98,99,100,101,102,103,104],[97,98,99,100,101,102,103,104,105]] (by simp)) rfl rfl rfl (by decide) rfl ?_;simp (disch:=omega) [zG17,cI,cS,cU,DtCmd.cells,cmdO,zbe,zci,zba,zbf,zbs,-aAppZ])|(refine ⟨λ_=>?_,λ_=>?_⟩)|(refine ⟨by omega,?_⟩)|(simp (disch:=omega) [zG17,cI,cS,cU,DtCmd.cells,cmdO,zbe,zci,zba,zbf,zbs,-aAppZ])|(intro _)
                   all_goals (refine hK _ ?_;clear hK K)
                   all_goals
                    refine ⟨_,LeS.kx [(8,8),(48,48),(64,64),(501,144)] [(2,.ptr 48 0),(3,.ptr 64 0)] [(8,.cells (curC l (belowS l 4 (cE l c)))),(48,.cells [(.g (.int .i64 (0))),(.g (.int .i64 (0))),(.g (.int .i64 (0))),.s [],.s [],.s [],(.g (.int .i64 (0))),.g (.slice none 0 0)]),(64,.cells (cmdO (setSet (xA l c) (([[],[65],[97,98,99,100,101,102,103,104],[97,98,99,100,101,102,103,104,105]]:List (List UInt8)).getD (below l 4 (cE l c)).toNat [])) 501)),(501,.own 1 ((setSet (xA l c) (([[],[65],[97,98,99,100,101,102,103,104],[97,98,99,100,101,102,103,104,105]]:List (List UInt8)).getD (below l 4 (cE l c)).toNat [])).fChunks.map cS))] (by simp [zG19,KpR,renV2,renV,zbl,curC,cmdO,xA,cA,cE,setKind,setClient,setNo,setSet,setN,addCh];try (first | with_reducible rfl | omega)) (by simp [zG19,KpOX,renO,plO,cvO,renV,pl1,curC,cmdO,xA,cA,cE,setKind,setClient,setNo,setSet,setN,addCh];try (first | with_reducible rfl | exact zci _ | exact ⟨rfl,zci _⟩|(simp [cS,zci];done) | trace_state)) (by rfl) (by simp) (by simp) (by rfl) (by simp [zG20,formsX]),setSet (xA l c) (([[],[65],[97,98,99,100,101,102,103,104],[97,98,99,100,101,102,103,104,105]]:List (List UInt8)).getD (below l 4 (cE l c)).toNat []),belowS l 4 (cE l c),?_,rfl⟩
                    ·have hs6:=(S_bd l (belowS l 12 c)).1;have hq:=zjv hs6 (zfk _ _);first | exact hq | exact zg0 hq (zdv _ _ (by simp)) (zgh _ _ (by simp)) | exact zh8 hs6 (zfk _ _) (by rw [zgz];have:=zh7 l 9 (cE l c);omega)
                 ·try simp [zG18,zbd,zbc] at hc6
                  all_goals
                   refine AW_x rfl rfl λK hK=>?_
                   simp (disch:=omega) [zG17,cI,cS,cU,DtCmd.cells,cmdO,zbe,zci,zba,zbf,zbs,-aAppZ]
                   repeat' first|(exfalso;omega)|(refine ⟨λ_=>?_,λ_=>?_⟩)|(refine ⟨by omega,?_⟩)|(simp (disch:=omega) [zG17,cI,cS,cU,DtCmd.cells,cmdO,zbe,zci,zba,zbf,zbs,-aAppZ])|(intro _)
                   all_goals (refine hK _ ?_;clear hK K)
                   all_goals
                    refine zbi rfl (λhc7=>?_) (λhc7=>?_)
                    ·try simp [zG18,zbd,zbc] at hc7
                     all_goals
                      refine zb6 rfl rfl λK hK=>?_
                      simp (disch:=omega) [zG17,cI,cS,cU,DtCmd.cells,cmdO,zbe,zci,zba,zbf,zbs,-aAppZ]
                      repeat' first|(exfalso;omega)|(first | refine zcm (λ_=>xs_p (xs_a xs_z)) (zcz l hl _ [-1,0,8,3] (by simp)) rfl rfl rfl (by decide) rfl ?_ | refine zcm (λ_=>xs_p (xs_a xs_z)) (zcz l hl _ [0,9,10] (by simp)) rfl rfl rfl (by decide) rfl ?_ | refine zcm (λ_=>xs_p (xs_a xs_z)) (zcz l hl _ [0,1000,1001] (by simp)) rfl rfl rfl (by decide) rfl ?_ | refine zcm (λ_=>xs_p (xs_a xs_z)) (zcz l hl _ [-1,9,10] (by simp)) rfl rfl rfl (by decide) rfl ?_;simp (disch:=omega) [zG17,cI,cS,cU,DtCmd.cells,cmdO,zbe,zci,zba,zbf,zbs,-aAppZ])|(refine ⟨λ_=>?_,λ_=>?_⟩)|(refine ⟨by omega,?_⟩)|(simp (disch:=omega) [zG17,cI,cS,cU,DtCmd.cells,cmdO,zbe,zci,zba,zbf,zbs,-aAppZ])|(intro _)
                      all_goals (refine hK _ ?_;clear hK K)
                      all_goals
                       refine ⟨_,LeS.kx [(8,8),(48,48),(64,64),(501,144)] [(2,.ptr 48 0),(3,.ptr 64 0)] [(8,.cells (curC l (belowS l 3 (cE l c)))),(48,.cells [(.g (.int .i64 (0))),(.g (.int .i64 (0))),(.g (.int .i64 (0))),.s [],.s [],.s [],(.g (.int .i64 (0))),.g (.slice none 0 0)]),(64,.cells (cmdO (setN (xA l c) (pickZ [-1,9,10] (below l 3 (cE l c)))) 501)),(501,.own 1 ((setN (xA l c) (pickZ [-1,9,10] (below l 3 (cE l c)))).fChunks.map cS))] (by simp [zG19,KpR,renV2,renV,zbl,curC,cmdO,xA,cA,cE,setKind,setClient,setNo,setSet,setN,addCh];try (first | with_reducible rfl | omega)) (by simp [zG19,KpOX,renO,plO,cvO,renV,pl1,curC,cmdO,xA,cA,cE,setKind,setClient,setNo,setSet,setN,addCh];try (first | with_reducible rfl | exact zci _ | exact ⟨rfl,zci _⟩|(simp [cS,zci];done) | trace_state)) (by rfl) (by simp) (by simp) (by rfl) (by simp [zG20,formsX]),setN (xA l c) (pickZ [-1,9,10] (below l 3 (cE l c))),belowS l 3 (cE l c),?_,rfl⟩
                       ·have hs6:=(S_bd l (belowS l 12 c)).1;have hq:=zjv hs6 (zfk _ _);first | exact hq | exact zg0 hq (zdv _ _ (by simp)) (zgh _ _ (by simp)) | exact zh8 hs6 (zfk _ _) (by rw [zgz];have:=zh7 l 9 (cE l c);omega)
                    ·try simp [zG18,zbd,zbc] at hc7
                     all_goals
                      have hs6:=(S_bd l (belowS l 12 c)).1.2.2.2.1
                      refine zhn rfl mix (by kernel_rfl) (by kernel_rfl) λK hK=>?_
                      simp (disch:=omega) [zG17,cI,cS,cU,DtCmd.cells,cmdO,zbe,zci,zba,zbf,zbs,-aAppZ]
                      repeat' first|(exfalso;omega)|(refine zmn (λ_=>xs_p (xs_g xs_z)) (l1Text l hl _ 9 (by omega)) rfl rfl ?_;simp (disch:=omega) [zG17,cI,cS,cU,DtCmd.cells,cmdO,zbe,zci,zba,zbf,zbs,-aAppZ])|(refine ⟨λ_=>?_,λ_=>?_⟩)|(refine ⟨by omega,?_⟩)|(simp (disch:=omega) [zG17,cI,cS,cU,DtCmd.cells,cmdO,zbe,zci,zba,zbf,zbs,-aAppZ])|(intro _)
                      all_goals (refine hK _ _ (by kernel_rfl) ?_;clear hK K)
                      all_goals
                       refine ⟨_,LeS.kx [(8,8),(48,48),(64,64),(501,304)] [(2,.ptr 48 0),(3,.ptr 64 0)] [(8,.cells (curC l ((TXT l 9 (cE l c)).2))),(48,.cells [(.g (.int .i64 (0))),(.g (.int .i64 (0))),(.g (.int .i64 (0))),.s [],.s [],.s [],(.g (.int .i64 (0))),.g (.slice none 0 0)]),(64,.cells (cmdO (addCh (xA l c) (strN (TXT l 9 (cE l c)).1)) 501)),(501,.own 1 ((addCh (xA l c) (strN (TXT l 9 (cE l c)).1)).fChunks.map cS))] (by simp [zG19,KpR,renV2,renV,zbl,curC,cmdO,xA,cA,cE,setKind,setClient,setNo,setSet,setN,addCh];try (first | with_reducible rfl | omega)) (by simp [zG19,KpOX,renO,plO,cvO,renV,pl1,curC,cmdO,xA,cA,cE,setKind,setClient,setNo,setSet,setN,addCh];try (first | with_reducible rfl | exact zci _ | exact ⟨rfl,zci _⟩|(simp [cS,zci];done) | trace_state)) (by rfl) (by simp) (by simp) (by rfl) (by simp [zG20,formsX]),addCh (xA l c) (strN (TXT l 9 (cE l c)).1),(TXT l 9 (cE l c)).2,?_,rfl⟩
                       ·have hs6:=(S_bd l (belowS l 12 c)).1;have hq:=zjv hs6 (zfk _ _);first | exact hq | exact zg0 hq (zdv _ _ (by simp)) (zgh _ _ (by simp)) | exact zh8 hs6 (zfk _ _) (by rw [zgz];have:=zh7 l 9 (cE l c);omega)
     ·try simp [zG18,zbd,zbc] at hc2
      all_goals
       refine zbk ?_
       refine ⟨_,LeS.kx [(8,8),(48,48),(64,64),(501,144)] [(2,.ptr 48 0),(3,.ptr 64 0)] [(8,.cells (curC l (belowS l 8 (cA l c)))),(48,.cells [(.g (.int .i64 (0))),(.g (.int .i64 (0))),(.g (.int .i64 (0))),.s [],.s [],.s [],(.g (.int .i64 (0))),.g (.slice none 0 0)]),(64,.cells (cmdO (xA l c) 501)),(501,.own 1 ((xA l c).fChunks.map cS))] (by simp [zG19,KpR,renV2,renV,zbl,curC,cmdO,xA,cA,cE,setKind,setClient,setNo,setSet,setN,addCh];try (first | with_reducible rfl | omega)) (by simp [zG19,KpOX,renO,plO,cvO,renV,pl1,curC,cmdO,xA,cA,cE,setKind,setClient,setNo,setSet,setN,addCh];try (first | with_reducible rfl | exact zci _ | exact ⟨rfl,zci _⟩|(simp [cS,zci];done) | trace_state)) (by rfl) (by simp) (by simp) (by rfl) (by simp [zG20,formsX]),xA l c,belowS l 8 (cA l c),?_,rfl⟩
       ·have hs6:=(S_bd l (belowS l 12 c)).1;have hq:=zjv hs6 (zfk _ _);first | exact hq | exact zg0 hq (zdv _ _ (by simp)) (zgh _ _ (by simp)) | exact zh8 hs6 (zfk _ _) (by rw [zgz];have:=zh7 l 9 (cE l c);omega)
    ·rintro sS ⟨x,c3,hx,rfl⟩
     refine AW_x rfl rfl λK hK=>?_
     simp (disch:=omega) [zG17,cI,cS,cU,DtCmd.cells,cmdO,zbe,zci,zba,zbf,zbs,-aAppZ]
     repeat' first|(exfalso;omega)|(refine ⟨λ_=>?_,λ_=>?_⟩)|(refine ⟨by omega,?_⟩)|(simp (disch:=omega) [zG17,cI,cS,cU,DtCmd.cells,cmdO,zbe,zci,zba,zbf,zbs,-aAppZ])|(intro _)
     all_goals (refine hK _ ?_;clear hK K)
     all_goals
      refine zbp ⟨(.agg (cmdO x 16)),[.cells (curC l c3)],[.own 1 (x.fChunks.map cS)],?po,(by simp),(by simp),(by simp [OB.xk]),(zb5 [501] [] (by simp [zG19,List.range_succ]) (by simp) ?en)⟩
      case en =>
       simp (disch:=omega) [zG17,cI,cS,cU,DtCmd.cells,cmdO,zbe,zci,zba,zbf,zbs,-aAppZ]
       all_goals trace_state
      case po=>first | exact ⟨x,c3,hx,rfl,rfl,rfl⟩ | exact ⟨⟨0,0,0,[],[],[],0,[]⟩,_,by simp [CmdF],rfl,rfl,rfl⟩
end Go.Proofs.Ytodmafgmdlkhoaa.Vs
end
