import Derived.Test.YtodmafgmdlkhoaaDoorVs5
import Derived.Lib.Overlaps
section
open Go
namespace Go.Proofs.YtodmafgmdlkhoaaDoor.Vs
set_option linter.all false
open Go.RowKit
variable {P:Program}{C:Cx}{st:St}{a:Act}{w:World}{I:Nat→Prop}{β:Beta}{φ:Nat→List Nat}
theorem Conc.ow(hC:Conc C st a w I β φ){n sz:Nat}{xs:List (List AV)}(hsc:scR xs=true)(hob:st.ob n=some (.own sz xs)):Conc C { st with ob:=upd st.ob n (some (.win sz xs)) } a w I β φ:=by
 have hdom:∀m,upd st.ob n (some (OB.win sz xs)) m=none→st.ob m=none:=by
  intro m ho
  by_cases hm:m=n
  ·subst hm;simp [zbd] at ho
  ·rwa [zbb _ _ hm] at ho
 refine hC.move (λ_=>False) (Evo.refl _ w) (λ_ hf=>hf.elim) (λ_ hb=>hb) (λ_ hb=>.inl hb) (λ_ _ hb=>hb) ?_ (λm ho=>hC.dom m (hdom m ho)) (λm ho=>hC.fdom m (hdom m ho)) hC.sep hC.nimm hC.flt ?_ ?_
 ·intro m o ho
  by_cases hm:m=n
  ·subst hm
   simp only [zbd,Option.some.injEq] at ho
   subst ho
   obtain ⟨bl,g1,g2,g3,g4,g5,g6⟩:=hC.ob m _ hob
   right
   refine ⟨bl,g1,g2,g3,g4,?_⟩
   rcases g6 with g6 | ⟨F',g6,g7,g8⟩
   ·exact .inl g6
   ·obtain ⟨k1,rfl⟩:=zlv (I:=I) (β:=β) _ _ _ hsc g8
    exact .inr ⟨g6,g7,k1⟩
  ·rw [zbb _ _ hm] at ho
   exact .inl ⟨ho,rfl,λ_ _ hf=>hf⟩
 ·intro m o ho hwr b hb
  by_cases hm:m=n
  ·subst hm
   exact hC.wok m _ hob rfl b hb
  ·rw [zbb _ _ hm] at ho
   exact hC.wok m o ho hwr b hb
 ·intro m s ys ho b hb
  by_cases hm:m=n
  ·subst hm;simp [zbd] at ho
  ·rw [zbb _ _ hm] at ho
   exact hC.fnew m s ys ho b hb
def aAppendV(P:Program)(st:St)(nm:Nat)(ts:List TypeId)(s x:AV):ARes :=
 match ts with
 | [t,u]=>match ti P t with
  | some T=>match T.kind with
   | .slice e=>match ti P e with
    | some E=>match aNewsW st E.size x with
     | some (p,ys)=>match s with
      | .arr n 0 len=>match st.ob n with
       | some (.own sz xs)=>if sz=E.size then some (scR xs=true∧p∧(st.ob nm).isNone=true∧t=u∧0<E.size∧E.zero.length=E.size∧len≤xs.length∧(len+ys.length)*E.bytes≤2^47∧len+ys.length<2^62,
        .arr nm 0 (len+ys.length),[(n,.dead),(nm,.win E.size (xs.take len++ys))]) else none
       | _=>none
      | _=>none
     | none=>none
    | none=>none
   | _=>none
  | none=>none
 | _=>none
theorem aNewsW_ow{sz:Nat}{x:AV}{n s:Nat}{xs:List (List AV)}(hob:st.ob n=some (.own s xs)){r:Prop × List (List AV)}(h:aNewsW st sz x=some r):aNewsW { st with ob:=upd st.ob n (some (.win s xs)) } sz x=some r:=by
 rw [←h]
 cases x with
 | arr m off len =>
  by_cases hm:m=n
  ·subst hm
   unfold aNewsW aNews at h
   simp only [hob] at h
   cases h
  ·unfold aNewsW aNews
   simp only [zbb _ _ hm]
 | g v=>cases v<;>first | rfl|(rename_i p q r;cases p<;>cases q<;>cases r<;>rfl)
 | _=>rfl
theorem zpt(hC:Conc C st a w I β φ){nm:Nat}{ts:List TypeId}{ty:TypeId}{s x v:AV}{p y:Value}{c:Prop}{u:Ups}(hs:Rv w I β s p)(hx:Rv w I β x y)
 (h:aAppendV P st nm ts s x=some (c,v,u)) (hc:c):Good P C st a w (Builtin.append_ ts.toArray ty #[p,y]) v u:=by
 have key:∃n len sz xs,s=.arr n 0 len∧st.ob n=some (.own sz xs)∧scR xs=true∧∃c',c'∧aAppendW1 P { st with ob:=upd st.ob n (some (.win sz xs)) } nm ts s x=some (c',v,u)∧∃r,u=(n,.dead) :: r:=by
  unfold aAppendV at h
  split at h
  ·split at h
   ·split at h
    ·split at h
     ·split at h
      ·rename_i q ys hn
       split at h
       ·rename_i n len
        split at h
        ·rename_i sz xs hob
         split at h
         ·rename_i hsz
          cases h
          have hne:nm≠n:=by
           rintro rfl
           have:=hc.2.2.1
           rw [hob] at this;cases this
          refine ⟨n,len,sz,xs,rfl,hob,hc.1,_,hc.2,?_,_,rfl⟩
          subst hsz
          unfold aAppendW1
          have hn2:=aNewsW_ow hob hn
          clear hc hs
          simp only [*,zbd,zbb _ _ hne,if_true]
         ·cases h
        ·cases h
       ·cases h
      ·cases h
     ·cases h
    ·cases h
   ·cases h
  ·cases h
 obtain ⟨n,len,sz,xs,rfl,hob,hsc,c',hc',h1,r,rfl⟩:=key
 obtain ⟨z,w',I',β',φ',g1,g2,g3⟩:=zfy (ty:=ty) (hC.ow hsc hob) hs hx h1 hc'
 exact ⟨z,w',I',β',φ',g1,g2,by rw [←ztp (o:=.win sz xs)];exact g3⟩
end Go.Proofs.YtodmafgmdlkhoaaDoor.Vs
end
section
namespace Go.Proofs.YtodmafgmdlkhoaaDoor.Vs
set_option linter.all false
open Go.RowKit
variable {P:Program}
def orE(a b:ARes):ARes:=match a with
 | some r=>some r
 | none=>b
theorem orE_some(r:Prop × AV × Ups)(b:ARes):orE (some r) b=some r:=(rfl)
theorem orE_none(b:ARes):orE none b=b:=(rfl)
def hasN1:AV→Bool
 | .arr ..=>true
 | _=>false
def hasN:AV→Bool
 | .agg cs=>cs.any hasN1
 | a=>hasN1 a
def aopX(P:Program)(st:St)(nm:Nat)(o:Op):ARes :=
 match o with
 | .store t x v=>orE (if hasN (ev st v)=true then orE (aStoreW P st t (ev st x) (ev st v)) (aStore P st t (ev st x) (ev st v)) else orE (aStore P st t (ev st x) (ev st v)) (aStoreW P st t (ev st x) (ev st v))) (aStoreO P st t (ev st x) (ev st v))
 | .buildSlice t len ps=>if ((parts st ps.toList).any λp=>hasN p.2)=true then orE (aBuildSliceW P st nm t len (parts st ps.toList)) (aBuildSlice P st nm t len (parts st ps.toList)) else orE (aBuildSlice P st nm t len (parts st ps.toList)) (aBuildSliceW P st nm t len (parts st ps.toList))
 | .load t x=>orE (aLoad P st t (ev st x)) (aLoadO P st t (ev st x))
 | .indexAddr t x i=>orE (aIndexAddr P st t (ev st x) (ev st i)) (aIndexAddrO P st t (ev st x) (ev st i))
 | .slice t x lo hi none=>orE (aSlice P st t (ev st x) (lo.map (ev st)) (hi.map (ev st))) (aSliceC P st t (ev st x) (lo.map (ev st)) (hi.map (ev st)))
 | .slice t x lo (some hi) (some m)=>aSlice3C P st t (ev st x) (lo.map (ev st)) (ev st hi) (ev st m)
 | o=>aop P st nm o
def aBuiltinX(P:Program)(st:St)(nm:Nat)(b:Builtin)(ts:List TypeId)(args:List AV):ARes :=
 match b,args with
 | .append,[s,x]=>orE (aAppend P st nm ts s x) (orE (aAppendW P st nm ts s x) (orE (aAppC P st ts s x) (orE (aAppZ P st nm ts s x) (orE (aAppendO P st nm ts s x) (aAppendV P st nm ts s x)))))
 | .copy,[d,s]=>aCopyC P st ts d s
 | .cap,[x]=>aCapC P st ts x
 | .clear,[x]=>aClearC P st ts x
 | b,args=>aBuiltin P st nm b ts args
def zU(Z:List (Nat × Nat)):Ups:=Z.map λz=>(z.1,.own z.2 [])
def addZ(st:St)(Z:List (Nat × Nat)):St:={ st with ob:=updL st.ob (zU Z) }
theorem Conc.newEmptyO{C:Cx}{st:St}{a:Act}{w:World}{I:Nat→Prop}{β:Beta}{φ:Nat→List Nat}(hC:Conc C st a w I β φ){nm sz:Nat}(hn:st.ob nm=none) :
 Conc C { st with ob:=upd st.ob nm (some (.own sz [])) } a w I (upd β nm (some ⟨0,0,sz,0⟩)) φ:=by
 have hdom:∀m,upd st.ob nm (some (OB.own sz [])) m=none→m≠nm∧st.ob m=none:=by
  intro m ho
  by_cases h1:m=nm
  ·subst h1;simp [zbd] at ho
  ·rw [zbb _ _ h1] at ho;exact ⟨h1,ho⟩
 refine hC.move (λ_=>False) (Evo.refl _ w) (λ_ hf=>hf.elim) (λ_ hb=>hb) (λ_ hb=>.inl hb) ?_ ?_ ?_ ?_ hC.sep hC.nimm hC.flt ?_ ?_
 ·intro m bl' hb
  rw [zbb]
  ·exact hb
  ·rintro rfl;rw [hC.dom _ hn] at hb;cases hb
 ·intro m o ho
  by_cases h1:m=nm
  ·subst h1
   simp only [zbd,Option.some.injEq] at ho
   subst ho
   exact .inr ⟨_,zbd _ _ _,rfl,rfl,by simp,by rw [hC.fdom _ hn];simp,.inl ⟨rfl,hC.fdom _ hn⟩⟩
  ·rw [zbb _ _ h1] at ho
   exact .inl ⟨ho,rfl,λ_ _ hf=>hf⟩
 ·intro m ho
  rw [zbb _ _ (hdom m ho).1];exact hC.dom m (hdom m ho).2
 ·intro m ho
  exact hC.fdom m (hdom m ho).2
 ·intro m cs ho hwr b hb
  by_cases h1:m=nm
  ·subst h1;rw [hC.fdom _ hn] at hb;simp at hb
  ·rw [zbb _ _ h1] at ho
   exact hC.wok m cs ho hwr b hb
 ·intro m s ys ho b hb
  by_cases h1:m=nm
  ·subst h1;rw [hC.fdom _ hn] at hb;simp at hb
  ·rw [zbb _ _ h1] at ho
   exact hC.fnew m _ _ ho b hb
theorem zjb{C:Cx}{a:Act}{w:World}{I:Nat→Prop}{φ:Nat→List Nat}:∀(Z:List (Nat × Nat)) (st:St) (β:Beta),Conc C st a w I β φ→(Z.map (·.1)).Nodup→(∀z∈Z,st.ob z.1=none) →
 ∃β',(∀n bl,β n=some bl→β' n=some bl)∧Conc C (addZ st Z) a w I β' φ∧∀n∈Z.map (·.1),∃bl,β' n=some bl∧bl.cap=0
 | [],st,β,hC,_,_=>⟨β,λ_ _ h=>h,hC,by simp⟩
 | z :: Z,st,β,hC,hnd,hn=>by
  simp only [List.map_cons,List.nodup_cons] at hnd
  have h1:=hC.newEmptyO (sz:=z.2) (hn z (by simp))
  obtain ⟨β',h2,h3,h4⟩:=zjb Z _ _ h1 hnd.2 (λy hy=>by
   show upd st.ob z.1 _ y.1=none
   rw [zbb]
   ·exact hn y (by simp [hy])
   ·intro e;exact hnd.1 (List.mem_map.2 ⟨y,hy,e⟩))
  refine ⟨β',λn bl hb=>h2 n bl ?_,h3,λn hm=>?_⟩
  ·rw [zbb]
   ·exact hb
   ·rintro rfl;rw [hC.dom _ (hn z (by simp))] at hb;cases hb
  ·rcases List.mem_cons.1 hm with rfl | hm
   ·exact ⟨_,h2 _ _ (zbd _ _ _),rfl⟩
   ·exact h4 n hm
def XStep(P:Program)(st:St)(nm:Nat)(f:FuncId)(actual:List AV)(v:AV)(u:Ups):Prop :=
 ∃(args:List AV) (wos:List OB) (r:AV) (wos' fos:List OB) (hs:List Nat) (q:Bool) (Z:List (Nat × Nat)),XCall P f args wos r wos' fos∧(Z.map (·.1)).Nodup∧(∀z∈Z,st.ob z.1=none)∧(hs++(List.range fos.length).map (nm + ·)).Nodup ∧
  ax2s q (addZ st Z) hs (Z.map (·.1)) actual args∧axOs q (addZ st Z) hs (Z.map (·.1)) hs wos ∧
  (∀k,k<fos.length→(addZ st Z).ob (nm+k)=none)∧rkT q r=true∧(wos'++fos).all (rkO q)=true∧v=rnT (rhoX hs nm) r∧updL st.ob u=updL st.ob (zU Z++upsX hs nm wos' fos)
section
variable {C:Cx}{st:St}{a:Act}{w:World}{I:Nat→Prop}{β:Beta}{φ:Nat→List Nat}
theorem zd6{a b:ARes}{r:Prop × AV × Ups}{G:Prop}(h:orE a b=some r)(h1:a=some r→G)(h2:b=some r→G):G:=by
 cases a with
 | some x=>exact h1 h
 | none=>exact h2 h
theorem zze(hC:Conc C st a w I β φ){nm:Nat}{o:Oper}{v:AV}{c:Prop}{u:Ups}(h:aopX P st nm o.op=some (c,v,u))(hc:c):GoodOp P C st a w o v u:=by
 have hE:∀x,Rv w I β (ev st x) (a.eval x):=zfj hC.env hC.gw
 obtain ⟨dst,op,type,pos,aft,gd⟩:=o
 simp only at h
 cases op with
 | store t x y =>
  have g1:aStore P st t (ev st x) (ev st y)=some (c,v,u)→GoodOp P C st a w ⟨dst,.store t x y,type,pos,aft,gd⟩ v u:=λh=>zds (nm:=nm) hC (o:=⟨dst,.store t x y,type,pos,aft,gd⟩) h hc
  have g2:aStoreW P st t (ev st x) (ev st y)=some (c,v,u)→GoodOp P C st a w ⟨dst,.store t x y,type,pos,aft,gd⟩ v u:=λh=>by
   obtain ⟨rfl,w',I',φ',hr,hC'⟩:=zq6 hC (hE _) (hE _) h hc
   exact ⟨undef,w',I',β,φ',.inr ⟨by simp [execOp,hr],rfl⟩,rfl,hC'⟩
  have g3:aStoreO P st t (ev st x) (ev st y)=some (c,v,u)→GoodOp P C st a w ⟨dst,.store t x y,type,pos,aft,gd⟩ v u:=λh=>by
   obtain ⟨rfl,w',φ',hr,hC'⟩:=zrq hC (hE _) (hE _) h hc
   exact ⟨undef,w',I,β,φ',.inr ⟨by simp [execOp,hr],rfl⟩,rfl,hC'⟩
  simp only [aopX] at h
  refine zd6 h (λh=>?_) g3
  split at h
  ·exact zd6 h g2 g1
  ·exact zd6 h g1 g2
 | load t x =>
  simp only [aopX] at h
  refine zd6 h (λh=>zds (nm:=nm) hC (o:=⟨dst,.load t x,type,pos,aft,gd⟩) h hc) λh=>?_
  obtain ⟨rfl,y,hy,hr⟩:=zty hC (hE _) h hc
  exact zcg hC (by simp [execOp,hy]) hr
 | indexAddr t x i =>
  simp only [aopX] at h
  exact zd6 h (λh=>zds (nm:=nm) hC (o:=⟨dst,.indexAddr t x i,type,pos,aft,gd⟩) h hc) λh=>(zkw hC (hE _) (hE _) h hc).op rfl
 | slice t x lo hi mx =>
  have hRO:∀y:Option Operand,RvO w I β (y.map (ev st)) (y.map a.eval):=λy=>by cases y<;>first | rfl | exact ⟨_,rfl,hE _⟩ | exact hE _
  cases mx with
  | none =>
   simp only [aopX] at h
   exact zd6 h (λh=>zds (nm:=nm) hC (o:=⟨dst,.slice t x lo hi none,type,pos,aft,gd⟩) h hc) λh=>(zrs hC (hE x) (hRO lo) (hRO hi) h hc).op (by simp [execOp])
  | some m =>
   cases hi with
   | none=>exact zds (nm:=nm) hC (o:=⟨dst,.slice t x lo none (some m),type,pos,aft,gd⟩) h hc
   | some hi =>
    simp only [aopX] at h
    exact (zps hC (hE x) (hRO lo) (hE hi) (hE m) h hc).op (by simp [execOp])
 | buildSlice t len ps =>
  have g1:aBuildSlice P st nm t len (parts st ps.toList)=some (c,v,u)→GoodOp P C st a w ⟨dst,.buildSlice t len ps,type,pos,aft,gd⟩ v u:=λh=>zds (nm:=nm) hC (o:=⟨dst,.buildSlice t len ps,type,pos,aft,gd⟩) h hc
  have g2:aBuildSliceW P st nm t len (parts st ps.toList)=some (c,v,u)→GoodOp P C st a w ⟨dst,.buildSlice t len ps,type,pos,aft,gd⟩ v u:=λh=>(zj4 hC (by simpa using zh4 hE _) h hc).op rfl
  simp only [aopX] at h
  split at h
  ·exact zd6 h g2 g1
  ·exact zd6 h g1 g2
 | _=>exact zds (nm:=nm) hC (o:=⟨dst,_,type,pos,aft,gd⟩) h hc
theorem znb(hC:Conc C st a w I β φ){nm:Nat}{b:Builtin}{ts:List TypeId}{args:List Operand}{o:Oper}{v:AV}{c:Prop}{u:Ups}{tsA:Array TypeId}{argsA:Array Operand}(hts:tsA.toList=ts)(hargs:argsA.toList=args)
 (ho:o.op=.call { callee:=.builtin b,args:=argsA,argTypes:=tsA }) (h:aBuiltinX P st nm b ts (args.map (ev st))=some (c,v,u)) (hc:c):GoodOp P C st a w o v u:=by
 have hE:∀x,Rv w I β (ev st x) (a.eval x):=zfj hC.env hC.gw
 generalize hL:args.map (ev st)=L at h
 unfold aBuiltinX at h
 split at h
 ·rename_i s x
  cases h1:aAppend P st nm ts s x with
  | some r =>
   rw [h1] at h
   exact zfc (nm:=nm) hC hts hargs ho (by rw [hL];exact h1.trans h) hc
  | none =>
   rw [h1] at h
   obtain ⟨dst,op,type,pos,aft,gd⟩:=o
   simp only at ho
   subst ho
   obtain ⟨y,z,rfl,rfl,rfl⟩:=zl2 hL
   have ha:argsA = #[y,z]:=by apply Array.ext';exact hargs
   subst ha
   have htA:tsA=ts.toArray:=by apply Array.ext';simpa using hts
   have:Good P C st a w (Builtin.append_ ts.toArray type #[a.eval y,a.eval z]) v u:=by
    simp only [orE] at h
    cases h2:aAppendW P st nm ts (ev st y) (ev st z) with
    | some r=>rw [h2] at h;exact zpi (ty:=type) hC (hE y) (hE z) (h2.trans h) hc
    | none =>
     rw [h2] at h
     cases h3:aAppC P st ts (ev st y) (ev st z) with
     | some r=>rw [h3] at h;exact zzc (ty:=type) hC (hE y) (hE z) (h3.trans h) hc
     | none =>
      rw [h3] at h
      cases h4:aAppZ P st nm ts (ev st y) (ev st z) with
      | some r=>rw [h4] at h;exact zzd (ty:=type) hC (hE y) (hE z) (h4.trans h) hc
      | none =>
       rw [h4] at h
       cases h5:aAppendO P st nm ts (ev st y) (ev st z) with
       | some r=>rw [h5] at h;exact zpr (ty:=type) hC (hE y) (hE z) (h5.trans h) hc
       | none=>rw [h5] at h;exact zpt (ty:=type) hC (hE y) (hE z) h hc
   rw [←htA] at this
   exact this.op (by simp [execOp,resolve,invoke,builtin])
 ·rename_i dd s
  obtain ⟨dst,op,type,pos,aft,gd⟩:=o
  simp only at ho
  subst ho
  obtain ⟨y,z,rfl,rfl,rfl⟩:=zl2 hL
  have ha:argsA = #[y,z]:=by apply Array.ext';exact hargs
  subst ha
  have htA:tsA=ts.toArray:=by apply Array.ext';simpa using hts
  have:=zt3 (ty:=type) hC (hE y) (hE z) h hc
  rw [←htA] at this
  exact this.op (by simp [execOp,resolve,invoke,builtin])
 ·rename_i x
  obtain ⟨dst,op,type,pos,aft,gd⟩:=o
  simp only at ho
  subst ho
  obtain ⟨y,rfl,rfl⟩:=zto hL
  have ha:argsA = #[y]:=by apply Array.ext';exact hargs
  subst ha
  have htA:tsA=ts.toArray:=by apply Array.ext';simpa using hts
  have:=zzb (ty:=type) hC (hE y) h hc
  rw [←htA] at this
  exact this.op (by simp [execOp,resolve,invoke,builtin])
 ·rename_i x
  obtain ⟨dst,op,type,pos,aft,gd⟩:=o
  simp only at ho
  subst ho
  obtain ⟨y,rfl,rfl⟩:=zto hL
  have ha:argsA = #[y]:=by apply Array.ext';exact hargs
  subst ha
  have htA:tsA=ts.toArray:=by apply Array.ext';simpa using hts
  have:=zru (ty:=type) hC (hE y) h hc
  rw [←htA] at this
  exact this.op (by simp [execOp,resolve,invoke,builtin])
 ·exact zfc (nm:=nm) hC hts hargs ho (by rw [hL];exact h) hc
end
def noTup:AV→Bool
 | .tup _=>false
 | _=>true
def tupA:List AV→AV
 | [v]=>v
 | vs=>.tup vs
def inlQ(P:Program)(rs:List ResultVar)(K:AV→(Nat→Option OB)→Prop):AExit→St→Prop
 | .normal,s=>∃p vs,resAll P s rs=some (p,vs)∧p∧vs.all noTup=true∧K (tupA vs) s.ob
 | .ret,s=>∃p vs,resAll P s rs=some (p,vs)∧p∧vs.all noTup=true∧K (tupA vs) s.ob
 | _,_=>False
def INL(P:Program)(f:FuncId)(fs:List Nat)(ob:Nat→Option OB)(actual:List AV)(K:AV→(Nat→Option OB)→Prop):Prop :=
 fs.Nodup ∧ ∃ fn c, P.funcs[f]? = some fn ∧ (fn.name == "runtime.NumGoroutine") = false ∧ fn.body = some c ∧ actual.length ≤ fn.ntmps ∧ actual.all noTup = true ∧ (∀ n s xs, ob n ≠ some (.flat s xs)) ∧ (∀ n, ob n ≠ none → n ∈ fs) ∧
  AW P fn.ntmps fs c (inlQ P fn.results.toList K) { env:=λn=>actual.getD n .undef,ob:=ob }
theorem zpu{v:AV}(h:noTup v=true):∀us,v≠.tup us:=by
 rintro us rfl;cases h
theorem zrv{C:Cx}{st:St}{a:Act}{w:World}{I:Nat→Prop}{β:Beta}{φ:Nat→List Nat}(hC:Conc C st a w I β φ){f:FuncId}{fs:List Nat}{actual:List AV}{vs:List Value}{K:AV→(Nat→Option OB)→Prop}(hvs:Rv2s w I β actual vs)(h:INL P f fs st.ob actual K) :
 Calls P f ⟨vs⟩ w λe w'=>∃v ob',K v ob'∧∃y I' β' φ',e=.returned y∧Rv w' I' β' v y∧Conc C { st with ob:=ob' } a w' I' β' φ':=by
 obtain ⟨hfnd,fn,c,hf,hname,hb,hnt,hat,hfl,hfs,hw⟩:=h
 have hvl:vs.length=actual.length:=by
  have:∀(l:List AV) (ys:List Value),Rv2s w I β l ys→ys.length=l.length:=by
   intro l
   induction l with
   | nil=>rintro _ rfl;rfl
   | cons c l ih=>rintro _ ⟨y,ys,rfl,-,h2⟩;simp [ih ys h2]
  exact this _ _ hvs
 have himm:∀n b,b∈φ n→¬I b:=hC.nimm
 have hC0:Conc ⟨w,I,λb=>(∃n,b∈φ n)∧¬C.Y b,λb=>C.Y b∧b<w.heap.size,β,fn.ntmps⟩ { env:=λn=>actual.getD n .undef,ob:=st.ob } { tmps:=⟨vs⟩++Array.replicate (fn.ntmps-vs.length) undef,defers:=[] } w I β φ:=by
  refine ⟨Evo.refl _ _,hC.immLt,λ_ h=>h,λ_ h=>.inl h,?_,rfl,?_,hC.ob,hC.dom,hC.fdom,hC.sep,hC.nimm,λn b hb=>⟨(hC.flt n b hb).1,?_⟩,λn o ho hwr b hb hy=>hC.wok n o ho hwr b hb hy.1,λb hb=>hb.2,λn s xs ho=>(hfl n s xs ho).elim,?_,λn bl h=>h,hC.gw⟩
  ·simp;omega
  ·intro t
   show Rv w I β (actual.getD t .undef) _
   have:∀(l:List AV) (ys:List Value),Rv2s w I β l ys→∀(t:Nat) v,l[t]? = some v→∃y,ys[t]? = some y∧Rv2 w I β v y:=by
    intro l
    induction l with
    | nil=>intro ys _ t v h;simp at h
    | cons c l ih =>
     rintro _ ⟨y,ys,rfl,h1,h2⟩ t v h
     cases t with
     | zero=>simp at h;subst h;exact ⟨y,rfl,h1⟩
     | succ t=>simpa using ih ys h2 t v (by simpa using h)
   cases ht:actual[t]? with
   | none=>simp [List.getD,ht];exact trivial
   | some v =>
    obtain ⟨y,h1,h2⟩:=this _ _ hvs t v ht
    have hlt:=(List.getElem?_eq_some_iff.1 h1).1
    have:(⟨vs⟩++Array.replicate (fn.ntmps-vs.length) undef:Array Value).getD t undef=y:=by
     rw [Array.getD_eq_getD_getElem?,Array.getElem?_append_left (by simpa using hlt)]
     simp [h1]
    rw [this]
    simp only [List.getD,ht,Option.getD_some]
    exact zh2 _ _ h2
  ·by_cases hy:C.Y b
   ·exact .inr (.inl ⟨hy,(hC.flt n b hb).1⟩)
   ·exact .inl ⟨⟨n,hb⟩,hy⟩
  ·rintro b ⟨⟨n,hb⟩,-⟩
   exact (hC.flt n b hb).1
 refine calls_of_wp hf hb (wp_mono (hw _ _ w rfl ⟨λn hne=>hfs n λhn=>hne (hC.dom n hn),λhh b hb=>by
  rcases hh with hh | hh
  ·obtain ⟨⟨n,hb⟩,-⟩:=hb
   have:n∈fs:=hfs n λhn=>by rw [hC.fdom n hn] at hb;simp at hb
   rw [hh] at this;simp at this
  ·exact absurd hfnd hh⟩ ⟨_,_,_,hC0⟩) ?_)
 intro e a' w' hq
 have key:(∃s,(∃p vs,resAll P s fn.results.toList=some (p,vs)∧p∧vs.all noTup=true∧K (tupA vs) s.ob)∧CC ⟨w,I,λb=>(∃n,b∈φ n)∧¬C.Y b,λb=>C.Y b∧b<w.heap.size,β,fn.ntmps⟩ s a' w') →
  a'.defers=[]∧∃v,(results fn a'.tmps).run P w'=.ok v w'∧∃v' ob',K v' ob'∧∃y I' β' φ',Ending.returned v=.returned y∧Rv w' I' β' v' y∧Conc C { st with ob:=ob' } a w' I' β' φ':=by
  rintro ⟨s,⟨p,avs,hres,hp,hnt',hK⟩,I',β',φ',hC1⟩
  obtain ⟨ys,hyl,hrun,hget⟩:=zhe hC1 _ _ _ hres hp
  have hX:∀b,((∃n,b∈φ n)∧¬C.Y b)→C.X b∨C.w0.heap.size≤b:=by
   rintro b ⟨⟨n,hb⟩,hy⟩
   rcases (hC.flt n b hb).2 with h | h | h
   ·exact .inl h
   ·exact (hy h).elim
   ·exact .inr h
  have hw':∀b,I b→w'.heap[b]? = w.heap[b]?:=λb hb=>hC1.evo.blk b (hC.immLt b hb) λ⟨⟨n,hn⟩,_⟩=>hC.nimm n b hn hb
  refine ⟨hC1.dfr,(if ys.length=1 then ys.getD 0 undef else .tuple ⟨ys⟩),?_,_,_,hK,_,I',β',φ',rfl,?_,?_⟩
  ·rw [zka,Sem.run_bind,Array.mapM_eq_mapM_toList,Sem.run_map',hrun]
   simp only [Result.andThen_ok,Sem.run_pure]
   congr 1
   match ys with
   | []=>rfl
   | [y]=>rfl
   | y :: z :: l=>rfl
  ·have h2s : Rv2s w' I' β' avs ys := zla _ _ hyl.symm fun i v hv => by
    obtain ⟨y,h1,h2⟩:=hget i v hv
    exact ⟨y,h1,zmc _ _ (zpu (List.all_eq_true.1 hnt' v (List.mem_of_getElem? hv))) h2⟩
   match avs,ys,hyl,h2s with
   | [],[],_,h=>exact ⟨_,rfl,h⟩
   | [v],[y],_,h =>
    obtain ⟨y',ys',he,h1,-⟩:=h
    cases he
    exact zh2 _ _ h1
   | v :: v' :: r,y :: y' :: r',hl,h =>
    simp only [List.length_cons] at hl
    rw [if_neg (by simp)]
    exact ⟨_,rfl,h⟩
   | [],_ :: _,hl,_=>simp at hl
   | _ :: _,[],hl,_=>simp at hl
   | [_],_ :: _ :: _,hl,_=>simp at hl
   | _ :: _ :: _,[_],hl,_=>simp at hl
  ·refine ⟨⟨hC1.evo.os.trans hC.evo.os,hC1.evo.tape.trans hC.evo.tape,hC1.evo.output.trans hC.evo.output,Nat.le_trans hC.evo.size hC1.evo.size,λb hb hn=>?_,Nat.le_trans hC.evo.drawn hC1.evo.drawn⟩,hC1.immLt,λb hb=>hC1.imm0 b (hC.imm0 b hb),λb hb=>?_,hC.sz,hC.dfr,λt=>zjy hC1.imm0 hw' hC1.bet _ _ (hC.env t),hC1.ob,hC1.dom,hC1.fdom,hC1.sep,hC1.nimm,λn b hb=>⟨(hC1.flt n b hb).1,?_⟩,λn o ho hwr b hb hy=>hC1.wok n o ho hwr b hb ⟨hy,Nat.lt_of_lt_of_le (hC.ylt b hy) hC.evo.size⟩,hC.ylt,λn sz xs ho b hb=>Nat.le_trans hC.evo.size (hC1.fnew n sz xs ho b hb),hC.xlt,λn bl hb=>hC1.bet n bl (hC.bet n bl hb),hC1.gw⟩
   ·refine (hC1.evo.blk b (Nat.lt_of_lt_of_le hb hC.evo.size) λhx=>?_).trans (hC.evo.blk b hb hn)
    rcases hX b hx with h | h
    ·exact hn h
    ·omega
   ·rcases hC1.immNew b hb with h | h
    ·exact hC.immNew b h
    ·exact .inr (Nat.le_trans hC.evo.size h)
   ·rcases (hC1.flt n b hb).2 with h | h | h
    ·rcases hX b h with h | h
     ·exact .inl h
     ·exact .inr (.inr h)
    ·exact .inr (.inl h.1)
    ·exact .inr (.inr (Nat.le_trans hC.evo.size h))
 cases e with
 | normal=>exact key hq
 | ret=>exact key hq
 | exit i=>obtain ⟨s,h1,h2⟩:=hq;exact h1.elim
 | _=>exact hq.elim
def DStep(P:Program)(st:St)(f:FuncId)(actual:List AV)(v:AV)(u:Ups):Prop:=∃fs,INL P f fs st.ob actual λv' ob'=>v'=v∧ob'=updL st.ob u
section
variable {C:Cx}{st:St}{a:Act}{w:World}{I:Nat→Prop}{β:Beta}{φ:Nat→List Nat}
def AStepX(P:Program)(st:St)(o:Oper)(v:AV)(u:Ups):Prop :=
 match o.op with
 | .call c=>match c.callee with
  | .builtin b=>∃p,(aBuiltin P st (nmOf o) b c.argTypes.toList (c.args.toList.map (ev st))=some (p,v,u)∨aBuiltinX P st (nmOf o) b c.argTypes.toList (c.args.toList.map (ev st))=some (p,v,u))∧p
  | .value f=>match ev st f with
   | .fn fid fst cap=>GStep P st fid (fst++c.args.toList.map (ev st)++cap) v u∨XStep P st (nmOf o) fid (fst++c.args.toList.map (ev st)++cap) v u∨PStep P st fid (fst++c.args.toList.map (ev st)++cap) v u∨DStep P st fid (fst++c.args.toList.map (ev st)++cap) v u
   | _=>False
  | .invoke _ _=>False
 | op=>∃p,(aop P st (nmOf o) op=some (p,v,u)∨aopX P st (nmOf o) op=some (p,v,u))∧p
theorem zrw{st:St}{o:Oper}{v:AV}{u:Ups}(h:AStep P st o v u):AStepX P st o v u:=by
 obtain ⟨dst,op,ty,pos,aft,gd⟩:=o
 unfold AStep at h
 unfold AStepX
 cases op with
 | call c =>
  obtain ⟨callee,args,argTypes⟩:=c
  cases callee with
  | invoke _ _=>exact h.elim
  | builtin b=>obtain ⟨p,h1,h2⟩:=h;exact ⟨p,.inl h1,h2⟩
  | value f =>
   simp only at h ⊢
   split at h
   ·rename_i fid fst cap he
    simp only [he]
    exact .inl h
   ·exact h.elim
 | _=>obtain ⟨p,h1,h2⟩:=h;exact ⟨p,.inl h1,h2⟩
theorem zg0{o:Oper}{v:AV}{u:Ups}{K:Act→World→Prop}{Q:Exit→Act→World→Prop}(hd:∀d,o.dst=some d→d<C.nt)(hC:Conc C st a w I β φ)(h:AStepX P st o v u)(hK:∀a' w',CC C (st.put o v u) a' w'→K a' w'):o.wp P a w K Q:=by
 have hE:∀x,Rv w I β (ev st x) (a.eval x):=zfj hC.env hC.gw
 have good:∀v u,GoodOp P C st a w o v u→(∀a' w',CC C (st.put o v u) a' w'→K a' w')→o.wp P a w K Q:=by
  rintro v u ⟨y,w',I',β',φ',hr,hv,hC'⟩ hK
  have hcc:CC C (st.put o v u) (a.put o.dst y) w':=by
   refine ⟨I',β',φ',?_⟩
   unfold St.put
   cases hdst:o.dst with
   | none=>exact hC'
   | some d=>exact hC'.put (hd d hdst) hv
  rcases hr with hr | ⟨hr,rfl⟩
  ·unfold Oper.wp;rw [hr];exact hK _ _ hcc
  ·unfold Oper.wp;rw [hr];exact hK _ _ hcc
 obtain ⟨dst,op,ty,pos,aft,gd⟩:=o
 unfold AStepX at h
 cases op with
 | call c =>
  obtain ⟨callee,args,argTypes⟩:=c
  simp only at h
  cases callee with
  | invoke _ _=>exact h.elim
  | builtin b =>
   obtain ⟨p,h1 | h1,h2⟩:=h
   ·exact good v u (zfc hC rfl rfl rfl h1 h2) hK
   ·exact good v u (znb hC rfl rfl rfl h1 h2) hK
  | value f =>
   simp only at h
   split at h
   ·rename_i fid fst cap hfe
    have hnt:∀x∈args.toList,∀vs,ev st x≠.tup vs:=by
     intro x hx vs
     have hm:ev st x∈fst++args.toList.map (ev st)++cap:=by simp;exact .inr (.inl ⟨x,by simpa using hx,rfl⟩)
     rcases h with ⟨rns,wns,args',ros,wos,wos',-,-,-,-,-,-,ham,-⟩ | ⟨args',wos,r,wos',fos,hs,q,Z,-,-,-,-,ham,-⟩ | ⟨n,sz,xs,hs,i,f0,w0,s,ys,ys',rest,r,-,-,he,hsc,-⟩ | ⟨fs,-,fn,cc,-,-,-,-,hat,-⟩
     ·exact zhd _ _ ham _ hm vs
     ·exact zhg _ _ ham _ hm vs
     ·rw [he] at hm
      rcases List.mem_cons.1 hm with hm | hm
      ·rw [hm];simp
      ·have:=List.all_eq_true.1 hsc _ hm
       rintro hh
       rw [hh] at this
       simp [scal2,scal1] at this
     ·exact zpu (List.all_eq_true.1 hat _ hm) vs
    have hfn : ∃ fn, P.funcs[fid]? = some fn ∧ (fn.name == "runtime.NumGoroutine") = false ∧ fn.body.isNone = false := by
     rcases h with ⟨rns,wns,args',ros,wos,wos',⟨h,-⟩,-⟩ | ⟨args',wos,r,wos',fos,hs,q,Z,⟨h,-⟩,-⟩ | ⟨n,sz,xs,hs,i,f0,w0,s,ys,ys',rest,r,-,-,-,-,-,⟨h,-⟩,-⟩ | ⟨fs,-,fn,cc,g1,g2,g3,-⟩
     ·exact h
     ·exact h
     ·exact h
     ·exact ⟨fn,g1,g2,by rw [g3];rfl⟩
    obtain ⟨fn,hfn,hname,hbody⟩:=hfn
    have hfv:=hE f
    rw [hfe] at hfv
    obtain ⟨fs,us,hfv,g1,g2⟩:=hfv
    have hvs:=zcv _ _ _ _ (zcv _ _ _ _ (zc7 _ _ g1) (zf6 hE args.toList hnt)) (zc7 _ _ g2)
    have hcall:Calls P fid ⟨fs++args.toList.map a.eval++us⟩ w λe w'=>∃y I' β' φ',e=.returned y∧Rv w' I' β' v y∧Conc C { st with ob:=updL st.ob u } a w' I' β' φ':=by
     rcases h with h1 | ⟨args',wos,r,wos',fos,hs,q,Z,hX,hz1,hz2,hnd,ham,hobj,hnm,hr,hro,rfl,hu⟩ | h1 | ⟨fs',h1⟩
     rotate_left 2
     ·exact ztz hC hvs h1
     ·refine (zrv hC hvs h1).mono ?_
      rintro e w' ⟨v',ob',⟨rfl,rfl⟩,hh⟩
      exact hh
     ·exact zl9 hC hvs h1
     ·obtain ⟨β2,g1,g2,g3⟩:=zjb Z st β hC hz1 hz2
      rw [hu,zc2]
      exact ztv g2 g3 (zgw (λ_ h=>h) (λ_ _=>rfl) g1 _ _ hvs) hX hnd ham hobj hnm hr hro
    unfold Oper.wp
    have hrun:(execOp a.eval ⟨dst,.call { callee:=.value f,args,argTypes },ty,pos,aft,gd⟩).run P w=.ok (.enter fid ⟨fs++args.toList.map a.eval++us⟩) w:=by
     simp only [execOp,resolve,hfv,Deferred.ofValue,Sem.run_bind,Sem.run_pure,Result.andThen_ok,invoke,callFunc,run_program,hfn,hname,hbody]
     simp
    rw [hrun]
    refine hcall.mono ?_
    rintro e w' ⟨y,I',β',φ',rfl,hy,hC'⟩
    refine hK _ _ ⟨I',β',φ',?_⟩
    unfold St.put
    cases dst with
    | none=>exact hC'
    | some d=>exact hC'.put (hd d rfl) hy
   ·exact h.elim
 | _ =>
  obtain ⟨p,h1 | h1,h2⟩:=h
  ·exact good v u (zds (nm:=nmOf _) hC h1 h2) hK
  ·exact good v u (zze (nm:=nmOf _) hC h1 h2) hK
def EStep(P:Program)(st:St)(nm:Nat)(f:FuncId)(actual:List AV)(K:AV→Ups→Prop):Prop :=
 ∃(args:List AV) (wos:List OB) (nf:Nat) (Po:AV→List OB→List OB→Prop) (hs:List Nat) (q:Bool) (Z:List (Nat × Nat)),XCallE P f args wos nf Po∧(Z.map (·.1)).Nodup∧(∀z∈Z,st.ob z.1=none)∧(hs++(List.range nf).map (nm + ·)).Nodup ∧
  ax2s q (addZ st Z) hs (Z.map (·.1)) actual args∧axOs q (addZ st Z) hs (Z.map (·.1)) hs wos ∧
  (∀k,k<nf→(addZ st Z).ob (nm+k)=none)∧∀r wos' fos,Po r wos' fos→rkT q r=true∧(wos'++fos).all (rkO q)=true∧K (rnT (rhoX hs nm) r) (zU Z++upsX hs nm wos' fos)
theorem zt4{o:Oper}{c:Call}{f:Operand}{fid:FuncId}{fst cap:List AV}{K:AV→Ups→Prop}{Kx:Act→World→Prop}{Q:Exit→Act→World→Prop}(hd:∀d,o.dst=some d→d<C.nt)(hC:Conc C st a w I β φ)(ho:o.op=.call c)(hc:c.callee=.value f)(hfe:ev st f=.fn fid fst cap)
 (h:EStep P st (nmOf o) fid (fst++c.args.toList.map (ev st)++cap) K) (hK:∀v u a' w',K v u→CC C (st.put o v u) a' w'→Kx a' w'):o.wp P a w Kx Q:=by
 have hE:∀x,Rv w I β (ev st x) (a.eval x):=zfj hC.env hC.gw
 obtain ⟨dst,op,ty,pos,aft,gd⟩:=o
 obtain ⟨callee,args,argTypes⟩:=c
 simp only at ho hc
 subst ho hc
 simp only at h
 obtain ⟨args',wos,nf,Po,hs,q,Z,hX,hz1,hz2,hnd,ham,hobj,hnm,hk⟩:=h
 have hnt:∀x∈args.toList,∀vs,ev st x≠.tup vs:=by
  intro x hx vs
  have hm:ev st x∈fst++args.toList.map (ev st)++cap:=by simp;exact .inr (.inl ⟨x,by simpa using hx,rfl⟩)
  exact zhg _ _ ham _ hm vs
 obtain ⟨fn,hfn,hname,hbody⟩:=hX.1
 have hfv:=hE f
 rw [hfe] at hfv
 obtain ⟨fs,us,hfv,g1,g2⟩:=hfv
 have hvs:=zcv _ _ _ _ (zcv _ _ _ _ (zc7 _ _ g1) (zf6 hE args.toList hnt)) (zc7 _ _ g2)
 have hcall:Calls P fid ⟨fs++args.toList.map a.eval++us⟩ w λe w'=>∃v u,K v u∧∃y I' β' φ',e=.returned y∧Rv w' I' β' v y∧Conc C { st with ob:=updL st.ob u } a w' I' β' φ':=by
  obtain ⟨β2,k1,k2,k3⟩:=zjb Z st β hC hz1 hz2
  refine (zkr k2 k3 (zgw (λ_ h=>h) (λ_ _=>rfl) k1 _ _ hvs) hX hnd ham hobj hnm (λr w' f' hp=>⟨(hk r w' f' hp).1,(hk r w' f' hp).2.1⟩)).mono ?_
  rintro e w' ⟨r,wos',fos,hp,hh⟩
  refine ⟨_,_,(hk r wos' fos hp).2.2,?_⟩
  rw [zc2]
  exact hh
 unfold Oper.wp
 have hrun:(execOp a.eval ⟨dst,.call { callee:=.value f,args,argTypes },ty,pos,aft,gd⟩).run P w=.ok (.enter fid ⟨fs++args.toList.map a.eval++us⟩) w:=by
  simp only [execOp,resolve,hfv,Deferred.ofValue,Sem.run_bind,Sem.run_pure,Result.andThen_ok,invoke,callFunc,run_program,hfn,hname,hbody]
  simp
 rw [hrun]
 refine hcall.mono ?_
 rintro e w' ⟨v,u,hkv,y,I',β',φ',rfl,hy,hC'⟩
 refine hK v u _ _ hkv ⟨I',β',φ',?_⟩
 unfold St.put
 cases dst with
 | none=>exact hC'
 | some d=>exact hC'.put (hd d rfl) hy
end
def IStep(P:Program)(st:St)(f:FuncId)(actual:List AV)(K:AV→(Nat→Option OB)→Prop):Prop:=∃fs,INL P f fs st.ob actual K
theorem zt5{C:Cx}{st:St}{a:Act}{w:World}{I:Nat→Prop}{β:Beta}{φ:Nat→List Nat}{o:Oper}{c:Call}{f:Operand}{fid:FuncId}{fst cap:List AV}{K:AV→(Nat→Option OB)→Prop}{Kx:Act→World→Prop}{Q:Exit→Act→World→Prop}(hd:∀d,o.dst=some d→d<C.nt)(hC:Conc C st a w I β φ)(ho:o.op=.call c)(hc:c.callee=.value f)(hfe:ev st f=.fn fid fst cap)
 (h:IStep P st fid (fst++c.args.toList.map (ev st)++cap) K) (hK:∀v ob a' w',K v ob→CC C (({ st with ob:=ob }:St).put o v []) a' w'→Kx a' w'):o.wp P a w Kx Q:=by
 have hE:∀x,Rv w I β (ev st x) (a.eval x):=zfj hC.env hC.gw
 obtain ⟨dst,op,ty,pos,aft,gd⟩:=o
 obtain ⟨callee,args,argTypes⟩:=c
 simp only at ho hc
 subst ho hc
 simp only at h
 obtain ⟨fs',hI⟩:=h
 obtain ⟨-,fn,cc,hfn,hname,hb,hnt0,hat,hrest⟩:=id hI
 have hbody:fn.body.isNone=false:=by rw [hb];rfl
 have hnt:∀x∈args.toList,∀vs,ev st x≠.tup vs:=by
  intro x hx vs
  have hm:ev st x∈fst++args.toList.map (ev st)++cap:=by simp;exact .inr (.inl ⟨x,by simpa using hx,rfl⟩)
  exact zpu (List.all_eq_true.1 hat _ hm) vs
 have hfv:=hE f
 rw [hfe] at hfv
 obtain ⟨fs,us,hfv,g1,g2⟩:=hfv
 have hvs:=zcv _ _ _ _ (zcv _ _ _ _ (zc7 _ _ g1) (zf6 hE args.toList hnt)) (zc7 _ _ g2)
 have hcall:=zrv hC hvs hI
 unfold Oper.wp
 have hrun:(execOp a.eval ⟨dst,.call { callee:=.value f,args,argTypes },ty,pos,aft,gd⟩).run P w=.ok (.enter fid ⟨fs++args.toList.map a.eval++us⟩) w:=by
  simp only [execOp,resolve,hfv,Deferred.ofValue,Sem.run_bind,Sem.run_pure,Result.andThen_ok,invoke,callFunc,run_program,hfn,hname,hbody]
  simp
 rw [hrun]
 refine hcall.mono ?_
 rintro e w' ⟨v,ob',hkv,y,I',β',φ',rfl,hy,hC'⟩
 refine hK v ob' _ _ hkv ⟨I',β',φ',?_⟩
 unfold St.put
 cases dst with
 | none=>exact hC'
 | some d=>exact hC'.put (hd d rfl) hy
def OStep(P:Program)(st:St)(f:FuncId)(actual:List AV):Prop :=
 ∃(fn:Func) (tS tR el:TypeId) (inf:TypeInfo) (n o l m o' l' sz:Nat) (xs:List (List AV)) (sz':Nat) (ys:List (List AV)) (c:Nat),
  P.funcs[f]? = some fn ∧ (fn.name == "runtime.NumGoroutine") = false ∧ fn.body.isNone = true ∧ Extern.findNext fn = none ∧ Extern.find fn = some (Extern.SlicesOverlaps.overlaps #[tS, tS] #[tR]) ∧ P.underlying tS = some (.slice el) ∧ P.info? el = some inf ∧
  actual=[.arr n o l,.arr m o' l']∧n≠m∧st.ob n=some (.win sz xs)∧0<l∧l≤xs.length∧st.ob m=some (.winc sz' ys c)∧0<l'∧0<c*sz'
theorem zt6{C:Cx}{st:St}{a:Act}{w:World}{I:Nat→Prop}{β:Beta}{φ:Nat→List Nat}{o:Oper}{c:Call}{f:Operand}{fid:FuncId}{fst cap:List AV}{Kx:Act→World→Prop}{Q:Exit→Act→World→Prop}(hd:∀d,o.dst=some d→d<C.nt)(hC:Conc C st a w I β φ)(ho:o.op=.call c)(hc:c.callee=.value f)(hfe:ev st f=.fn fid fst cap)
 (h:OStep P st fid (fst++c.args.toList.map (ev st)++cap)) (hK:∀a' w',CC C (st.put o (.g (.bool false)) []) a' w'→Kx a' w'):o.wp P a w Kx Q:=by
 have hE:∀x,Rv w I β (ev st x) (a.eval x):=zfj hC.env hC.gw
 obtain ⟨dst,op,ty,pos,aft,gd⟩:=o
 obtain ⟨callee,args,argTypes⟩:=c
 simp only at ho hc
 subst ho hc
 simp only at h
 obtain ⟨fn,tS,tR,el,inf,n,o,l,m,o',l',sz,xs,sz',ys,cc,hfn,hname,hbody,hnext,hfind,htS,hinf,hact,hne,hn,hl,hlx,hm,hl',hcc⟩:=h
 have hnt:∀x∈args.toList,∀vs,ev st x≠.tup vs:=by
  intro x hx vs he
  have hm:ev st x∈fst++args.toList.map (ev st)++cap:=by simp;exact .inr (.inl ⟨x,by simpa using hx,rfl⟩)
  rw [hact,he] at hm
  simp at hm
 have hfv:=hE f
 rw [hfe] at hfv
 obtain ⟨fs,us,hfv,g1,g2⟩:=hfv
 have hvs:=zcv _ _ _ _ (zcv _ _ _ _ (zc7 _ _ g1) (zf6 hE args.toList hnt)) (zc7 _ _ g2)
 rw [hact] at hvs
 obtain ⟨v1,vs1,e1,r1,v2,vs2,rfl,r2,rfl⟩:=hvs
 obtain ⟨bl,b1,b2,b3⟩:=r1
 obtain ⟨bl',b1',b2',b3'⟩:=r2
 obtain ⟨bn,p1,p2,p3,p4,p5⟩:=hC.ob _ _ hn
 obtain ⟨bm,q1,q2,q3,q4,q5,q6,⟨arr',ety',q7,q8⟩,q9⟩:=hC.ob _ _ hm
 rw [b1] at p1;cases p1
 rw [b1'] at q1;cases q1
 rcases p5 with ⟨p5,-⟩ | ⟨p5,⟨arr,ety,p6,p7⟩,-⟩
 ·omega
 have hbne:bl.b≠bl'.b:=by
  intro e
  exact hC.sep n m hne bl.b (by rw [p5];simp) (by rw [q6,e];simp)
 have h1:v1=.slice (some ⟨bl.b,bl.o+o*bl.sz,none⟩) l (bl.cap-o):=by
  rcases b3 with h | ⟨h,-⟩
  ·exact h
  ·omega
 have h2:v2=.slice (some ⟨bl'.b,bl'.o+o'*bl'.sz,none⟩) l' (bl'.cap-o'):=by
  rcases b3' with h | ⟨h,-⟩
  ·exact h
  ·omega
 subst h1;subst h2
 have hov:=Lib.run_overlaps_apart (P:=P) w tS tR el htS inf.size (λw=>by simp [sizeOf,typeInfo,hinf]) ⟨bl.b,bl.o+o*bl.sz,none⟩ ⟨bl'.b,bl'.o+o'*bl'.sz,none⟩ l (bl.cap-o) l' (bl'.cap-o') hbne ety ety' arr.size arr'.size
  (by simp [World.shape?,p6]) (by simp [World.shape?,q7]) (by rw [q5] at q8;omega) (by simp [World.frozen?,p6]) (by simp [World.frozen?,p6])
 unfold Oper.wp
 have hrun:(execOp a.eval ⟨dst,.call { callee:=.value f,args,argTypes },ty,pos,aft,gd⟩).run P w=.ok (.value (.bool false)) w:=by
  have hcall:=run_callFunc_extern hfn hname hbody hnext hfind ⟨fs++args.toList.map a.eval++us⟩ w
  rw [e1] at hcall
  simp only [execOp,resolve,hfv,Deferred.ofValue,Sem.run_bind,Sem.run_pure,Result.andThen_ok,invoke]
  have e3:(⟨fs⟩++Array.map a.eval args++⟨us⟩:Array Value)=⟨fs++args.toList.map a.eval++us⟩:=by
   apply Array.ext';simp
  rw [e3,e1,hcall,hov]
  rfl
 rw [hrun]
 refine hK _ _ ⟨I,β,φ,?_⟩
 unfold St.put
 cases dst with
 | none=>exact hC
 | some d=>exact hC.put (hd d rfl) rfl
end Go.Proofs.YtodmafgmdlkhoaaDoor.Vs
end
section
namespace Go.Proofs.YtodmafgmdlkhoaaDoor.Vs
set_option linter.all false
open Go.RowKit
variable {P:Program}
structure En where
 wd:Bool
 v:AV
 u:Ups
 R:Nat→Prop
 T:Nat→Prop:=λ_=>True
def befGo:List Oper→List Nat→List Nat
 | [],acc=>acc
 | o :: r,acc=>befGo r (acc++[o.after.toList.foldl (λm e=>if Region.binds .any e=true∧e.on<acc.length then m ||| 2^e.on ||| acc.getD e.on 0 else m) 0])
def bef(l:List Oper)(i j:Nat):Bool:=((befGo l []).getD i 0).testBit j
def ordOk(l:List Oper):Bool :=
 (List.range l.length).all λi=>match l[i]? with
  | some o=>o.after.toList.all (λe=>!Region.binds .any e || decide (e.on<i))&&(List.range i).all λj=>bef l i j || (match l[j]? with | some p=>p.apart l.toArray o | none=>true)
  | none=>true
def wantOk(ops:Array Oper)(st:St)(o:Oper)(e:En):Prop :=
 match o.guard with
 | none=>e.wd=true
 | some (j,want)=>∃d,(ops[j]?).bind (·.dst)=some d∧((∃b,st.env d=.g (.bool b)∧e.wd=(b==want))∨(∃vs,st.env d=.g (.tuple vs)∧e.wd=false))
def Agr(ops:Array Oper)(o:Oper)(R T:Nat→Prop)(st' st:St):Prop:=(∀t,t∈o.looksAt ops→st'.env t=st.env t)∧(∀n,R n→st'.ob n=st.ob n)∧∀n,¬R n→T n→∀sz ys,st'.ob n≠some (.flat sz ys)
def RunOp(P:Program)(ops:Array Oper)(st:St)(o:Oper)(e:En):Prop :=
 wantOk ops st o e∧(e.wd=true→∀st',Agr ops o e.R e.T st' st→AStepX P st' o e.v e.u)∧(e.wd=false→e.v=.g undef∧e.u=[])
abbrev Lz:=List (Oper × En)
def stF:Lz→(Nat→Bool)→Nat→St→St
 | [],_,_,st=>st
 | (o,e) :: r,L,i,st=>stF r L (i+1) (if L i=true then st.put o e.v e.u else st)
def Run(P:Program)(ops:Array Oper):Lz→St→Prop
 | [],_=>True
 | (o,e) :: r,st=>RunOp P ops st o e∧Run P ops r (st.put o e.v e.u)
def unm(u:Ups)(n:Nat):Prop:=∃o,(n,o)∈u
def obApart(x y:En):Prop:=∀n,(unm x.u n→¬y.R n∧¬unm y.u n)∧(unm y.u n→¬x.R n)
theorem zd3{n:Nat}:∀(u:Ups) (ob:Nat→Option OB),¬unm u n→updL ob u n=ob n
 | [],ob,_=>rfl
 | (k,o) :: r,ob,h=>by
  rw [zcd,zd3 r _ λ⟨p,hp⟩=>h ⟨p,by simp [hp]⟩,zbb]
  rintro rfl
  exact h ⟨o,by simp⟩
theorem zld{n:Nat}:∀(u:Ups) (ob ob':Nat→Option OB),unm u n→updL ob u n=updL ob' u n
 | [],_,_,⟨_,h⟩=>by simp at h
 | (k,o) :: r,ob,ob',h=>by
  rw [zcd,zcd]
  by_cases hr:unm r n
  ·exact zld r _ _ hr
  ·rw [zd3 r _ hr,zd3 r _ hr]
   obtain ⟨p,hp⟩:=h
   rcases List.mem_cons.1 hp with h1 | h1
   ·cases h1;simp [zbd]
   ·exact (hr ⟨p,h1⟩).elim
theorem zdx{st:St}{o:Oper}{v:AV}{u:Ups}{t:Nat}(h:o.dst≠some t):(st.put o v u).env t=st.env t:=by
 unfold St.put
 cases hd:o.dst with
 | none=>rfl
 | some d=>exact zbb _ _ (by rintro rfl;exact h hd)
theorem zfh{st:St}{o:Oper}{v:AV}{u:Ups}{t:Nat}(h:o.dst=some t):(st.put o v u).env t=v:=by
 unfold St.put
 rw [h];exact zbd _ _ _
theorem put_comm{st:St}{o p:Oper}{v z:AV}{u y:Ups}(h:∀d,o.dst=some d→p.dst≠some d)(hu:∀n,unm u n→¬unm y n):(st.put o v u).put p z y=(st.put p z y).put o v u:=by
 have henv:((st.put o v u).put p z y).env=((st.put p z y).put o v u).env:=by
  funext t
  by_cases h1:o.dst=some t
  ·rw [zdx (h t h1),zfh h1,zfh h1]
  ·rw [zdx h1]
   by_cases h2:p.dst=some t
   ·rw [zfh h2,zfh h2]
   ·rw [zdx h2,zdx h2,zdx h1]
 have hob:((st.put o v u).put p z y).ob=((st.put p z y).put o v u).ob:=by
  funext n
  show updL (updL st.ob u) y n=updL (updL st.ob y) u n
  by_cases h1:unm u n
  ·rw [zd3 _ _ (hu n h1)];exact zld _ _ _ h1
  ·rw [zd3 u _ h1]
   by_cases h2:unm y n
   ·exact zld _ _ _ h2
   ·rw [zd3 _ _ h2,zd3 _ _ h2,zd3 _ _ h1]
 cases h1:(st.put o v u).put p z y
 cases h2:(st.put p z y).put o v u
 rw [h1,h2] at henv hob
 simp only at henv hob
 rw [henv,hob]
theorem zny:∀(x y:Lz) (L:Nat→Bool) (i:Nat) (st:St),stF (x++y) L i st=stF y L (i+x.length) (stF x L i st)
 | [],_,_,_,_=>rfl
 | (o,e) :: x,y,L,i,st=>by
  show stF (x++y) L (i+1) _=_
  rw [zny x y]
  simp only [List.length_cons]
  rw [show i+1+x.length=i+(x.length+1) by omega]
  rfl
theorem stF_env{t:Nat}:∀(x:Lz) (L:Nat→Bool) (i:Nat) (st:St),(∀(j:Nat) oe,x[j]? = some oe→L (i+j)=true→oe.1.dst≠some t)→(stF x L i st).env t=st.env t
 | [],_,_,_,_=>rfl
 | (o,e) :: x,L,i,st,h=>by
  unfold stF
  rw [stF_env x L (i+1) _ λj oe hj hl=>h (j+1) oe (by simpa using hj) (by rw [←hl];congr 1;omega)]
  split
  ·rename_i hl
   exact zdx (h 0 (o,e) rfl hl)
  ·rfl
theorem stF_ob{n:Nat}:∀(x:Lz) (L:Nat→Bool) (i:Nat) (st:St),(∀(j:Nat) oe,x[j]? = some oe→L (i+j)=true→¬unm oe.2.u n)→(stF x L i st).ob n=st.ob n
 | [],_,_,_,_=>rfl
 | (o,e) :: x,L,i,st,h=>by
  unfold stF
  rw [stF_ob x L (i+1) _ λj oe hj hl=>h (j+1) oe (by simpa using hj) (by rw [←hl];congr 1;omega)]
  split
  ·rename_i hl
   exact zd3 _ _ (h 0 (o,e) rfl hl)
  ·rfl
theorem znz{n:Nat}:∀(x:Lz) (L:Nat→Bool) (i:Nat) (st:St),(∀sz ys,st.ob n≠some (.flat sz ys))→(∀oe∈x,∀o,(n,o)∈oe.2.u→∀sz ys,o≠.flat sz ys)→∀sz ys,(stF x L i st).ob n≠some (.flat sz ys)
 | [],_,_,_,h,_=>h
 | (o,e) :: x,L,i,st,h,hx=>by
  unfold stF
  refine znz x L (i+1) _ ?_ λoe hm=>hx oe (by simp [hm])
  split
  ·have hx:=hx (o,e) (by simp)
   simp only at hx
   show ∀sz ys,updL st.ob e.u n≠_
   generalize e.u=u at hx
   intro sz ys hf
   have:∀(u:Ups) (ob:Nat→Option OB),(∀o,(n,o)∈u→∀sz ys,o≠OB.flat sz ys)→(∀sz ys,ob n≠some (.flat sz ys))→∀sz ys,updL ob u n≠some (.flat sz ys):=by
    intro u
    induction u with
    | nil=>intro ob _ h;exact h
    | cons p r ih =>
     obtain ⟨k,p⟩:=p
     intro ob h1 h2
     rw [zcd]
     refine ih _ (λo ho=>h1 o (by simp [ho])) ?_
     intro sz ys
     by_cases hk:n=k
     ·subst hk;rw [zbd];intro he;cases he;exact h1 _ (by simp) sz ys rfl
     ·rw [zbb _ _ hk];exact h2 sz ys
   exact this u st.ob hx h sz ys hf
  ·exact h
theorem zwo{t:Nat}:∀(x:Lz) (L L':Nat→Bool) (i:Nat) (st st':St),st.env t=st'.env t→(∀(j:Nat) oe,x[j]? = some oe→L (i+j)≠L' (i+j)→oe.1.dst≠some t)→(stF x L i st).env t=(stF x L' i st').env t
 | [],_,_,_,_,_,h,_=>h
 | (o,e) :: x,L,L',i,st,st',h0,h=>by
  unfold stF
  refine zwo x L L' (i+1) _ _ ?_ λj oe hj hl=>h (j+1) oe (by simpa using hj) (by rw [show i+(j+1)=i+1+j by omega];exact hl)
  by_cases hd:o.dst=some t
  ·have : L i = L' i := by
    apply Classical.byContradiction
    intro hne;exact h 0 (o,e) rfl hne hd
   rw [this]
   split
   ·rw [zfh hd,zfh hd]
   ·exact h0
  ·split<;>split<;>simp only [zdx hd,h0]
theorem stF_ob2{n:Nat}:∀(x:Lz) (L L':Nat→Bool) (i:Nat) (st st':St),st.ob n=st'.ob n→(∀(j:Nat) oe,x[j]? = some oe→L (i+j)≠L' (i+j)→¬unm oe.2.u n)→(stF x L i st).ob n=(stF x L' i st').ob n
 | [],_,_,_,_,_,h,_=>h
 | (o,e) :: x,L,L',i,st,st',h0,h=>by
  unfold stF
  refine stF_ob2 x L L' (i+1) _ _ ?_ λj oe hj hl=>h (j+1) oe (by simpa using hj) (by rw [show i+(j+1)=i+1+j by omega];exact hl)
  by_cases hd:unm e.u n
  ·have : L i = L' i := by
    apply Classical.byContradiction
    intro hne;exact h 0 (o,e) rfl hne hd
   rw [this]
   split
   ·exact zld _ _ _ hd
   ·exact h0
  ·have hput:∀st:St,(st.put o e.v e.u).ob n=st.ob n:=λst=>zd3 _ _ hd
   split<;>split<;>simp only [hput,h0]
theorem zwp:∀(x:Lz) (L:Nat→Bool) (i:Nat) (st:St) (o:Oper) (e:En),(∀(j:Nat) oe,x[j]? = some oe→L (i+j)=true→(∀d,o.dst=some d→oe.1.dst≠some d)∧∀n,unm e.u n→¬unm oe.2.u n) →
 stF x L i (st.put o e.v e.u)=(stF x L i st).put o e.v e.u
 | [],_,_,_,_,_,_=>rfl
 | (p,f) :: x,L,i,st,o,e,h=>by
  unfold stF
  have ih:=λst=>zwp x L (i+1) st o e λj oe hj hl=>h (j+1) oe (by simpa using hj) (by rw [←hl];congr 1;omega)
  split
  ·rename_i hl
   obtain ⟨h1,h2⟩:=h 0 (p,f) rfl hl
   rw [put_comm h1 h2]
   exact ih _
  ·exact ih _
theorem zrx{ops:Array Oper}:∀(x:Lz) (o:Oper) (e:En) (y:Lz) (st:St) (i:Nat),Run P ops (x++(o,e) :: y) st→RunOp P ops (stF x (λ_=>true) i st) o e
 | [],_,_,_,_,_,h=>h.1
 | (p,f) :: x,o,e,y,st,i,h=>by
  unfold stF
  rw [if_pos rfl]
  exact zrx x o e y _ (i+1) h.2
end Go.Proofs.YtodmafgmdlkhoaaDoor.Vs
end
section
namespace Go.Proofs.YtodmafgmdlkhoaaDoor.Vs
set_option linter.all false
open Go.RowKit
variable {P:Program}
def befF(acc:List Nat)(m:Nat)(e:Edge):Nat:=if Region.binds .any e=true∧e.on<acc.length then m ||| 2^e.on ||| acc.getD e.on 0 else m
theorem zwq{acc:List Nat}{j:Nat}:∀(es:List Edge) (m:Nat),(es.foldl (befF acc) m).testBit j=true→m.testBit j=true∨∃e∈es,Region.binds .any e=true∧e.on<acc.length∧(e.on=j∨(acc.getD e.on 0).testBit j=true)
 | [],_,h=>.inl h
 | e :: es,m,h=>by
  rcases zwq es _ h with h1 | ⟨e',h1,h2⟩
  ·unfold befF at h1
   split at h1
   ·rename_i hc
    simp only [Nat.testBit_or,Bool.or_eq_true,Nat.testBit_two_pow,decide_eq_true_eq] at h1
    rcases h1 with (h1 | h1) | h1
    ·exact .inl h1
    ·exact .inr ⟨e,by simp,hc.1,hc.2,.inl h1⟩
    ·exact .inr ⟨e,by simp,hc.1,hc.2,.inr h1⟩
   ·exact .inl h1
  ·exact .inr ⟨e',by simp [h1],h2⟩
theorem zmg:∀(l:List Oper) (acc:List Nat) (i:Nat),i<acc.length→(befGo l acc).getD i 0=acc.getD i 0
 | [],_,_,_=>rfl
 | o :: l,acc,i,h=>by
  unfold befGo
  rw [zmg l _ i (by simp;omega)]
  simp only [List.getD_eq_getElem?_getD]
  rw [List.getElem?_append_left h]
theorem zry:∀(l:List Oper) (acc:List Nat) (i:Nat) (o:Oper),l[i]? = some o→∃acc':List Nat,acc'.length=acc.length+i∧(∀k,k<acc'.length→acc'.getD k 0=(befGo l acc).getD k 0)∧(befGo l acc).getD (acc.length+i) 0=o.after.toList.foldl (befF acc') 0
 | [],_,_,_,h=>by simp at h
 | p :: l,acc,0,o,h=>by
  simp at h;subst h
  refine ⟨acc,rfl,λk hk=>(zmg _ acc k hk).symm,?_⟩
  unfold befGo
  rw [zmg l _ _ (by simp)]
  simp only [List.getD_eq_getElem?_getD]
  rw [List.getElem?_append_right (by omega)]
  simp only [Nat.add_zero,Nat.sub_self,List.getElem?_cons_zero,Option.getD_some]
  rfl
 | p :: l,acc,i+1,o,h=>by
  unfold befGo
  obtain ⟨acc',h1,h2,h3⟩:=zry l (acc++[p.after.toList.foldl (λm e=>if Region.binds .any e=true∧e.on<acc.length then m ||| 2^e.on ||| acc.getD e.on 0 else m) 0]) i o (by simpa using h)
  simp only [List.length_append,List.length_cons,List.length_nil] at h1 h3
  refine ⟨acc',by omega,h2,?_⟩
  rw [←h3]
  congr 1
  omega
theorem bef_spec{l:List Oper}{i j:Nat}(h:bef l i j=true):∃o e,l[i]? = some o∧e∈o.after∧Region.binds .any e=true∧e.on<i∧(e.on=j∨bef l e.on j=true):=by
 unfold bef at h
 cases ho:l[i]? with
 | none =>
  have:∀(l:List Oper) (acc:List Nat),(befGo l acc).length=acc.length+l.length:=by
   intro l
   induction l with
   | nil=>intro acc;rfl
   | cons o l ih=>intro acc;unfold befGo;rw [ih];simp;omega
  have hlen:=this l []
  have hge:l.length≤i:=by simpa using ho
  have:(befGo l []).getD i 0=0:=by
   simp only [List.getD_eq_getElem?_getD]
   rw [List.getElem?_eq_none (by rw [hlen];simpa using hge)];rfl
  rw [this] at h;simp at h
 | some o =>
  obtain ⟨acc',h1,h2,h3⟩:=zry l [] i o ho
  simp only [List.length_nil,Nat.zero_add] at h1 h3
  rw [h3] at h
  rcases zwq _ _ h with h4 | ⟨e,h4,h5,h6,h7⟩
  ·simp at h4
  ·refine ⟨o,e,rfl,by simpa using h4,h5,by omega,h7.imp id λh8=>?_⟩
   unfold bef
   rw [←h2 _ h6];exact h8
def Closed(l:List Oper)(L:Nat→Bool):Prop:=∀(i:Nat) o e,l[i]? = some o→L i=true→e∈o.after→Region.binds .any e=true→L e.on=true
theorem bef_in{l:List Oper}{L:Nat→Bool}(hc:Closed l L):∀(i j:Nat),bef l i j=true→(∀o e,l[i]? = some o→e∈o.after→Region.binds .any e=true→L e.on=true)→L j=true:=by
 intro i
 induction i using Nat.strongRecOn with
 | _ i ih =>
  intro j hb hr
  obtain ⟨o,e,h1,h2,h3,h4,h5⟩:=bef_spec hb
  have hL:=hr o e h1 h2 h3
  rcases h5 with rfl | h5
  ·exact hL
  ·exact ih e.on h4 j h5 λo' e' ho' he' hb'=>hc e.on o' e' ho' hL he' hb'
theorem zke{l:List Oper}(h:ordOk l=true):(∀(i:Nat) o e,l[i]? = some o→e∈o.after→Region.binds .any e=true→e.on<i)∧∀(j i:Nat) p o,j<i→l[j]? = some p→l[i]? = some o→bef l i j=true∨p.apart l.toArray o=true:=by
 unfold ordOk at h
 have h:=List.all_eq_true.1 h
 constructor
 ·intro i o e ho he hb
  have:=h i (by simp;exact (List.getElem?_eq_some_iff.1 ho).1)
  rw [ho] at this
  simp only [Bool.and_eq_true] at this
  have:=List.all_eq_true.1 this.1 e (by simpa using he)
  simpa [hb] using this
 ·intro j i p o hji hp ho
  have:=h i (by simp;exact (List.getElem?_eq_some_iff.1 ho).1)
  rw [ho] at this
  simp only [Bool.and_eq_true] at this
  have:=List.all_eq_true.1 this.2 j (by simpa using hji)
  rw [hp] at this
  simpa using this
section
variable {C:Cx}{st:St}
theorem zrz{ops:Array Oper}{listed:Array Bool}{i:Nat}:i∈Region.ready .any ops listed↔i<ops.size∧listed.getD i true=false∧∃o,ops[i]? = some o∧∀e∈o.after,Region.binds .any e=true→listed.getD e.on false=true:=by
 unfold Region.ready
 simp only [List.mem_filter,List.mem_range,Bool.and_eq_true,Bool.not_eq_true']
 constructor
 ·rintro ⟨h1,h2,h3⟩
  refine ⟨h1,h2,?_⟩
  cases ho:ops[i]? with
  | none=>rw [ho] at h3;simp at h3
  | some o =>
   rw [ho] at h3
   refine ⟨o,rfl,λe he hb=>?_⟩
   simp only [Option.map_some,Option.getD_some] at h3
   have:=Array.all_eq_true_iff_forall_mem.1 h3 e he
   simpa [hb] using this
 ·rintro ⟨h1,h2,o,ho,h3⟩
  refine ⟨h1,h2,?_⟩
  rw [ho]
  simp only [Option.map_some,Option.getD_some]
  refine Array.all_eq_true_iff_forall_mem.2 λe he=>?_
  by_cases hb:Region.binds .any e=true
  ·simp [h3 e he hb]
  ·simp [hb]
theorem zzf{l:List Oper}(ho:ordOk l=true){listed:Array Bool}(hs:listed.size=l.length)(hr:Region.ready .any l.toArray listed=[]):∀i,i<l.length→listed.getD i false=true:=by
 intro i
 induction i using Nat.strongRecOn with
 | _ i ih =>
  intro hi
  apply Classical.byContradiction
  intro hne
  have:i∈Region.ready .any l.toArray listed:=by
   refine zrz.2 ⟨by simpa using hi,?_,l[i],by simp [hi],λe he hb=>?_⟩
   ·have:i<listed.size:=by omega
    simp only [Array.getD,this,dif_pos] at hne ⊢
    simpa using hne
   ·have hlt:=(zke ho).1 i l[i] e (by simp [hi]) he hb
    exact ih e.on hlt (by omega)
  rw [hr] at this
  simp at this
theorem zn0{ops:Array Oper}{o:Oper}{t:Nat}(h:Operand.tmp t∈o.op.operands):t∈o.looksAt ops :=
 List.mem_append_left _ (List.mem_filterMap.2 ⟨.tmp t,by simpa using h,rfl⟩)
theorem zzg{ops:Array Oper}{o:Oper}{j d:Nat}{want:Bool}(hg:o.guard=some (j,want))(hd:(ops[j]?).bind (·.dst)=some d):d∈o.looksAt ops:=by
 unfold Oper.looksAt
 refine List.mem_append_right _ ?_
 rw [hg]
 simp only [hd]
 simp
theorem draw_any{l:List Oper}{z:Lz}(hz:z.map (·.1)=l)(ho:ordOk l=true)(hrun:Run P l.toArray z st)(hap:∀(j i:Nat) x y,j<i→z[j]? = some x→z[i]? = some y→bef l i j=true∨obApart x.2 y.2)
 (hD:∀x∈z,∀n,¬x.2.R n→x.2.T n→(∀sz ys,st.ob n≠some (.flat sz ys))∧∀y∈z,∀o,(n,o)∈y.2.u→∀sz ys,o≠.flat sz ys)
 (hd:∀o∈l,∀d,o.dst=some d→d<C.nt) {Q:Exit→Act→World→Prop} (hQ:∀a w,CC C (stF z (λ_=>true) 0 st) a w→Q .normal a w) :
 ∀(fuel:Nat) (listed:Array Bool) (a:Act) (w:World),listed.size=l.length→Closed l (listed.getD · false)→((List.range l.length).filter λi=>!listed.getD i true).length≤fuel →
  CC C (stF z (listed.getD · false) 0 st) a w→wpAny P .any l.toArray Q fuel listed a w:=by
 have hzl:z.length=l.length:=by rw [←hz];simp
 have hzg:∀(i:Nat) x,z[i]? = some x→l[i]? = some x.1:=by
  intro i x hx
  rw [←hz];simp [hx]
 have hend:∀(listed:Array Bool) (a:Act) (w:World),listed.size=l.length→(∀i,i<l.length→listed.getD i false=true)→CC C (stF z (listed.getD · false) 0 st) a w→Q .normal a w:=by
  intro listed a w hs hall hC
  apply hQ
  have:∀(x:Lz) (L:Nat→Bool) (i:Nat) (s:St),(∀k,k<x.length→L (i+k)=true)→stF x L i s=stF x (λ_=>true) i s:=by
   intro x
   induction x with
   | nil=>intro L i s _;rfl
   | cons oe x ih =>
    intro L i s h
    obtain ⟨o,e⟩:=oe
    unfold stF
    rw [if_pos (by simpa using h 0 (by simp)),if_pos rfl]
    exact ih L (i+1) _ λk hk=>by
     have:=h (k+1) (by simpa using hk)
     rwa [show i+(k+1)=i+1+k by omega] at this
  rwa [this z (listed.getD · false) 0 st λk hk=>by rw [Nat.zero_add];exact hall k (by omega)] at hC
 intro fuel
 induction fuel with
 | zero =>
  intro listed a w hs hcl hf hC
  have hnil:(List.range l.length).filter (λi=>!listed.getD i true)=[]:=List.length_eq_zero_iff.1 (by omega)
  have hall:∀i,i<l.length→listed.getD i false=true:=by
   intro i hi
   have:=List.filter_eq_nil_iff.1 hnil i (by simpa using hi)
   have hlt:i<listed.size:=by omega
   simp only [Array.getD,hlt,dif_pos] at this ⊢
   simpa using this
  refine ⟨?_,hend listed a w hs hall hC⟩
  unfold Region.ready
  refine List.filter_eq_nil_iff.2 λi hi=>?_
  have hlt:i<l.length:=by simpa using hi
  have:=hall i hlt
  have hlt':i<listed.size:=by omega
  have h2:listed.getD i true=true:=by
   simp only [Array.getD_eq_getD_getElem?,Array.getElem?_eq_getElem hlt'] at this ⊢
   simpa using this
  rw [h2]
  simp
 | succ fuel ih =>
  intro listed a w hs hcl hf hC
  refine ⟨λhr=>hend listed a w hs (zzf ho hs hr) hC,?_⟩
  intro i hi
  obtain ⟨hlt,hun,o,hoi,haft⟩:=zrz.1 hi
  have hlt:i<l.length:=by simpa using hlt
  have hoi:l[i]? = some o:=by simpa using hoi
  have hun':listed.getD i false=false:=by
   have hlt':i<listed.size:=by omega
   simp only [Array.getD,hlt',dif_pos] at hun ⊢
   exact hun
  obtain ⟨x,hx⟩:∃x,z[i]? = some x:=⟨z[i]'(by omega),by simp⟩
  have hxo:x.1=o:=by have:=hzg i x hx;rw [hoi] at this;exact (Option.some.inj this).symm
  obtain ⟨o',e⟩:=x
  simp only at hxo;subst hxo
  -- the parts of the list
  have hsplit:z=z.take i++(o',e) :: z.drop (i+1):=by
   obtain ⟨h1,h2⟩:=List.getElem?_eq_some_iff.1 hx
   rw [←h2,List.getElem_cons_drop,List.take_append_drop]
  have htl:(z.take i).length=i:=by simp;omega
  let L:Nat→Bool:=(listed.getD · false)
  have hLi:L i=false:=hun'
  have hbefL:∀j,bef l i j=true→L j=true:=λj hb=>bef_in hcl i j hb λo2 e2 h1 h2 h3=>by
   rw [hoi] at h1;cases h1;exact haft e2 h2 h3
  -- those that come later in the text,and are listed already
  have hlater:∀(k:Nat) y,(z.drop (i+1))[k]? = some y→L (i+1+k)=true→o'.apart l.toArray y.1=true∧obApart e y.2:=by
   intro k y hy hL
   rw [List.getElem?_drop] at hy
   have hnb:¬bef l (i+1+k) i=true:=by
    intro hb
    have:=bef_in hcl (i+1+k) i hb λo2 e2 h1 h2 h3=>hcl _ o2 e2 h1 hL h2 h3
    rw [hun'] at this;cases this
   exact ⟨((zke ho).2 i (i+1+k) o' y.1 (by omega) hoi (hzg _ _ hy)).resolve_left hnb,(hap i (i+1+k) (o',e) y (by omega) hx hy).resolve_left hnb⟩
  have hsooner:∀(j:Nat) y,(z.take i)[j]? = some y→L j≠true→y.1.apart l.toArray o'=true∧obApart y.2 e:=by
   intro j y hy hL
   have hji:j<i:=by have:=(List.getElem?_eq_some_iff.1 hy).1;omega
   rw [List.getElem?_take_of_lt hji] at hy
   have hnb:¬bef l i j=true:=λhb=>hL (hbefL j hb)
   exact ⟨((zke ho).2 j i y.1 o' hji (hzg _ _ hy) hoi).resolve_left hnb,(hap j i y (o',e) hji hy hx).resolve_left hnb⟩
  -- the state as it stands,and as the text has it
  have hS:∀L':Nat→Bool,stF z L' 0 st=stF (z.drop (i+1)) L' (i+1) (if L' i=true then (stF (z.take i) L' 0 st).put o' e.v e.u else stF (z.take i) L' 0 st):=by
   intro L'
   conv=>lhs;rw [hsplit]
   rw [zny,htl,Nat.zero_add]
   rfl
  have hSL:=hS L
  rw [if_neg (by rw [hLi];simp)] at hSL
  have hrunop:=zrx (z.take i) o' e (z.drop (i+1)) st 0 (by rw [←hsplit];exact hrun)
  have hagr:Agr l.toArray o' e.R e.T (stF z L 0 st) (stF (z.take i) (λ_=>true) 0 st):=by
   refine ⟨?_,?_,?_⟩
   ·intro t ht
    have e1:=stF_env (t:=t) (z.drop (i+1)) L (i+1) (stF (z.take i) L 0 st) λk y hy hL hdst=>(Oper.apart_spec (hlater k y hy hL).1).2.2 t hdst ht
    have e2:=zwo (t:=t) (z.take i) L (λ_=>true) 0 st st rfl λj y hy hne hdst=>(Oper.apart_spec (hsooner j y hy (by simpa using hne)).1).1 t hdst ht
    rw [hSL,e1,e2]
   ·intro n hn
    have e1:=stF_ob (n:=n) (z.drop (i+1)) L (i+1) (stF (z.take i) L 0 st) λk y hy hL hu=>((hlater k y hy hL).2 n).2 hu hn
    have e2:=stF_ob2 (n:=n) (z.take i) L (λ_=>true) 0 st st rfl λj y hy hne hu=>(((hsooner j y hy (by simpa using hne)).2 n).1 hu).1 hn
    rw [hSL,e1,e2]
   ·intro n hn hT
    obtain ⟨h1,h2⟩:=hD (o',e) (List.mem_of_getElem? hx) n hn hT
    exact znz z L 0 st h1 h2
  -- the next state
  have hnext:stF z ((listed.setIfInBounds i true).getD · false) 0 st=(stF z L 0 st).put o' e.v e.u:=by
   have hset:∀k,(listed.setIfInBounds i true).getD k false=if k=i then true else L k:=by
    intro k
    simp only [Array.getD_eq_getD_getElem?]
    by_cases hk:k=i
    ·subst hk
     rw [Array.getElem?_setIfInBounds_self_of_lt (by omega)]
     simp
    ·rw [Array.getElem?_setIfInBounds_ne (Ne.symm hk),if_neg hk]
     simp [L,Array.getD_eq_getD_getElem?]
   have hfun:((listed.setIfInBounds i true).getD · false)=λk=>if k=i then true else L k:=funext hset
   rw [hfun,hS,if_pos (by simp),hSL]
   have hsame:∀(x:Lz) (L1 L2:Nat→Bool) (b:Nat) (s:St),(∀k,k<x.length→L1 (b+k)=L2 (b+k))→stF x L1 b s=stF x L2 b s:=by
    intro x
    induction x with
    | nil=>intro _ _ _ _ _;rfl
    | cons oe x ih =>
     intro L1 L2 b s h
     obtain ⟨o,e⟩:=oe
     unfold stF
     rw [show L1 b=L2 b by simpa using h 0 (by simp)]
     exact ih L1 L2 (b+1) _ λk hk=>by
      have:=h (k+1) (by simpa using hk)
      rwa [show b+(k+1)=b+1+k by omega] at this
   rw [hsame (z.take i) _ L 0 st λk hk=>by rw [if_neg];omega,hsame (z.drop (i+1)) _ L (i+1) _ λk hk=>by rw [if_neg];omega]
   refine zwp _ L (i+1) _ o' e λk y hy hL=>⟨λd hdst=>(Oper.apart_spec (hlater k y hy hL).1).2.1 d hdst,λn hu=>(((hlater k y hy hL).2 n).1 hu).2⟩
  have hgo:∀a' w',CC C ((stF z L 0 st).put o' e.v e.u) a' w'→wpAny P .any l.toArray Q fuel (listed.setIfInBounds i true) a' w':=by
   intro a' w' hC'
   refine ih _ a' w' (by simp [hs]) ?_ ?_ (by rw [hnext];exact hC')
   ·intro k o2 e2 h1 h2 h3 h4
    have hmono:∀m,listed.getD m false=true→(listed.setIfInBounds i true).getD m false=true:=by
     intro m hm
     simp only [Array.getD_eq_getD_getElem?] at hm ⊢
     by_cases hk:m=i
     ·subst hk;rw [Array.getElem?_setIfInBounds_self_of_lt (by omega)];rfl
     ·rw [Array.getElem?_setIfInBounds_ne (Ne.symm hk)];exact hm
    by_cases hk:k=i
    ·subst hk
     rw [hoi] at h1;cases h1
     exact hmono _ (haft e2 h3 h4)
    ·refine hmono _ (hcl k o2 e2 h1 ?_ h3 h4)
     simp only [Array.getD_eq_getD_getElem?] at h2 ⊢
     rwa [Array.getElem?_setIfInBounds_ne (Ne.symm hk)] at h2
   ·have hff : (List.range l.length).filter (fun k => !(listed.setIfInBounds i true).getD k true) = ((List.range l.length).filter fun k => !listed.getD k true).filter (fun k => decide (k ≠ i)) := by
     rw [List.filter_filter]
     apply List.filter_congr
     intro k hk
     simp only [Array.getD_eq_getD_getElem?]
     by_cases hki:k=i
     ·subst hki;rw [Array.getElem?_setIfInBounds_self_of_lt (by omega)];simp
     ·rw [Array.getElem?_setIfInBounds_ne (Ne.symm hki)];simp [hki]
    rw [hff]
    have:(((List.range l.length).filter λk=>!listed.getD k true).filter (λk=>decide (k≠i))).length<((List.range l.length).filter λk=>!listed.getD k true).length :=
     List.length_filter_lt_length_iff_exists.2 ⟨i,List.mem_filter.2 ⟨by simpa using hlt,by rw [hun];rfl⟩,by simp⟩
    omega
  -- the step
  obtain ⟨hw,hstep,hno⟩:=hrunop
  have hdo:∀d,o'.dst=some d→d<C.nt:=hd o' (List.mem_of_getElem? hoi)
  have hstepL:e.wd=true→AStepX P (stF z L 0 st) o' e.v e.u:=λh=>hstep h _ hagr
  obtain ⟨I,β,φ,hC⟩:=hC
  have hyes:Region.wanted o' (yielded l.toArray a.tmps)=e.wd:=by
   unfold wantOk at hw
   cases hg:o'.guard with
   | none=>rw [hg] at hw;simp only at hw;rw [hw];simp [Region.wanted,hg]
   | some gw =>
    obtain ⟨j,want⟩:=gw
    rw [hg] at hw
    simp only at hw
    obtain ⟨d,hj,hb⟩:=hw
    have hy:=zj7 l.toArray a.tmps j d hj
    have hed:=hagr.1 d (zzg hg hj)
    have he:=hC.env d
    rcases hb with ⟨b,hb,hwd⟩ | ⟨vs,hb,hwd⟩
    ·rw [show (stF z (listed.getD · false) 0 st).env d=(stF z L 0 st).env d from rfl,hed,hb] at he
     change a.tmps.getD d undef=.bool b at he
     rw [he] at hy
     simp only [Region.wanted,hg,hy,hwd]
     cases b<;>cases want<;>rfl
    ·rw [show (stF z (listed.getD · false) 0 st).env d=(stF z L 0 st).env d from rfl,hed,hb] at he
     change a.tmps.getD d undef=.tuple vs at he
     rw [he] at hy
     simp only [Region.wanted,hg,hy,hwd]
     cases want<;>rfl
  unfold wpOp
  simp only [List.getElem?_toArray,hoi]
  rw [hyes]
  cases hwd:e.wd with
  | true =>
   rw [if_pos rfl]
   exact .inl (zg0 hdo hC (hstepL hwd) λa' w' hc=>hgo a' w' hc)
  | false =>
   rw [if_neg (by simp)]
   obtain ⟨h1,h2⟩:=hno hwd
   refine hgo _ _ ?_
   rw [h1,h2]
   exact CC.put_undef hdo hC
end
end Go.Proofs.YtodmafgmdlkhoaaDoor.Vs
end
section
namespace Go.Proofs.YtodmafgmdlkhoaaDoor.Vs
set_option linter.all false
open Go.RowKit
variable {P:Program}
def aregQ(P:Program)(ops:Array Oper):List Oper→St→(St→Prop)→Prop
 | [],st,K=>K st
 | o :: rest,st,K=>match o.guard with
  | none=>aK P st o λv u=>u=[]∧aregQ P ops rest (st.put o v []) K
  | some (j,want)=>match (ops[j]?).bind (·.dst) with
   | some d=>match st.env d with
    | .g (.bool b)=>(b=want→aK P { st with env:=upd st.env d (.g (.bool want)) } o λv u=>u=[]∧aregQ P ops rest (({ st with env:=upd st.env d (.g (.bool want)) }:St).put o v []) K) ∧
     (b=(!want)→aregQ P ops rest (({ st with env:=upd st.env d (.g (.bool (!want))) }:St).put o (.g undef) []) K)
    | .g (.tuple vs)=>vs.size=0∧aregQ P ops rest (st.put o (.g undef) []) K
    | _=>False
   | none=>False
theorem St.same_env{st:St}{d:Nat}{v:AV}(h:st.env d=v):({ st with env:=upd st.env d v }:St)=st:=by
 have:upd st.env d v=st.env:=by
  funext m
  by_cases hm:m=d
  ·subst hm;rw [zbd,h]
  ·rw [zbb _ _ hm]
 rw [this]
theorem agr_all{ops:Array Oper}{o:Oper}{v:AV}{st st':St}(h:AStep P st o v [])(ha:Agr ops o (λ_=>True) (λ_=>True) st' st):AStep P st' o v []:=by
 refine AStep_env (funext λn=>ha.2.1 n trivial) (λx hx=>?_) h
 cases x with
 | tmp t=>exact ha.1 t (zn0 hx)
 | _=>rfl
theorem zr0{ops:Array Oper}{K:St→Prop}:∀(l:List Oper) (st:St) (i:Nat),aregQ P ops l st K→∃z:Lz,z.map (·.1)=l∧Run P ops z st∧(∀x∈z,x.2.u=[]∧∀n,x.2.R n)∧K (stF z (λ_=>true) i st)
 | [],st,i,h=>⟨[],rfl,trivial,by simp,h⟩
 | o :: rest,st,i,h=>by
  unfold aregQ at h
  have done:∀e:En,e.u=[]→(∀n,e.R n)→RunOp P ops st o e→aregQ P ops rest (st.put o e.v e.u) K→∃z:Lz,z.map (·.1)=o :: rest∧Run P ops z st∧(∀x∈z,x.2.u=[]∧∀n,x.2.R n)∧K (stF z (λ_=>true) i st):=by
   intro e hu hR hr h
   obtain ⟨z,h1,h2,h3,h4⟩:=zr0 rest _ (i+1) h
   refine ⟨(o,e) :: z,by simp [h1],⟨hr,h2⟩,?_,?_⟩
   ·intro x hx
    rcases List.mem_cons.1 hx with rfl | hx
    ·exact ⟨hu,hR⟩
    ·exact h3 x hx
   ·unfold stF;rw [if_pos rfl];exact h4
  split at h
  ·rename_i hg
   obtain ⟨v,u,h1,rfl,h2⟩:=zpk h
   exact done ⟨true,v,[],λ_=>True,λ_=>True⟩ rfl (λ_=>trivial) ⟨by unfold wantOk;rw [hg],λ_ st' ha=>zrw (agr_all h1 ha),by simp⟩ h2
  ·rename_i j want hg
   split at h
   ·rename_i d hj
    split at h
    ·rename_i b hb
     by_cases hbw:b=want
     ·subst hbw
      have h:=h.1 rfl
      rw [St.same_env hb] at h
      obtain ⟨v,u,h1,rfl,h2⟩:=zpk h
      exact done ⟨true,v,[],λ_=>True,λ_=>True⟩ rfl (λ_=>trivial) ⟨by unfold wantOk;rw [hg];exact ⟨d,hj,.inl ⟨b,hb,by simp⟩⟩,λ_ st' ha=>zrw (agr_all h1 ha),by simp⟩ h2
     ·have hbn:b = !want:=by cases b<;>cases want<;>simp_all
      subst hbn
      have h:=h.2 rfl
      rw [St.same_env hb] at h
      exact done ⟨false,.g undef,[],λ_=>True,λ_=>True⟩ rfl (λ_=>trivial) ⟨by unfold wantOk;rw [hg];exact ⟨d,hj,.inl ⟨!want,hb,by cases want<;>rfl⟩⟩,by simp,λ_=>⟨rfl,rfl⟩⟩ h
    ·rename_i vs hb
     exact done ⟨false,.g undef,[],λ_=>True,λ_=>True⟩ rfl (λ_=>trivial) ⟨by unfold wantOk;rw [hg];exact ⟨d,hj,.inr ⟨vs,hb,rfl⟩⟩,by simp,λ_=>⟨rfl,rfl⟩⟩ h.2
    ·exact h.elim
   ·exact h.elim
theorem CC.drew{C:Cx}{st:St}{a:Act}{w:World}(h:CC C st a w):CC C st a { w with drawn:=w.drawn+1 }:=by
 obtain ⟨I,β,φ,hC⟩:=h
 exact ⟨I,β,φ,hC.move (ob':=st.ob) (β':=β) (φ':=φ) (I':=I) (λ_=>False) (Evo.refl _ w).drew (λ_ h=>h.elim) (λ_ h=>h) (λ_ h=>.inl h) (λ_ _ h=>h)
  (λn o ho=>.inl ⟨ho,rfl,λ_ _ h=>h⟩) hC.dom hC.fdom hC.sep hC.nimm hC.flt hC.wok hC.fnew⟩
theorem stF_nil:∀(z:Lz) (i:Nat) (st:St),stF z (λ_=>false) i st=st
 | [],_,_=>rfl
 | (o,e) :: z,i,st=>by unfold stF;rw [if_neg (by simp)];exact stF_nil z (i+1) st
theorem zn1{C:Cx}{st:St}{l:List Oper}{z:Lz}(hm:P.follows .mixedOrders=true)(hz:z.map (·.1)=l)(ho:ordOk l=true)(hrun:Run P l.toArray z st)(hap:∀(j i:Nat) x y,j<i→z[j]? = some x→z[i]? = some y→bef l i j=true∨obApart x.2 y.2)
 (hD:∀x∈z,∀n,¬x.2.R n→x.2.T n→(∀sz ys,st.ob n≠some (.flat sz ys))∧∀y∈z,∀o,(n,o)∈y.2.u→∀sz ys,o≠.flat sz ys)
 (hd:∀o∈l,∀d,o.dst=some d→d<C.nt) {Q:Exit→Act→World→Prop} (hQ:∀a w,CC C (stF z (λ_=>true) 0 st) a w→Q .normal a w) {id:Nat} {a:Act} {w:World} (hC:CC C st a w):(Code.region id l.toArray true).wp P Q a w:=by
 refine wp_region_any hm ?_
 have hf:((Array.replicate l.toArray.size false).getD · false)=λ_=>false:=by
  funext k
  simp only [Array.getD_eq_getD_getElem?,Array.getElem?_replicate]
  split<;>rfl
 refine draw_any hz ho hrun hap hD hd hQ _ _ a _ (by simp) ?_ ?_ ?_
 ·rw [hf];intro i o e _ h;cases h
 ·exact Nat.le_trans (List.length_filter_le _ _) (by simp)
 ·rw [hf,stF_nil];exact hC.drew
section
variable {nt:Nat}{fs:List Nat}{Q:AExit→St→Prop}{st:St}
theorem zwr{id:Nat}{l:List Oper}(hm:P.follows .mixedOrders=true)(ho:ordOk l=true)(hd:dstOk nt l.toArray=true)(h:aregQ P l.toArray l st (Q .normal)):AW P nt fs (.region id l.toArray true) Q st:=by
 intro C a w hn hf hC
 subst hn
 obtain ⟨z,h1,h2,h3,h4⟩:=zr0 l st 0 h
 refine zn1 hm h1 ho h2 ?_ (λx hx n hn _=>absurd ((h3 x hx).2 n) hn) (by simpa using zf8 hd) (λa w hc=>⟨_,h4,hc⟩) hC
 intro j i x y _ hx hy
 refine .inr λn=>?_
 rw [(h3 x (List.mem_of_getElem? hx)).1,(h3 y (List.mem_of_getElem? hy)).1]
 exact ⟨λ⟨_,h⟩=>by simp at h,λ⟨_,h⟩=>by simp at h⟩
end
end Go.Proofs.YtodmafgmdlkhoaaDoor.Vs
end
section
namespace Go.Proofs.YtodmafgmdlkhoaaDoor.Vs
set_option linter.all false
open Go.RowKit
variable {P:Program}
@[congr] theorem CK_congr {st:St} {f:FuncId} {l l':List AV} {K:AV→Ups→Prop} (h:l=l'):CK P st f l K=CK P st f l' K:=by rw [h]
@[congr] theorem AW_congr {nt:Nat} {fs:List Nat} {c:Code} {Q:AExit→St→Prop} {st st':St} (h:st=st'):AW P nt fs c Q st=AW P nt fs c Q st':=by rw [h]
@[congr] theorem aK_congr {st st':St} {o:Oper} {K:AV→Ups→Prop} (h:st=st'):aK P st o K=aK P st' o K:=by rw [h]
@[congr] theorem areg_congr {ops:Array Oper} {l:List Oper} {st st':St} {K:St→Prop} (h:st=st'):areg P ops l st K=areg P ops l st' K:=by rw [h]
@[congr] theorem aregQ_congr {ops:Array Oper} {l:List Oper} {st st':St} {K:St→Prop} (h:st=st'):aregQ P ops l st K=aregQ P ops l st' K:=by rw [h]
theorem aK_mono{st:St}{o:Oper}{K K':AV→Ups→Prop}(h:aK P st o K)(hk:∀v u,K v u→K' v u):aK P st o K':=by
 obtain ⟨dst,op,ty,pos,aft,gd⟩:=o
 unfold aK at h ⊢
 cases op with
 | call c =>
  simp only at h ⊢
  cases hc:c.callee with
  | builtin b =>
   rw [hc] at h
   simp only at h ⊢
   generalize aBuiltin P st _ b _ _=r at h ⊢
   cases r with
   | none=>exact h
   | some t=>obtain ⟨p,v,u⟩:=t;exact ⟨h.1,hk _ _ h.2⟩
  | invoke _ _=>rw [hc] at h;exact h.elim
  | value f =>
   rw [hc] at h
   simp only at h ⊢
   split at h
   ·obtain ⟨v,u,h1,h2⟩:=h
    exact ⟨v,u,h1,hk _ _ h2⟩
   ·exact h.elim
 | _ =>
  simp only at h ⊢
  generalize aop P st _ _=r at h ⊢
  cases r with
  | none=>exact h
  | some t=>obtain ⟨p,v,u⟩:=t;exact ⟨h.1,hk _ _ h.2⟩
theorem zbn{st:St}{ν:Nat→Option Nat}:am2s st ν [] []:=rfl
theorem zbf{st:St}{ν:Nat→Option Nat}{a b:AV}{l m:List AV}(h:am2 st ν a b)(t:am2s st ν l m):am2s st ν (a :: l) (b :: m):=⟨h,t⟩
theorem zcb{st:St}{ν:Nat→Option Nat}{v:Value}:am2 st ν (.g v) (.g v):=by
 show am0 st ν _ _
 unfold am0
 split<;>simp_all
theorem zd9{st:St}{ν:Nat→Option Nat}{v:List UInt8}:am2 st ν (.s v) (.s v):=rfl
theorem zmh{st:St}{ν:Nat→Option Nat}{sz:Nat}{xs:List (List AV)}:am2 st ν (.sl sz xs) (.sl sz xs):=⟨rfl,rfl⟩
def plain1:AV→Bool
 | .g _=>true
 | .s _=>true
 | .sl ..=>true
 | .ip _=>true
 | _=>false
theorem am1_plain{st:St}{ν:Nat→Option Nat}:∀(c:AV),plain1 c=true→am1 st ν c c
 | .g _,_=>zcb
 | .s _,_=>rfl
 | .sl ..,_=>⟨rfl,rfl⟩
 | .ip _,_=>rfl
 | .agg ..,h | .ot ..,h | .arr ..,h | .ptr ..,h | .eptr ..,h | .fn ..,h | .tup ..,h | .undef,h=>by simp [plain1] at h
theorem zhh{st:St}{ν:Nat→Option Nat}:∀(cs:List AV),cs.all plain1=true→am1s st ν cs cs
 | [],_=>rfl
 | c :: cs,h=>by
  simp only [List.all_cons,Bool.and_eq_true] at h
  exact ⟨am1_plain c h.1,zhh cs h.2⟩
theorem zcn{st:St}{ν:Nat→Option Nat}{cs:List AV}(h:cs.all plain1=true):am2 st ν (.agg cs) (.agg cs):=zhh cs h
def plain2:AV→Bool
 | .agg cs=>cs.all plain1
 | a=>plain1 a
def KpE(st:St):List (Nat × AV)→Prop
 | []=>True
 | (t,v) :: r=>st.env t=v∧KpE st r
theorem KpE_get{st:St}:∀ {e:List (Nat × AV)},KpE st e→∀n v,lk e n=some v→st.env n=v
 | (k,u) :: r,h,n,v,hl=>by
  unfold lk at hl
  cases hk:n==k with
  | true=>rw [hk] at hl;simp at hl hk;subst hl;subst hk;exact h.1
  | false=>rw [hk] at hl;exact KpE_get h.2 n v hl
section
variable {nt:Nat}{fs:List Nat}{Q:AExit→St→Prop}{st:St}
theorem zzh{id:Nat}{l:List Oper}{y:Code}(hd:dstOk nt l.toArray=true)(h:areg P l.toArray l st λs=>AW P nt fs y Q s):AW P nt fs (.seq (.region id l.toArray false) y) Q st :=
 zbe (zrc hd h)
theorem AW_quiet'{id:Nat}{l:List Oper}{y:Code}(hm:P.follows .mixedOrders=true)(ho:ordOk l=true)(hd:dstOk nt l.toArray=true)(h:aregQ P l.toArray l st λs=>AW P nt fs y Q s):AW P nt fs (.seq (.region id l.toArray true) y) Q st :=
 zbe (zwr hm ho hd h)
end
end Go.Proofs.YtodmafgmdlkhoaaDoor.Vs
end
