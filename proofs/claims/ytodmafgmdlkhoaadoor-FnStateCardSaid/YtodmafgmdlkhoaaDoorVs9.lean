import Derived.Test.YtodmafgmdlkhoaaDoorVs8
section
namespace Go.Proofs.YtodmafgmdlkhoaaDoor.Vs
set_option linter.all false
def nst:AV→Bool
 | .sl ..=>true
 | _=>false
def unn(c:AV)(v:Value):AV:=match c with
 | .sl ..=>.g v
 | c=>c
def ux(q:Nat→Value):Nat→List AV→List AV
 | _,[]=>[]
 | j,c :: cs=>unn c (q j) :: ux q (j+1) cs
def pkc(q:Nat→Value):Nat→List AV→List (AV × Value)
 | _,[]=>[]
 | j,c :: cs=>if nst c=true then (c,q j) :: pkc q (j+1) cs else pkc q (j+1) cs
def plC:AV→Bool
 | .g _=>true
 | .s _=>true
 | .sl ..=>true
 | _=>false
theorem ux_len(q:Nat→Value):∀(cs:List AV) (j:Nat),(ux q j cs).length=cs.length
 | [],_=>rfl
 | c :: cs,j=>by simp [ux,ux_len q cs]
theorem zww{q q':Nat→Value}:∀(cs:List AV) (j:Nat),(∀k,j≤k→q k=q' k)→ux q j cs=ux q' j cs
 | [],_,_=>rfl
 | c :: cs,j,h=>by rw [ux,ux,h j (Nat.le_refl _),zww cs (j+1) λk hk=>h k (by omega)]
theorem zsa{q q':Nat→Value}:∀(cs:List AV) (j:Nat),(∀k,j≤k→q k=q' k)→pkc q j cs=pkc q' j cs
 | [],_,_=>rfl
 | c :: cs,j,h=>by rw [pkc,pkc,h j (Nat.le_refl _),zsa cs (j+1) λk hk=>h k (by omega)]
theorem zg3{w:World}:∀(ps qs:List (AV × Value)) (F:List Nat),RWs w (ps++qs) F↔∃F1 F2,F=F1++F2∧RWs w ps F1∧RWs w qs F2
 | [],qs,F=>by
  constructor
  ·intro h;exact ⟨[],F,rfl,rfl,h⟩
  ·rintro ⟨F1,F2,rfl,h1,h2⟩
   have h1:F1=[]:=h1
   subst h1;exact h2
 | p :: ps,qs,F=>by
  have ih:=zg3 (w:=w) ps qs
  constructor
  ·rintro ⟨F1,F2,rfl,h1,h2⟩
   obtain ⟨F3,F4,rfl,h3,h4⟩:=(ih F2).1 h2
   exact ⟨F1++F3,F4,by simp,⟨F1,F3,rfl,h1,h3⟩,h4⟩
  ·rintro ⟨_,F2,rfl,⟨F1,F3,rfl,h1,h3⟩,h4⟩
   exact ⟨F1,F3++F2,by simp,h1,(ih _).2 ⟨F3,F2,rfl,h3,h4⟩⟩
theorem RWs_sub{w:World}{ps qs:List (AV × Value)}(h:ps.Sublist qs):∀(F:List Nat),RWs w qs F→∃F',F'.Sublist F∧RWs w ps F':=by
 induction h with
 | slnil=>exact λF hF=>⟨F,List.Sublist.refl _,hF⟩
 | cons a _ ih =>
  rintro F ⟨F1,F2,rfl,h1,h2⟩
  obtain ⟨F',h3,h4⟩:=ih F2 h2
  exact ⟨F',h3.trans (List.sublist_append_right _ _),h4⟩
 | cons_cons a _ ih =>
  rintro F ⟨F1,F2,rfl,h1,h2⟩
  obtain ⟨F',h3,h4⟩:=ih F2 h2
  exact ⟨F1++F',(List.Sublist.refl F1).append h3,F1,F',rfl,h1,h4⟩
theorem zsb{w:World}{I:Nat→Prop}{β:Beta}{b:Nat}:∀(cs:List AV) (o k:Nat) (F:List Nat),RWc w b o cs F→∃q:Nat→Value,(∀j,(q j).oneCell'=true)∧RJc w I β b o (ux q k cs)∧RWs w (pkc q k cs) F
 | [],o,k,F,h=>by
  rw [RWc] at h
  subst h
  exact ⟨λ_=>.bool false,λ_=>rfl,trivial,rfl⟩
 | c :: cs,o,k,F,h=>by
  rw [RWc] at h
  obtain ⟨F1,F2,rfl,⟨v,hv,hr⟩,h2⟩:=h
  obtain ⟨q,q1,q2,q3⟩:=zsb (I:=I) (β:=β) cs (o+1) (k+1) F2 h2
  have hone:v.oneCell'=true:=by
   cases c with
   | g x=>rw [RW] at hr;rw [hr.1];exact hr.2.1
   | s l=>rw [RW] at hr;rw [hr.1];rfl
   | sl s xs=>rw [RW] at hr;obtain ⟨a,cap,rfl,-⟩:=hr;rfl
   | _=>simp [RW] at hr
  have hk:∀j,k+1≤j→(λj=>if j=k then v else q j) j=q j:=λj hj=>by simp only;rw [if_neg (by omega)]
  refine ⟨λj=>if j=k then v else q j,λj=>?_,?_,?_⟩
  ·show (if j=k then v else q j).oneCell'=true
   split
   ·exact hone
   ·exact q1 j
  ·rw [ux,zww cs (k+1) hk]
   refine ⟨⟨v,hv,?_,hone⟩,q2⟩
   show Rv1 w I β (unn c (if k=k then v else q k)) v
   rw [if_pos rfl]
   cases c with
   | g x=>rw [RW] at hr;exact hr.1
   | s l=>rw [RW] at hr;exact hr.1
   | sl s xs=>rfl
   | _=>simp [RW] at hr
  ·rw [pkc,zsa cs (k+1) hk]
   have hif:(λj=>if j=k then v else q j) k=v:=if_pos rfl
   cases c with
   | g x=>rw [RW] at hr;obtain ⟨-,-,rfl⟩:=hr;rw [if_neg (by simp [nst])];simpa using q3
   | s l=>rw [RW] at hr;obtain ⟨-,rfl⟩:=hr;rw [if_neg (by simp [nst])];simpa using q3
   | sl s xs=>rw [if_pos (by simp [nst])];simp only [if_true];exact ⟨F1,F2,rfl,hr,q3⟩
   | _=>simp [RW] at hr
theorem zsc{w:World}{I:Nat→Prop}{β:Beta}{b sz:Nat}{α:Type}(f:α→List AV):∀(us:List α) (o:Nat) (F:List Nat),RWe w b sz o (us.map f) F →
 ∃zs:List (α × (Nat→Value)),zs.map (·.1)=us∧(∀z∈zs,∀j,(z.2 j).oneCell'=true)∧RJe w I β b sz o (zs.map λz=>ux z.2 0 (f z.1))∧RWs w (zs.flatMap λz=>pkc z.2 0 (f z.1)) F
 | [],o,F,h=>by
  rw [List.map_nil,RWe] at h
  subst h
  exact ⟨[],rfl,by simp,trivial,rfl⟩
 | u :: us,o,F,h=>by
  rw [List.map_cons,RWe] at h
  obtain ⟨F1,F2,rfl,hl,h1,h2⟩:=h
  obtain ⟨q,q1,q2,q3⟩:=zsb (I:=I) (β:=β) (f u) o 0 F1 h1
  obtain ⟨zs,z1,z2,z3,z4⟩:=zsc (I:=I) (β:=β) f us (o+sz) F2 h2
  refine ⟨(u,q) :: zs,by simp [z1],?_,⟨by simp [ux_len,hl],q2,z3⟩,?_⟩
  ·intro z hz
   rcases List.mem_cons.1 hz with rfl | hz
   ·exact q1
   ·exact z2 z hz
  ·rw [List.flatMap_cons,zg3]
   exact ⟨F1,F2,rfl,q3,z4⟩
theorem zlf{w:World}{I:Nat→Prop}{β:Beta}{b:Nat}{q:Nat→Value}:∀(cs:List AV) (o k:Nat) (F:List Nat),cs.all plC=true→RJc w I β b o (ux q k cs)→RWs w (pkc q k cs) F→RWc w b o cs F
 | [],o,k,F,_,_,h=>by rw [RWc];exact h
 | c :: cs,o,k,F,hp,hj,h=>by
  simp only [List.all_cons,Bool.and_eq_true] at hp
  rw [ux] at hj
  obtain ⟨⟨v,hv,hr,hone⟩,hj2⟩:=hj
  rw [RWc]
  rw [pkc] at h
  cases c with
  | g x =>
   rw [if_neg (by simp [nst])] at h
   exact ⟨[],F,rfl,⟨v,hv,by rw [RW];have:v=x:=hr;subst this;exact ⟨rfl,hone,rfl⟩⟩,zlf cs (o+1) (k+1) F hp.2 hj2 h⟩
  | s l =>
   rw [if_neg (by simp [nst])] at h
   exact ⟨[],F,rfl,⟨v,hv,by rw [RW];exact ⟨hr,rfl⟩⟩,zlf cs (o+1) (k+1) F hp.2 hj2 h⟩
  | sl s xs =>
   rw [if_pos (by simp [nst])] at h
   obtain ⟨F1,F2,rfl,h1,h2⟩:=h
   have hvq:v=q k:=hr
   exact ⟨F1,F2,rfl,⟨v,hv,by rw [hvq];exact h1⟩,zlf cs (o+1) (k+1) F2 hp.2 hj2 h2⟩
  | _=>exact absurd hp.1 (by simp [plC])
theorem zwx{w:World}{I:Nat→Prop}{β:Beta}{b sz:Nat}{α:Type}(f:α→List AV)(hf:∀u,(f u).all plC=true):∀(zs:List (α × (Nat→Value))) (o:Nat) (F:List Nat),
 RJe w I β b sz o (zs.map λz=>ux z.2 0 (f z.1))→RWs w (zs.flatMap λz=>pkc z.2 0 (f z.1)) F→RWe w b sz o (zs.map λz=>f z.1) F
 | [],o,F,_,h=>by rw [List.map_nil,RWe];exact h
 | z :: zs,o,F,hj,h=>by
  rw [List.flatMap_cons,zg3] at h
  obtain ⟨F1,F2,rfl,h1,h2⟩:=h
  rw [List.map_cons] at hj ⊢
  obtain ⟨j1,j2,j3⟩:=hj
  rw [RWe]
  exact ⟨F1,F2,rfl,by rw [←j1,ux_len],zlf _ _ 0 _ (hf _) j2 h1,zwx f hf zs _ _ j3 h2⟩
theorem zvp{α β:Type}(g:α→List β){l k:List α}(h:l.Sublist k):(l.flatMap g).Sublist (k.flatMap g):=by
 induction h with
 | slnil=>simp
 | cons a _ ih=>rw [List.flatMap_cons];exact ih.trans (List.sublist_append_right _ _)
 | cons_cons a _ ih=>rw [List.flatMap_cons,List.flatMap_cons];exact (List.Sublist.refl _).append ih
section
variable {P:Program}{nt:Nat}{fs:List Nat}{Q:AExit→St→Prop}{st:St}{c:Code}
theorem zwy{α:Type}(f:α→List AV)(n pk:Nat){sz:Nat}{us:List α}(hob:st.ob n=some (.own sz (us.map f)))(hpk:st.ob pk=none)
 (h:∀zs:List (α × (Nat→Value)),zs.map (·.1)=us→(∀z∈zs,∀j,(z.2 j).oneCell'=true) →
  AW P nt fs c Q { st with ob:=upd (upd st.ob pk (some (.park (zs.flatMap λz=>pkc z.2 0 (f z.1))))) n (some (.win sz (zs.map λz=>ux z.2 0 (f z.1)))) }):AW P nt fs c Q st:=by
 intro C a w hnt hf hC
 obtain ⟨I,β,φ,hC⟩:=hC
 have hne:n≠pk:=by rintro rfl;rw [hob] at hpk;cases hpk
 obtain ⟨bl,h1,h2,h3,h4,h5,h6⟩:=hC.ob _ _ hob
 have key:∃(zs:List (α × (Nat→Value))) (Fn Fp:List Nat),zs.map (·.1)=us∧(∀z∈zs,∀j,(z.2 j).oneCell'=true)∧φ n=Fn++Fp ∧
  RO w I β n (.win sz (zs.map λz=>ux z.2 0 (f z.1))) Fn∧RWs w (zs.flatMap λz=>pkc z.2 0 (f z.1)) Fp:=by
  rcases h6 with ⟨h6,h7⟩ | ⟨F',h6,h7,h8⟩
  ·have : us = [] := by
    have:(us.map f).length=0:=by omega
    simpa using this
   subst this
   exact ⟨[],[],[],rfl,by simp,by simpa using h7,⟨bl,h1,h2,h3,by simp,.inl ⟨h6,rfl⟩⟩,rfl⟩
  ·obtain ⟨zs,z1,z2,z3,z4⟩:=zsc (I:=I) (β:=β) f us 0 F' h8
   have hlen:zs.length=us.length:=by rw [←z1];simp
   exact ⟨zs,[bl.b],F',z1,z2,by simpa using h6,⟨bl,h1,h2,h3,by simpa [hlen] using h4,.inr ⟨rfl,h7,z3⟩⟩,z4⟩
 obtain ⟨zs,Fn,Fp,z1,z2,hφ,hro,hpo⟩:=key
 rw [hφ] at h5
 obtain ⟨hn1,hn2,hn3⟩:=List.nodup_append.1 h5
 refine h zs z1 z2 C a w hnt hf ⟨I,β,upd (upd φ pk Fp) n Fn,?_⟩
 have hm:∀m b,b∈upd (upd φ pk Fp) n Fn m→(m=n∧b∈Fn)∨(m=pk∧b∈Fp)∨(m≠n∧m≠pk∧b∈φ m):=by
  intro m b hb
  by_cases e1:m=n
  ·subst e1;rw [zbd] at hb;exact .inl ⟨rfl,hb⟩
  ·rw [zbb _ _ e1] at hb
   by_cases e2:m=pk
   ·subst e2;rw [zbd] at hb;exact .inr (.inl ⟨rfl,hb⟩)
   ·rw [zbb _ _ e2] at hb;exact .inr (.inr ⟨e1,e2,hb⟩)
 have hsrc:∀m b,b∈upd (upd φ pk Fp) n Fn m→(b∈φ n∧(m=n∨m=pk))∨(m≠n∧m≠pk∧b∈φ m):=by
  intro m b hb
  rcases hm m b hb with ⟨e,h⟩ | ⟨e,h⟩ | h
  ·exact .inl ⟨by rw [hφ];simp [h],.inl e⟩
  ·exact .inl ⟨by rw [hφ];simp [h],.inr e⟩
  ·exact .inr h
 have hdom:∀m,upd (upd st.ob pk (some (OB.park (zs.flatMap λz=>pkc z.2 0 (f z.1))))) n (some (.win sz (zs.map λz=>ux z.2 0 (f z.1)))) m=none→m≠n∧m≠pk∧st.ob m=none:=by
  intro m ho
  by_cases e1:m=n
  ·subst e1;simp [zbd] at ho
  ·rw [zbb _ _ e1] at ho
   by_cases e2:m=pk
   ·subst e2;simp [zbd] at ho
   ·rw [zbb _ _ e2] at ho;exact ⟨e1,e2,ho⟩
 refine hC.move (λ_=>False) (Evo.refl _ w) (λ_ hf=>hf.elim) (λ_ hb=>hb) (λ_ hb=>.inl hb) (λ_ _ hb=>hb) ?_ (λm ho=>hC.dom m (hdom m ho).2.2) ?_ ?_ ?_ ?_ ?_ ?_
 ·intro m o ho
  by_cases e1:m=n
  ·subst e1
   simp only [zbd,Option.some.injEq] at ho ⊢
   subst ho
   exact .inr hro
  ·rw [zbb _ _ e1] at ho
   by_cases e2:m=pk
   ·subst e2
    simp only [zbd,Option.some.injEq] at ho
    subst ho
    exact .inr (by rw [zbb _ _ e1,zbd];exact ⟨hn2,hpo⟩)
   ·rw [zbb _ _ e2] at ho
    exact .inl ⟨ho,by rw [zbb _ _ e1,zbb _ _ e2],λ_ _ hf=>hf⟩
 ·intro m ho
  obtain ⟨e1,e2,e3⟩:=hdom m ho
  rw [zbb _ _ e1,zbb _ _ e2];exact hC.fdom m e3
 ·intro m k hmk b hb hb'
  rcases hm m b hb with ⟨rfl,g⟩ | ⟨rfl,g⟩ | ⟨e1,e2,g⟩
  ·rcases hm k b hb' with ⟨rfl,-⟩ | ⟨rfl,g'⟩ | ⟨e3,e4,g'⟩
   ·exact hmk rfl
   ·exact hn3 b g b g' rfl
   ·exact hC.sep m k hmk b (by rw [hφ];simp [g]) g'
  ·rcases hm k b hb' with ⟨rfl,g'⟩ | ⟨rfl,-⟩ | ⟨e3,e4,g'⟩
   ·exact hn3 b g' b g rfl
   ·exact hmk rfl
   ·exact hC.sep n k (Ne.symm e3) b (by rw [hφ];simp [g]) g'
  ·rcases hsrc k b hb' with ⟨g',-⟩ | ⟨e3,e4,g'⟩
   ·exact hC.sep m n e1 b g g'
   ·exact hC.sep m k hmk b g g'
 ·intro m b hb
  rcases hsrc m b hb with ⟨g,-⟩ | ⟨-,-,g⟩
  ·exact hC.nimm n b g
  ·exact hC.nimm m b g
 ·intro m b hb
  rcases hsrc m b hb with ⟨g,-⟩ | ⟨-,-,g⟩
  ·exact hC.flt n b g
  ·exact hC.flt m b g
 ·intro m o ho hwr b hb
  rcases hsrc m b hb with ⟨g,-⟩ | ⟨e1,e2,g⟩
  ·exact hC.wok n _ hob rfl b g
  ·rw [zbb _ _ e1,zbb _ _ e2] at ho
   exact hC.wok m o ho hwr b g
 ·intro m s ys ho b hb
  rcases hsrc m b hb with ⟨g,e | e⟩ | ⟨e1,e2,g⟩
  ·subst e;simp [zbd] at ho
  ·subst e;rw [zbb _ _ (Ne.symm hne),zbd] at ho;cases ho
  ·rw [zbb _ _ e1,zbb _ _ e2] at ho
   exact hC.fnew m s ys ho b g
theorem LeS.join{α:Type}(f:α→List AV)(hf:∀u,(f u).all plC=true)(n pk:Nat){sz:Nat}{ks zs:List (α × (Nat→Value))}(hn:st.ob n=some (.win sz (ks.map λz=>ux z.2 0 (f z.1))))
 (hpk:st.ob pk=some (.park (zs.flatMap λz=>pkc z.2 0 (f z.1)))) (hs:ks.Sublist zs):LeS fs st { st with ob:=upd (upd st.ob pk (some .dead)) n (some (.own sz (ks.map λz=>f z.1))) }:=by
 rintro C a w hfs ⟨I,β,φ,hC⟩
 have hne:n≠pk:=by rintro rfl;rw [hn] at hpk;cases hpk
 obtain ⟨bl,h1,h2,h3,h4,h6⟩:=hC.ob _ _ hn
 obtain ⟨p1,p2⟩:=hC.ob _ _ hpk
 obtain ⟨F',s1,s2⟩:=RWs_sub (zvp (λz=>pkc z.2 0 (f z.1)) hs) _ p2
 have key:∃F,(∀b∈F,b∈φ n∨∃d∈[pk],b∈φ d)∧RO w I β n (.own sz (ks.map λz=>f z.1)) F:=by
  rcases h6 with ⟨h6,h7⟩ | ⟨h6,h7,h8⟩
  ·have : ks = [] := by
    have:(ks.map λz=>ux z.2 0 (f z.1)).length=0:=by omega
    simpa using this
   subst this
   exact ⟨[],by simp,⟨bl,h1,h2,h3,by simp,by simp,.inl ⟨h6,rfl⟩⟩⟩
  ·refine ⟨bl.b :: F',λb hb=>?_,⟨bl,h1,h2,h3,by simpa using h4,?_,.inr ⟨F',rfl,h7,zwx f hf ks 0 F' h8 s2⟩⟩⟩
   ·rcases List.mem_cons.1 hb with rfl | hb
    ·left;rw [h6];simp
    ·exact .inr ⟨pk,by simp,s1.subset hb⟩
   ·rw [List.nodup_cons]
    exact ⟨λhb=>hC.sep n pk hne bl.b (by rw [h6];simp) (s1.subset hb),p1.sublist s1⟩
 obtain ⟨F,k1,k2⟩:=key
 have hCa:=hC.absorb (w':=w) (n:=n) (D:=[pk]) (o':=.own sz (ks.map λz=>f z.1)) (F:=F) (Evo.refl _ _) (by rw [hn];simp) (by simpa using hne) (by intro d hd;simp at hd;subst hd;rw [hpk];simp) k1
  (λb hb=>hC.wok n _ hn rfl b hb) (λd hd b hb=>by simp at hd;subst hd;exact hC.wok _ _ hpk rfl b hb) (by intro s xs h;cases h) k2
 exact ⟨_,_,_,hCa⟩
end
end Go.Proofs.YtodmafgmdlkhoaaDoor.Vs
end
section
namespace Go.Proofs.YtodmafgmdlkhoaaDoor.Vs
set_option linter.all false
open Go.RowKit
variable {P:Program}
def cU(x:Int):List AV:=[.g (.int .u8 x)]
def wfU8(x:Int):Prop:=0≤x∧x<256
theorem of_u8{n:Nat}{t:TypeId}(hu:P.underlying t=some (.int .u8)):∀x,shp P n t x→∃u,x=cU u∧wfU8 u:=by
 intro x hx
 cases n with
 | zero=>exact hx.elim
 | succ n =>
  unfold shp at hx
  rw [hu] at hx
  obtain ⟨m,rfl,hm⟩:=hx
  refine ⟨m,rfl,?_⟩
  simp [Lit.wf,IntKind.min,IntKind.max,IntKind.bits,IntKind.signed] at hm
  unfold wfU8
  omega
structure Cur where
 i:Nat
 h:Int
def curC(l:List Int)(c:Cur):List AV:=[.sl 1 (l.map cU),.g (.int .i64 (c.i:Int)),.g (.int .i64 c.h)]
@[simp] theorem rkO_cur (l:List Int) (c:Cur):rkO false (.cells (curC l c))=true:=(rfl)
@[simp] theorem all_cur (l:List Int) (c:Cur):(curC l c).all (rk false)=true:=(rfl)
@[simp] theorem map_cur (ρ:Nat→Nat) (l:List Int) (c:Cur):(curC l c).map (rn0 ρ)=curC l c:=(rfl)
@[simp] theorem xk_cur (l:List Int) (c:Cur):OB.xk (.cells (curC l c))=true:=(rfl)
@[simp] theorem rnO_cur (ρ:Nat→Nat) (l:List Int) (c:Cur):rnO ρ (.cells (curC l c))=.cells (curC l c):=(rfl)
theorem ax1s_cur{q:Bool}{st:St}{hs Z:List Nat}(l:List Int)(c:Cur):ax1s q st hs Z (curC l c) (curC l c)=True:=by
 unfold curC
 simp [zve,zvd,ax1_ll,ax1_gg]
@[simp] theorem ax1s_curs {q:Bool} {st:St} {hs Z:List Nat} (l:List Int) (c c':Cur):ax1s q st hs Z (curC l c) (curC l c')=(c'=c):=by
 unfold curC
 simp only [zve,zvd,ax1_ll,ax1_gg,Value.int.injEq,true_and,and_true]
 apply propext
 constructor
 ·rintro ⟨h1,h2⟩
  cases c;cases c'
  simp only [Cur.mk.injEq]
  exact ⟨Int.ofNat.inj h1,h2⟩
 ·intro h;rw [h]
  simp
@[simp] theorem zp3 {q:Bool} {st:St} {hs Z:List Nat} (l:List Int) (c:Cur):axO q st hs Z (.cells (curC l c)) (.cells (curC l c))=True:=by
 rw [axO_cc,ax1s_cur]
section
variable {q:Bool}{st:St}{hs Z:List Nat}{us ws:List AV}
theorem xs_z:ax2s q st hs Z [] []:=rfl
theorem xs_g{v:Value}(h:ax2s q st hs Z us ws):ax2s q st hs Z (.g v :: us) (.g v :: ws):=⟨rfl,h⟩
theorem xs_p{n:Nat}{hs:List Nat}(h:ax2s q st (n :: hs) Z us ws):ax2s q st (n :: hs) Z (.ptr n 0 :: us) (.ptr 8 0 :: ws):=⟨⟨rfl,rfl⟩,h⟩
theorem xs_a{n m len:Nat}{hs:List Nat}(h:ax2s q st (n :: m :: hs) Z us ws):ax2s q st (n :: m :: hs) Z (.arr m 0 len :: us) (.arr 9 0 len :: ws):=⟨⟨rfl,rfl,rfl⟩,h⟩
end
section
variable {rest:List CO}{K:St→Prop}{st:St}{dst:Option Nat}{f:FuncId}{l:List Int}{actual args:List AV}{r:AV}
theorem zco{n:Nat}{c c':Cur}(ha:∀s:St,ax2s false s [n] [] actual args)(hX:XCall P f args [.cells (curC l c)] r [.cells (curC l c')] [])(ho:st.ob n=some (.cells (curC l c)))(hr:rkT false r=true)
 (hk:xreg P rest (putC st dst (rnT (rhoX [n] (nmC dst)) r) [(n,.cells (curC l c'))]) K):XKd P rest K st dst f actual:=by
 refine zch [n] false [] hX ⟨by simp,by simp,by simp,by simp,hr,rfl⟩ ⟨ha _,?_⟩ ?_
 ·rw [zhw,zmm]
  exact ⟨⟨_,ho,by rw [zp3];trivial⟩,trivial⟩
 ·exact hk
theorem zft{n m:Nat}{c c':Cur}{sz:Nat}{xs:List (List AV)}(ha:∀s:St,ax2s false s [n,m] [] actual args)(hX:XCall P f args [.cells (curC l c),.own sz xs] r [.cells (curC l c'),.own sz xs] [])(ho:st.ob n=some (.cells (curC l c)))
 (hm:st.ob m=some (.flat sz xs)) (hs:scR xs=true) (hnm:n≠m) (hr:rkT false r=true)
 (hk:xreg P rest (putC st dst (rnT (rhoX [n,m] (nmC dst)) r) [(n,.cells (curC l c')),(m,.own sz xs)]) K):XKd P rest K st dst f actual:=by
 refine zch [n,m] false [] hX ⟨by simp,by simp,by simp [hnm],by simp,hr,rfl⟩ ⟨ha _,?_⟩ ?_
 ·rw [zhw,zhw,zmm]
  exact ⟨⟨_,ho,by rw [zp3];trivial⟩,⟨_,hm,⟨rfl,rfl,hs⟩⟩,trivial⟩
 ·exact hk
variable {es:ES}{K':St→ES→Prop}
theorem zmt{n:Nat}{c c':Cur}(ha:∀s:St,ax2s false s [n] [] actual args)(hX:XCall P f args [.cells (curC l c)] r [.cells (curC l c')] [])(ho:st.ob n=some (.cells (curC l c)))(hr:rkT false r=true)
 (hk:dreg P rest (putC st dst (rnT (rhoX [n] (nmC dst)) r) [(n,.cells (curC l c'))]) (es++[([n],[n])]) K'):DKd P rest K' st es dst f actual:=by
 refine DKd_x [n] false [] [n] hX ⟨by simp,by simp,hr,rfl⟩ (λst' h=>⟨by simp,by simp,ha _,?_⟩) hk
 rw [zhw,zmm]
 exact ⟨⟨_,(h n (by simp)).trans ho,by rw [zp3];trivial⟩,trivial⟩
theorem zwz{n m:Nat}{c c':Cur}{sz:Nat}{xs:List (List AV)}(ha:∀s:St,ax2s false s [n,m] [] actual args)(hX:XCall P f args [.cells (curC l c),.own sz xs] r [.cells (curC l c'),.own sz xs] [])(ho:st.ob n=some (.cells (curC l c)))
 (hm:st.ob m=some (.flat sz xs)) (hs:scR xs=true) (hnm:n≠m) (hr:rkT false r=true)
 (hk:dreg P rest (putC st dst (rnT (rhoX [n,m] (nmC dst)) r) [(n,.cells (curC l c')),(m,.own sz xs)]) (es++[([n,m],[n,m])]) K'):DKd P rest K' st es dst f actual:=by
 refine DKd_x [n,m] false [] [n,m] hX ⟨by simp,by simp [hnm],hr,rfl⟩ (λst' h=>⟨by simp,by simp,ha _,?_⟩) hk
 rw [zhw,zhw,zmm]
 exact ⟨⟨_,(h n (by simp)).trans ho,by rw [zp3];trivial⟩,⟨_,(h m (by simp)).trans hm,⟨rfl,rfl,hs⟩⟩,trivial⟩
end
end Go.Proofs.YtodmafgmdlkhoaaDoor.Vs
end
section
namespace Go.Proofs.YtodmafgmdlkhoaaDoor.Vs
set_option linter.all false
def wnO(s:St)(ρ:Ren):OB→OB→Prop
 | .win sz xs,.win sz' xs'=>sz'=sz∧wn s ρ xs xs'
 | _,_=>False
def KpOW(s:St)(ρ:Ren):List (Nat × OB)→Prop
 | []=>True
 | (n,o) :: r=>(∃m p,lk ρ n=some m∧s.ob m=some p∧((p=renO ρ o∧plO o=true)∨cvO p o∨wnO s ρ p o))∧KpOW s ρ r
theorem LeS.kw{fs:List Nat}{s:St}(ρ:Ren)(e:List (Nat × AV))(os:List (Nat × OB))(he:KpR s ρ e)(ho:KpOW s ρ os)(hp:(e.all λp=>pl2 p.2)=true)(h1:(ρ.map (·.1)).Nodup)(h2:(ρ.map (·.2)).Nodup)(h3:ρ.map (·.1)=os.map (·.1))(hf:∀n∈fs,lk ρ n=some n):LeS fs s { env:=lkE e,ob:=lk os }:=by
 refine LeS.le (ρ:=ρ) ⟨?_,?_,h1,h2,h3,h3 ▸ h1,hf⟩
 ·clear ho h3
  induction e with
  | nil=>trivial
  | cons p e ih =>
   obtain ⟨t,v⟩:=p
   simp only [List.all_cons,Bool.and_eq_true] at hp
   refine ⟨?_,ih he.2 hp.2⟩
   rw [he.1]
   exact zva v hp.1
 ·clear he hp h3
  induction os with
  | nil=>trivial
  | cons p r ih =>
   obtain ⟨n,o⟩:=p
   refine ⟨?_,ih ho.2⟩
   obtain ⟨m,q,g1,g2,g3⟩:=ho.1
   rw [g1]
   simp only
   rw [g2]
   rcases g3 with ⟨rfl,g3⟩ | g3 | g3
   ·exact zvb o g3
   ·cases q<;>cases o<;>first | exact g3.elim | exact g3 | exact ⟨g3.1,.inl g3.2⟩
   ·cases q<;>cases o<;>first | exact g3.elim | exact ⟨g3.1,.inr g3.2⟩
def OB.nofl:OB→Bool
 | .flat ..=>false
 | _=>true
def inlR(x:Option (Prop × List AV))(K:AV→(Nat→Option OB)→Prop)(ob:Nat→Option OB):Prop:=match x with
 | some (p,vs)=>p∧vs.all noTup=true∧K (tupA vs) ob
 | none=>False
theorem zjg{w:World}{ps qs:List (AV × Value)}{F:List Nat}(h:RWs w (ps++qs) F):∃F1 F2,F=F1++F2∧RWs w ps F1∧RWs w qs F2:=(zg3 ps qs F).1 h
section
variable {P:Program}{nt:Nat}{fs:List Nat}{Q:AExit→St→Prop}{st:St}{c:Code}
theorem LeS.unpark(n pk S:Nat){s sz k j:Nat}{xs ys:List (List AV)}{x:List AV}{v:Value}{ps1 ps2:List (AV × Value)}
 (hn:st.ob n=some (.win sz xs)) (hp:st.ob pk=some (.park (ps1++(.sl s ys,v) :: ps2))) (hS:st.ob S=none) (hx:xs[k]? = some x) (hj:x[j]? = some (.g v)) :
 LeS fs st { st with ob:=upd (upd (upd st.ob S (some (.own s ys))) pk (some (.park (ps1++ps2)))) n (some (.win sz (xs.set k (x.set j (.arr S 0 ys.length))))) }:=by
 rintro C a w hfs ⟨I,β,φ,hC⟩
 have hnp:n≠pk:=by rintro rfl;rw [hn] at hp;cases hp
 have hnS:n≠S:=by rintro rfl;rw [hn] at hS;cases hS
 have hpS:pk≠S:=by rintro rfl;rw [hp] at hS;cases hS
 obtain ⟨bl,b1,b2,b3,b4,b5⟩:=hC.ob _ _ hn
 obtain ⟨p1,p2⟩:=hC.ob _ _ hp
 obtain ⟨F1,F2',hF,q1,q2⟩:=zjg p2
 obtain ⟨Fv,F2,rfl,q3,q4⟩:=q2
 have hβS:β S=none:=hC.dom S hS
 rw [hF] at p1
 obtain ⟨nd1,nd2,nd3⟩:=List.nodup_append.1 p1
 obtain ⟨nd4,nd5,nd6⟩:=List.nodup_append.1 nd2
 have hnd12:(F1++F2).Nodup:=List.nodup_append.2 ⟨nd1,nd5,λa ha b hb=>nd3 a ha b (List.mem_append.2 (.inr hb))⟩
 have q3':=q3
 rw [RW] at q3'
 have key:∃bs:Bl,bs.sz=s∧bs.o=0∧ys.length≤bs.cap∧((bs.cap=0∧Fv=[])∨∃F',Fv=bs.b :: F'∧OwnW w bs.b 0 (bs.cap*s)∧RWe w bs.b s 0 ys F')∧(v=.slice (some ⟨bs.b,bs.o+0*bs.sz,none⟩) ys.length (bs.cap-0)∨(0=bs.cap∧∃a,v=.slice a 0 0)):=by
  obtain ⟨aa,cap,rfl,h2,⟨rfl,rfl,rfl⟩ | ⟨b,F',rfl,rfl,h4,h5⟩⟩:=q3'
  ·exact ⟨⟨0,0,s,0⟩,rfl,rfl,by simp,.inl ⟨rfl,rfl⟩,.inr ⟨rfl,aa,by simp⟩⟩
  ·exact ⟨⟨b,0,s,cap⟩,rfl,rfl,h2,.inr ⟨F',rfl,h4,h5⟩,.inl (by simp)⟩
 obtain ⟨bs,k1,k2,k3,k4,k5⟩:=key
 have hβ':∀m bl,β m=some bl→upd β S (some bs) m=some bl:=by
  intro m bl' hb
  rw [zbb]
  ·exact hb
  ·rintro rfl;rw [hβS] at hb;cases hb
 refine ⟨I,upd β S (some bs),upd (upd φ S Fv) pk (F1++F2),?_⟩
 have hm:∀m b,b∈upd (upd φ S Fv) pk (F1++F2) m→(m=pk∧b∈F1++F2)∨(m=S∧b∈Fv)∨(m≠pk∧m≠S∧b∈φ m):=by
  intro m b hb
  by_cases e1:m=pk
  ·subst e1;rw [zbd] at hb;exact .inl ⟨rfl,hb⟩
  ·rw [zbb _ _ e1] at hb
   by_cases e2:m=S
   ·subst e2;rw [zbd] at hb;exact .inr (.inl ⟨rfl,hb⟩)
   ·rw [zbb _ _ e2] at hb;exact .inr (.inr ⟨e1,e2,hb⟩)
 have hin1:∀b,b∈F1++F2→b∈φ pk:=by
  intro b hb;rw [hF]
  rcases List.mem_append.1 hb with h | h<;>simp [h]
 have hin2:∀b,b∈Fv→b∈φ pk:=by intro b hb;rw [hF];simp [hb]
 have hdis:∀b,b∈F1++F2→b∈Fv→False:=by
  intro b h1 h2
  rcases List.mem_append.1 h1 with h | h
  ·exact nd3 b h b (List.mem_append.2 (.inl h2)) rfl
  ·exact nd6 b h2 b h rfl
 have hsrc:∀m b,b∈upd (upd φ S Fv) pk (F1++F2) m→(b∈φ pk∧(m=pk∨m=S))∨(m≠pk∧m≠S∧b∈φ m):=by
  intro m b hb
  rcases hm m b hb with ⟨e,h⟩ | ⟨e,h⟩ | h
  ·exact .inl ⟨hin1 b h,.inl e⟩
  ·exact .inl ⟨hin2 b h,.inr e⟩
  ·exact .inr h
 have hdom:∀m,upd (upd (upd st.ob S (some (OB.own s ys))) pk (some (OB.park (ps1++ps2)))) n (some (OB.win sz (xs.set k (x.set j (.arr S 0 ys.length))))) m=none→m≠n∧m≠pk∧m≠S∧st.ob m=none:=by
  intro m ho
  by_cases e1:m=n
  ·subst e1;simp [zbd] at ho
  ·rw [zbb _ _ e1] at ho
   by_cases e2:m=pk
   ·subst e2;simp [zbd] at ho
   ·rw [zbb _ _ e2] at ho
    by_cases e3:m=S
    ·subst e3;simp [zbd] at ho
    ·rw [zbb _ _ e3] at ho;exact ⟨e1,e2,e3,ho⟩
 refine hC.move (λ_=>False) (Evo.refl _ w) (λ_ hf=>hf.elim) (λ_ hb=>hb) (λ_ hb=>.inl hb) hβ' ?_ ?_ ?_ ?_ ?_ ?_ ?_ ?_
 ·intro m o ho
  by_cases e1:m=n
  ·subst e1
   simp only [zbd,Option.some.injEq] at ho
   subst ho
   right
   rw [zbb _ _ hnp,zbb _ _ hnS]
   refine ⟨bl,hβ' _ _ b1,b2,b3,by simpa using b4,b5.imp id λ⟨g1,g2,g3⟩=>⟨g1,g2,?_⟩⟩
   rw [zfx] at g3 ⊢
   intro i x' hx'
   have hmono:∀(o:Nat) (cs:List AV),RJc w I β bl.b o cs→RJc w I (upd β S (some bs)) bl.b o cs:=by
    intro o cs h
    rw [zdt] at h ⊢
    intro jj d hd
    obtain ⟨u,h1,h2⟩:=h jj d hd
    exact ⟨u,h1,zfn (λ_ h=>h) (λ_ _=>rfl) hβ' _ _ h2⟩
   rw [List.getElem?_set] at hx'
   by_cases hk:k=i
   ·subst hk
    obtain ⟨f1,f2⟩:=g3 k x hx
    rw [if_pos rfl] at hx'
    split at hx'
    ·cases hx'
     refine ⟨by simpa using f1,?_⟩
     have f2':=hmono _ _ f2
     rw [zdt] at f2' ⊢
     intro jj d hd
     rw [List.getElem?_set] at hd
     by_cases hjj:j=jj
     ·subst hjj
      rw [if_pos rfl] at hd
      split at hd
      ·cases hd
       obtain ⟨u,u1,u2,u3⟩:=f2' j _ hj
       have hu:u=v:=u2
       subst hu
       exact ⟨u,u1,⟨bs,zbd _ _ _,by omega,k5⟩,u3⟩
      ·cases hd
     ·rw [if_neg hjj] at hd
      exact f2' jj d hd
    ·cases hx'
   ·rw [if_neg hk] at hx'
    obtain ⟨f1,f2⟩:=g3 i x' hx'
    exact ⟨f1,hmono _ _ f2⟩
  ·rw [zbb _ _ e1] at ho
   by_cases e2:m=pk
   ·subst e2
    simp only [zbd,Option.some.injEq] at ho
    subst ho
    exact .inr (by rw [zbd];exact ⟨hnd12,(zg3 _ _ _).2 ⟨F1,F2,rfl,q1,q4⟩⟩)
   ·rw [zbb _ _ e2] at ho
    by_cases e3:m=S
    ·subst e3
     simp only [zbd,Option.some.injEq] at ho
     subst ho
     exact .inr (by rw [zbb _ _ e2,zbd];exact ⟨bs,zbd _ _ _,k1,k2,k3,nd4,k4⟩)
    ·rw [zbb _ _ e3] at ho
     exact .inl ⟨ho,by rw [zbb _ _ e2,zbb _ _ e3],λ_ _ hf=>hf⟩
 ·intro m ho
  obtain ⟨e1,e2,e3,e4⟩:=hdom m ho
  rw [zbb _ _ e3];exact hC.dom m e4
 ·intro m ho
  obtain ⟨e1,e2,e3,e4⟩:=hdom m ho
  rw [zbb _ _ e2,zbb _ _ e3];exact hC.fdom m e4
 ·intro m m' hmm b hb hb'
  rcases hm m b hb with ⟨rfl,g⟩ | ⟨rfl,g⟩ | ⟨e1,e2,g⟩
  ·rcases hm m' b hb' with ⟨rfl,-⟩ | ⟨rfl,g'⟩ | ⟨e3,e4,g'⟩
   ·exact hmm rfl
   ·exact hdis b g g'
   ·exact hC.sep m m' hmm b (hin1 b g) g'
  ·rcases hm m' b hb' with ⟨rfl,g'⟩ | ⟨rfl,-⟩ | ⟨e3,e4,g'⟩
   ·exact hdis b g' g
   ·exact hmm rfl
   ·exact hC.sep pk m' (Ne.symm e3) b (hin2 b g) g'
  ·rcases hsrc m' b hb' with ⟨g',-⟩ | ⟨e3,e4,g'⟩
   ·exact hC.sep m pk e1 b g g'
   ·exact hC.sep m m' hmm b g g'
 ·intro m b hb
  rcases hsrc m b hb with ⟨g,-⟩ | ⟨-,-,g⟩
  ·exact hC.nimm pk b g
  ·exact hC.nimm m b g
 ·intro m b hb
  rcases hsrc m b hb with ⟨g,-⟩ | ⟨-,-,g⟩
  ·exact hC.flt pk b g
  ·exact hC.flt m b g
 ·intro m o ho hwr b hb
  rcases hsrc m b hb with ⟨g,-⟩ | ⟨e1,e2,g⟩
  ·exact hC.wok pk _ hp rfl b g
  ·by_cases e3:m=n
   ·subst e3;exact hC.wok m _ hn rfl b g
   ·rw [zbb _ _ e3,zbb _ _ e1,zbb _ _ e2] at ho
    exact hC.wok m o ho hwr b g
 ·intro m s' ys' ho b hb
  by_cases e3:m=n
  ·subst e3;simp [zbd] at ho
  ·rw [zbb _ _ e3] at ho
   rcases hsrc m b hb with ⟨g,e | e⟩ | ⟨e1,e2,g⟩
   ·subst e;simp [zbd] at ho
   ·subst e;rw [zbb _ _ (Ne.symm hpS),zbd] at ho;cases ho
   ·rw [zbb _ _ e1,zbb _ _ e2] at ho
    exact hC.fnew m s' ys' ho b g
theorem LeS.parkN(pk:Nat){s:Nat}{ps1 ps2:List (AV × Value)}(hp:st.ob pk=some (.park (ps1++ps2))):LeS fs st { st with ob:=upd st.ob pk (some (.park (ps1++(.sl s [],.slice none 0 0) :: ps2))) }:=by
 rintro C a w hfs ⟨I,β,φ,hC⟩
 obtain ⟨p1,p2⟩:=hC.ob _ _ hp
 refine ⟨I,β,φ,hC.move (λ_=>False) (Evo.refl _ w) (λ_ hf=>hf.elim) (λ_ hb=>hb) (λ_ hb=>.inl hb) (λ_ _ h=>h) ?_ ?_ ?_ hC.sep hC.nimm hC.flt ?_ ?_⟩
 ·intro m o ho
  by_cases e:m=pk
  ·subst e
   simp only [zbd,Option.some.injEq] at ho
   subst ho
   obtain ⟨F1,F2,hF,h1,h2⟩:=(zg3 _ _ _).1 p2
   refine .inr ⟨p1,?_⟩
   rw [hF]
   exact (zg3 _ _ _).2 ⟨F1,F2,rfl,h1,[],F2,rfl,by rw [RW];exact ⟨none,0,rfl,by simp,.inl ⟨rfl,rfl,rfl⟩⟩,h2⟩
  ·rw [zbb _ _ e] at ho
   exact .inl ⟨ho,rfl,λ_ _ hf=>hf⟩
 ·intro m ho
  by_cases e:m=pk
  ·subst e;simp [zbd] at ho
  ·rw [zbb _ _ e] at ho;exact hC.dom m ho
 ·intro m ho
  by_cases e:m=pk
  ·subst e;simp [zbd] at ho
  ·rw [zbb _ _ e] at ho;exact hC.fdom m ho
 ·intro m o ho hwr b hb
  by_cases e:m=pk
  ·subst e;exact hC.wok m _ hp rfl b hb
  ·rw [zbb _ _ e] at ho;exact hC.wok m o ho hwr b hb
 ·intro m s' ys' ho b hb
  by_cases e:m=pk
  ·subst e;simp [zbd] at ho
  ·rw [zbb _ _ e] at ho;exact hC.fnew m s' ys' ho b hb
theorem AW_repark(n pk S:Nat){s sz k j:Nat}{xs ys:List (List AV)}{x:List AV}{ps1 ps2:List (AV × Value)}
 (hn:st.ob n=some (.win sz xs)) (hp:st.ob pk=some (.park (ps1++ps2))) (hS:st.ob S=some (.own s ys)) (hx:xs[k]? = some x) (hj:x[j]? = some (.arr S 0 ys.length))
 (h:∀v:Value,v.oneCell'=true→AW P nt fs c Q { st with ob:=upd (upd (upd st.ob S (some .dead)) pk (some (.park (ps1++(.sl s ys,v) :: ps2)))) n (some (.win sz (xs.set k (x.set j (.g v))))) }):AW P nt fs c Q st:=by
 intro C a w hnt hfs hCC
 obtain ⟨I,β,φ,hC⟩:=id hCC
 have hnp:n≠pk:=by rintro rfl;rw [hn] at hp;cases hp
 have hnS:n≠S:=by rintro rfl;rw [hn] at hS;cases hS
 have hpS:pk≠S:=by rintro rfl;rw [hp] at hS;cases hS
 obtain ⟨bl,b1,b2,b3,b4,b5⟩:=hC.ob _ _ hn
 obtain ⟨p1,p2⟩:=hC.ob _ _ hp
 obtain ⟨F1,F2,hF,q1,q2⟩:=zjg p2
 obtain ⟨bs,s1,s2,s3,s4,s5,s6⟩:=hC.ob _ _ hS
 have hb5:∃g1:φ n=[bl.b],OwnW w bl.b 0 (bl.cap*sz)∧RJe w I β bl.b sz 0 xs:=by
  rcases b5 with ⟨h0,-⟩ | h0
  ·exfalso
   have:k<xs.length:=(List.getElem?_eq_some_iff.1 hx).1
   omega
  ·exact ⟨h0.1,h0.2⟩
 obtain ⟨g1,g2,g3⟩:=hb5
 have g3':=(zfx _ _).1 g3
 obtain ⟨v,hv1,hv2,hv3⟩:=(zdt _ _).1 (g3' k x hx).2 j _ hj
 refine h v hv3 C a w hnt hfs ?_
 have hrw:∃Fv:List Nat,Fv.Sublist (φ S)∧RW w (.sl s ys) v Fv:=by
  obtain ⟨bs',t1,t2,t3⟩:=hv2
  rw [s1] at t1;cases t1
  have hnil:∀a,v=.slice a 0 0→ys=[]→RW w (.sl s ys) v []:=by
   rintro a rfl rfl
   rw [RW]
   exact ⟨a,0,rfl,by simp,.inl ⟨rfl,rfl,rfl⟩⟩
  rcases s6 with ⟨c0,hF0⟩ | ⟨F',f1,f2,f3⟩
  ·have hys : ys = [] := by
    have:ys.length=0:=by omega
    simpa using this
   refine ⟨[],List.nil_sublist _,?_⟩
   rcases t3 with h3 | ⟨-,a,h3⟩
   ·exact hnil _ (h3.trans (by rw [hys,c0];rfl)) hys
   ·exact hnil a h3 hys
  ·rcases t3 with h3 | ⟨c0,a,h3⟩
   ·refine ⟨φ S,List.Sublist.refl _,?_⟩
    rw [RW]
    exact ⟨_,bs.cap,h3,s4,.inr ⟨bs.b,F',by simp [s3],f1,f2,f3⟩⟩
   ·have hys : ys = [] := by
     have:ys.length=0:=by omega
     simpa using this
    exact ⟨[],List.nil_sublist _,hnil a h3 hys⟩
 obtain ⟨Fv,hFs,hFr⟩:=hrw
 have hnv:Fv.Nodup:=s5.sublist hFs
 have hnd:(F1++(Fv++F2)).Nodup:=by
  rw [hF] at p1
  obtain ⟨d1,d2,d3⟩:=List.nodup_append.1 p1
  have hx1:∀b∈Fv,∀b'∈F1++F2,b≠b':=by
   rintro b hb b' hb' rfl
   exact hC.sep S pk (Ne.symm hpS) b (hFs.subset hb) (by rw [hF];exact hb')
  refine List.nodup_append.2 ⟨d1,List.nodup_append.2 ⟨hnv,d2,λa ha b hb=>hx1 a ha b (List.mem_append.2 (.inr hb))⟩,λa ha b hb=>?_⟩
  rcases List.mem_append.1 hb with hb | hb
  ·exact λe=>hx1 b hb a (List.mem_append.2 (.inl ha)) e.symm
  ·exact d3 a ha b hb
 refine ⟨I,β,upd (upd φ S []) pk (F1++(Fv++F2)),?_⟩
 have hm:∀m b,b∈upd (upd φ S []) pk (F1++(Fv++F2)) m→(m=pk∧(b∈φ pk∨b∈φ S))∨(m≠pk∧m≠S∧b∈φ m):=by
  intro m b hb
  by_cases e1:m=pk
  ·subst e1;rw [zbd] at hb
   refine .inl ⟨rfl,?_⟩
   rw [hF]
   rcases List.mem_append.1 hb with h | h
   ·exact .inl (by simp [h])
   ·rcases List.mem_append.1 h with h | h
    ·exact .inr (hFs.subset h)
    ·exact .inl (by simp [h])
  ·rw [zbb _ _ e1] at hb
   by_cases e2:m=S
   ·subst e2;simp [zbd] at hb
   ·rw [zbb _ _ e2] at hb;exact .inr ⟨e1,e2,hb⟩
 have hdom:∀m,upd (upd (upd st.ob S (some OB.dead)) pk (some (OB.park (ps1++(.sl s ys,v) :: ps2)))) n (some (OB.win sz (xs.set k (x.set j (.g v))))) m=none→m≠n∧m≠pk∧m≠S∧st.ob m=none:=by
  intro m ho
  by_cases e1:m=n
  ·subst e1;simp [zbd] at ho
  ·rw [zbb _ _ e1] at ho
   by_cases e2:m=pk
   ·subst e2;simp [zbd] at ho
   ·rw [zbb _ _ e2] at ho
    by_cases e3:m=S
    ·subst e3;simp [zbd] at ho
    ·rw [zbb _ _ e3] at ho;exact ⟨e1,e2,e3,ho⟩
 refine hC.move (λ_=>False) (Evo.refl _ w) (λ_ hf=>hf.elim) (λ_ hb=>hb) (λ_ hb=>.inl hb) (λ_ _ h=>h) ?_ ?_ ?_ ?_ ?_ ?_ ?_ ?_
 ·intro m o ho
  by_cases e1:m=n
  ·subst e1
   simp only [zbd,Option.some.injEq] at ho
   subst ho
   right
   rw [zbb _ _ hnp,zbb _ _ hnS]
   refine ⟨bl,b1,b2,b3,by simpa using b4,.inr ⟨g1,g2,?_⟩⟩
   rw [zfx]
   intro i x' hx'
   rw [List.getElem?_set] at hx'
   by_cases hk:k=i
   ·subst hk
    obtain ⟨f1,f2⟩:=g3' k x hx
    rw [if_pos rfl] at hx'
    split at hx'
    ·cases hx'
     refine ⟨by simpa using f1,?_⟩
     rw [zdt] at f2 ⊢
     intro jj d hd
     rw [List.getElem?_set] at hd
     by_cases hjj:j=jj
     ·subst hjj
      rw [if_pos rfl] at hd
      split at hd
      ·cases hd
       exact ⟨v,hv1,rfl,hv3⟩
      ·cases hd
     ·rw [if_neg hjj] at hd
      exact f2 jj d hd
    ·cases hx'
   ·rw [if_neg hk] at hx'
    exact g3' i x' hx'
  ·rw [zbb _ _ e1] at ho
   by_cases e2:m=pk
   ·subst e2
    simp only [zbd,Option.some.injEq] at ho
    subst ho
    exact .inr (by rw [zbd];exact ⟨hnd,(zg3 _ _ _).2 ⟨F1,Fv++F2,rfl,q1,Fv,F2,rfl,hFr,q2⟩⟩)
   ·rw [zbb _ _ e2] at ho
    by_cases e3:m=S
    ·subst e3
     simp only [zbd,Option.some.injEq] at ho
     subst ho
     exact .inr (by rw [zbb _ _ e2,zbd];rfl)
    ·rw [zbb _ _ e3] at ho
     exact .inl ⟨ho,by rw [zbb _ _ e2,zbb _ _ e3],λ_ _ hf=>hf⟩
 ·intro m ho
  exact hC.dom m (hdom m ho).2.2.2
 ·intro m ho
  obtain ⟨e1,e2,e3,e4⟩:=hdom m ho
  rw [zbb _ _ e2,zbb _ _ e3];exact hC.fdom m e4
 ·intro m m' hmm b hb hb'
  rcases hm m b hb with ⟨rfl,g⟩ | ⟨e1,e2,g⟩
  ·rcases hm m' b hb' with ⟨rfl,-⟩ | ⟨e3,e4,g'⟩
   ·exact hmm rfl
   ·rcases g with g | g
    ·exact hC.sep m m' hmm b g g'
    ·exact hC.sep S m' (Ne.symm e4) b g g'
  ·rcases hm m' b hb' with ⟨rfl,g'⟩ | ⟨e3,e4,g'⟩
   ·rcases g' with g' | g'
    ·exact hC.sep m m' hmm b g g'
    ·exact hC.sep m S e2 b g g'
   ·exact hC.sep m m' hmm b g g'
 ·intro m b hb
  rcases hm m b hb with ⟨-,g | g⟩ | ⟨-,-,g⟩
  ·exact hC.nimm pk b g
  ·exact hC.nimm S b g
  ·exact hC.nimm m b g
 ·intro m b hb
  rcases hm m b hb with ⟨-,g | g⟩ | ⟨-,-,g⟩
  ·exact hC.flt pk b g
  ·exact hC.flt S b g
  ·exact hC.flt m b g
 ·intro m o ho hwr b hb
  rcases hm m b hb with ⟨-,g | g⟩ | ⟨e1,e2,g⟩
  ·exact hC.wok pk _ hp rfl b g
  ·exact hC.wok S _ hS rfl b g
  ·by_cases e3:m=n
   ·subst e3;exact hC.wok m _ hn rfl b g
   ·rw [zbb _ _ e3,zbb _ _ e1,zbb _ _ e2] at ho
    exact hC.wok m o ho hwr b g
 ·intro m s' ys' ho b hb
  by_cases e3:m=n
  ·subst e3;simp [zbd] at ho
  ·rw [zbb _ _ e3] at ho
   by_cases e1:m=pk
   ·subst e1;simp [zbd] at ho
   ·rw [zbb _ _ e1] at ho
    by_cases e2:m=S
    ·subst e2;simp [zbd] at ho
    ·rw [zbb _ _ e2] at ho
     rcases hm m b hb with ⟨e,-⟩ | ⟨-,-,g⟩
     ·exact (e1 e).elim
     ·exact hC.fnew m s' ys' ho b g
end
end Go.Proofs.YtodmafgmdlkhoaaDoor.Vs
end
section
namespace Go.Proofs.YtodmafgmdlkhoaaDoor.Vs
set_option linter.all false
open Go.RowKit
variable {P:Program}
def pcE(st:St)(v r:AV):Prop:=match v,r with
 | .arr n off len,.sl sz ys=>∃xs,((st.ob n=some (.win sz xs)∧immR xs=true)∨st.ob n=some (.flat sz xs))∧off+len≤xs.length∧ys=(xs.drop off).take len
 | .g (.slice none 0 0),.sl _ ys=>ys=[]
 | .g a,.g b=>b=a
 | _,_=>False
def pcX(P:Program)(rs:List ResultVar)(r:AV)(s:St):Prop:=∃p v,resAll P s rs=some (p,[v])∧p∧pcE s v r
def pcQ(P:Program)(rs:List ResultVar)(r:AV):AExit→St→Prop
 | .normal,s=>pcX P rs r s
 | .ret,s=>pcX P rs r s
 | _,_=>False
def ObOk(ob:Nat→Option OB):Prop:=(∀n s xs,ob n≠some (.flat s xs))∧∃fs:List Nat,fs.Nodup∧∀n,ob n≠none→n∈fs
def inlX(P:Program)(rs:List ResultVar)(K:AV→(Nat→Option OB)→Prop)(s:St):Prop:=∃p vs,resAll P s rs=some (p,vs)∧p∧vs.all noTup=true∧K (tupA vs) s.ob
def inlQ2(P:Program)(rs:List ResultVar)(K:AV→(Nat→Option OB)→Prop):AExit→St→Prop
 | .normal,s=>inlX P rs K s
 | .ret,s=>inlX P rs K s
 | _,_=>False
def pcR(x:Option (Prop × List AV))(st:St)(r:AV):Prop:=match x with
 | some (p,[v])=>p∧pcE st v r
 | _=>False
def KQ(r:AV)(o:Nat→Option OB)(v:AV)(ob':Nat→Option OB):Prop:=r=v∧o=ob'
theorem le1_imm{s:St}{ρ:Ren}{c:AV}(h:imm0 c=true):le1 s ρ c c:=by
 cases c<;>first|(simp [imm0] at h;done) | exact rfl | exact ⟨rfl,rfl⟩
theorem zw0{s:St}{ρ:Ren}:∀(cs:List AV),cs.all imm0=true→le1s s ρ cs cs
 | [],_=>rfl
 | c :: cs,h=>by
  simp only [List.all_cons,Bool.and_eq_true] at h
  exact ⟨le1_imm h.1,zw0 cs h.2⟩
theorem zg4{s:St}{ρ:Ren}{xs:List (List AV)}(h:immR xs=true):wn s ρ xs xs :=
 ⟨rfl,λi x' hx=>⟨x',hx,zw0 x' (List.all_eq_true.1 h x' (List.mem_of_getElem? hx))⟩⟩
theorem immR_app(a b:List (List AV)):immR (a++b)=(immR a&&immR b):=by simp [immR]
end Go.Proofs.YtodmafgmdlkhoaaDoor.Vs
end
section
namespace Go.Proofs.YtodmafgmdlkhoaaDoor.Vs
set_option linter.all false
open Go.RowKit
section
variable {P:Program}{C:Cx}{st:St}{a:Act}{w:World}{I:Nat→Prop}{β:Beta}{φ:Nat→List Nat}{fs:List Nat}
def FrzOk(fs:List Nat)(st:St):Prop:=(fs=[]∨¬fs.Nodup)∧∀m∈fs,∃cs,st.ob m=some (.cells cs)
theorem zp4(hC:Conc C st a w I β φ)(hfs:FsOk fs C)(hf:FrzOk fs st){n:Nat}{o:OB}(hn:n∉fs)(ho:st.ob n=some o)(hw:o.wr=true):∀b∈φ n,C.w0.heap.size≤b∧¬C.X b:=by
 intro b hb
 have hX:¬C.X b:=λhx=>by
  obtain ⟨m,bl,h1,h2⟩:=hfs.2 hf.1 b hx
  have hm:m∈fs:=hfs.1 m (by rw [h1];simp)
  obtain ⟨cs,hcs⟩:=hf.2 m hm
  obtain ⟨bl',g1,g2,-⟩:=hC.ob m _ hcs
  have g3:=hC.bet m bl h1
  rw [g1] at g3
  cases g3
  exact hC.sep n m (λe=>hn (e ▸ hm)) b hb (by rw [g2,←h2];simp)
 refine ⟨?_,hX⟩
 rcases (hC.flt n b hb).2 with h | h | h
 ·exact absurd h hX
 ·exact absurd h (hC.wok n o ho hw b hb)
 ·exact h
theorem Conc.frzPart(h:Conc C st a w I β φ){n:Nat}{o o':OB}(ho:st.ob n=some o)(hnew:∀b∈φ n,C.w0.heap.size≤b∧¬C.X b)(hY:∀b∈φ n,¬C.Y b)(F G:List Nat)(hF:∀b∈F,b∈φ n∧b∉G)(hG:∀b∈G,b∈φ n)
 (hro:RO w (λb=>I b∨b∈F) β n o' G) (hnf:∀s xs,o'≠.flat s xs):Conc C { st with ob:=upd st.ob n (some o') } a w (λb=>I b∨b∈F) β (upd φ n G):=by
 have hφ:∀m b,b∈upd φ n G m→b∈φ m:=by
  intro m b hb
  by_cases hm:m=n
  ·subst hm;rw [zbd] at hb;exact hG b hb
  ·rw [zbb _ _ hm] at hb;exact hb
 have hdom:∀m,upd st.ob n (some o') m=none→st.ob m=none:=by
  intro m ho2
  by_cases hm:m=n
  ·subst hm;simp [zbd] at ho2
  ·rwa [zbb _ _ hm] at ho2
 refine h.move (λ_=>False) (Evo.refl _ w) (λ_ hf=>hf.elim) (λb hb=>.inl hb) ?_ (λ_ _ hb=>hb) ?_ (λm ho2=>h.dom m (hdom m ho2)) ?_ ?_ ?_ ?_ ?_ ?_
 ·rintro b (hb | hb)
  ·exact .inl hb
  ·have g1:=(hF b hb).1
   exact .inr (.inr ⟨(h.flt n b g1).1,(hnew b g1).1⟩)
 ·intro m o2 ho2
  by_cases hm:m=n
  ·subst hm
   simp only [zbd,Option.some.injEq] at ho2
   subst ho2
   exact .inr (by rw [zbd];exact hro)
  ·rw [zbb _ _ hm] at ho2
   exact .inl ⟨ho2,zbb _ _ hm,λ_ _ hf=>hf⟩
 ·intro m ho2
  by_cases hm:m=n
  ·subst hm;simp [zbd] at ho2
  ·rw [zbb _ _ hm];exact h.fdom m (hdom m ho2)
 ·intro m k hmk b hb hb'
  exact h.sep m k hmk b (hφ m b hb) (hφ k b hb')
 ·intro m b hb hi
  rcases hi with hi | hi
  ·exact h.nimm m b (hφ m b hb) hi
  ·by_cases hm:m=n
   ·subst hm;rw [zbd] at hb;exact (hF b hi).2 hb
   ·rw [zbb _ _ hm] at hb;exact h.sep m n hm b hb (hF b hi).1
 ·intro m b hb
  exact h.flt m b (hφ m b hb)
 ·intro m o2 ho2 hwr b hb
  by_cases hm:m=n
  ·subst hm;exact hY b (hφ m b hb)
  ·rw [zbb _ _ hm] at ho2;exact h.wok m o2 ho2 hwr b (hφ m b hb)
 ·intro m sz xs ho2 b hb
  by_cases hm:m=n
  ·subst hm
   simp only [zbd,Option.some.injEq] at ho2
   exact absurd ho2 (hnf _ _)
  ·rw [zbb _ _ hm] at ho2;exact h.fnew m sz xs ho2 b (hφ m b hb)
theorem RWc_RJ{I:Nat→Prop}(b:Nat):∀(o:Nat) (cs:List AV) (F:List Nat),(∀b∈F,I b)→RWc w b o cs F→RJc w I β b o cs
 | o,[],F,_,_=>trivial
 | o,c :: cs,F,hF,h=>by
  rw [RWc] at h
  obtain ⟨F1,F2,rfl,⟨v,hv,h1⟩,h2⟩:=h
  have hri:=RW_RI c v F1 (λb hb=>hF b (List.mem_append.2 (.inl hb))) h1
  exact ⟨⟨v,hv,zlu c v hri,RI_one1 c v hri⟩,RWc_RJ b (o+1) cs F2 (λb hb=>hF b (List.mem_append.2 (.inr hb))) h2⟩
theorem RWe_RJ{I:Nat→Prop}(b sz:Nat):∀(o:Nat) (xs:List (List AV)) (F:List Nat),(∀b∈F,I b)→RWe w b sz o xs F→RJe w I β b sz o xs
 | o,[],F,_,_=>trivial
 | o,x :: xs,F,hF,h=>by
  rw [RWe] at h
  obtain ⟨F1,F2,rfl,h0,h1,h2⟩:=h
  exact ⟨h0,RWc_RJ b o x F1 (λb hb=>hF b (List.mem_append.2 (.inl hb))) h1,RWe_RJ b sz (o+sz) xs F2 (λb hb=>hF b (List.mem_append.2 (.inr hb))) h2⟩
def frzO:OB→Nat→List (List AV)→Prop
 | .own s xs,sz,ys=>s=sz∧ys=xs
 | .win s xs,sz,ys=>s=sz∧ys=xs∧immR xs=true
 | .flat s xs,sz,ys=>s=sz∧ys=xs
 | _,_,_=>False
theorem LeS.frzR(n:Nat){o:OB}{sz:Nat}{xs:List (List AV)}(hf:FrzOk fs st)(hn:n∉fs)(ho:st.ob n=some o)(hx:frzO o sz xs):LeS fs st { st with ob:=upd st.ob n (some (.shared sz xs)) }:=by
 rintro C a w hfs ⟨I,β,φ,hC⟩
 cases o with
 | flat s ys =>
  obtain ⟨rfl,rfl⟩:=hx
  obtain ⟨I',-,hC'⟩:=hC.freeze ho
  exact ⟨I',β,_,hC'⟩
 | own s ys =>
  obtain ⟨rfl,rfl⟩:=hx
  obtain ⟨bl,b1,b2,b3,b4,b5,b6⟩:=hC.ob n _ ho
  refine ⟨_,β,_,hC.frzPart ho (zp4 hC hfs hf hn ho rfl) (hC.wok n _ ho rfl) (φ n) [] (λb hb=>⟨hb,by simp⟩) (by simp) ⟨bl,b1,b2,b3,b4,rfl,?_⟩ (by simp)⟩
  rcases b6 with ⟨h0,-⟩ | ⟨F',h1,h2,h3⟩
  ·exact .inl h0
  ·refine .inr ⟨.inr (by rw [h1];simp),?_⟩
   rw [h1]
   exact zpm _ _ _ _ F' (λb hb=>.inr (List.mem_cons_of_mem _ hb)) h3
 | win s ys =>
  obtain ⟨rfl,rfl,him⟩:=hx
  obtain ⟨bl,b1,b2,b3,b4,b5⟩:=hC.ob n _ ho
  refine ⟨_,β,_,hC.frzPart ho (zp4 hC hfs hf hn ho rfl) (hC.wok n _ ho rfl) (φ n) [] (λb hb=>⟨hb,by simp⟩) (by simp) ⟨bl,b1,b2,b3,b4,rfl,?_⟩ (by simp)⟩
  rcases b5 with ⟨h0,-⟩ | ⟨h1,h2,h3⟩
  ·exact .inl h0
  ·exact .inr ⟨.inr (by rw [h1];simp),ztt (λ_ h=>.inl h) _ _ him h3⟩
 | _=>exact hx.elim
theorem LeS.frzN(n:Nat){sz:Nat}{xs:List (List AV)}(hf:FrzOk fs st)(hn:n∉fs)(ho:st.ob n=some (.own sz xs)):LeS fs st { st with ob:=upd st.ob n (some (.win sz xs)) }:=by
 rintro C a w hfs ⟨I,β,φ,hC⟩
 obtain ⟨bl,b1,b2,b3,b4,b5,b6⟩:=hC.ob n _ ho
 rcases b6 with ⟨h0,h1⟩ | ⟨F',h1,h2,h3⟩
 ·exact ⟨_,β,_,hC.frzPart ho (zp4 hC hfs hf hn ho rfl) (hC.wok n _ ho rfl) [] [] (by simp) (by simp) ⟨bl,b1,b2,b3,b4,.inl ⟨h0,rfl⟩⟩ (by simp)⟩
 ·rw [h1] at b5
  obtain ⟨c1,c2⟩:=List.nodup_cons.1 b5
  refine ⟨_,β,_,hC.frzPart ho (zp4 hC hfs hf hn ho rfl) (hC.wok n _ ho rfl) F' [bl.b] (λb hb=>⟨by rw [h1];simp [hb],λe=>c1 (by rw [List.mem_singleton] at e;exact e ▸ hb)⟩) (by rw [h1];simp) ⟨bl,b1,b2,b3,b4,.inr ⟨rfl,h2,?_⟩⟩ (by simp)⟩
  exact RWe_RJ _ _ _ _ F' (λb hb=>.inr hb) h3
theorem shared_RI(hC:Conc C st a w I β φ){n off len sz:Nat}{xs:List (List AV)}(ho:st.ob n=some (.shared sz xs))(hl:off+len≤xs.length){x:Value}(hx:Rv0 w I β (.arr n off len) x):RI w I (.sl sz ((xs.drop off).take len)) x:=by
 obtain ⟨bl,b1,b2,hx⟩:=hx
 obtain ⟨bl',k1,k2,k3,k4,-,k5⟩:=hC.ob n _ ho
 rw [b1] at k1;cases k1
 rw [RI]
 have hzl:((xs.drop off).take len).length=len:=by simp;omega
 rcases hx with rfl | ⟨hcap,aa,rfl⟩
 ·refine ⟨_,_,by rw [hzl],by rw [hzl];omega,?_⟩
  rcases k5 with k5 | ⟨k5,k6⟩
  ·refine .inl (List.eq_nil_of_length_eq_zero ?_);rw [hzl];omega
  ·refine .inr ⟨bl.b,bl.o+off*bl.sz,rfl,k5,?_⟩
   rw [k3,k2]
   exact zd2 _ _ _ (zgg _ _ _ k6)
 ·have h0:len=0:=by omega
  subst h0
  exact ⟨aa,0,by simp,by simp,.inl (by simp)⟩
theorem LeS.vwC(m j n:Nat){cs:List AV}{off len sz:Nat}{xs:List (List AV)}(hm:st.ob m=some (.cells cs))(hj:cs[j]? = some (.arr n off len))(ho:st.ob n=some (.shared sz xs))(hl:off+len≤xs.length):LeS fs st { st with ob:=upd st.ob m (some (.cells (cs.set j (.sl sz ((xs.drop off).take len))))) }:=by
 rintro C a w hfs ⟨I,β,φ,hC⟩
 have hdom:∀k,upd st.ob m (some (OB.cells (cs.set j (.sl sz ((xs.drop off).take len))))) k=none→st.ob k=none:=by
  intro k h
  by_cases e:k=m
  ·subst e;simp [zbd] at h
  ·rwa [zbb _ _ e] at h
 refine ⟨I,β,φ,hC.move (λ_=>False) (Evo.refl _ w) (λ_ hf=>hf.elim) (λ_ hb=>hb) (λ_ hb=>.inl hb) (λ_ _ h=>h) ?_ (λk h=>hC.dom k (hdom k h)) (λk h=>hC.fdom k (hdom k h)) hC.sep hC.nimm hC.flt ?_ ?_⟩
 ·intro k o h
  by_cases e:k=m
  ·subst e
   simp only [zbd,Option.some.injEq] at h
   subst h
   obtain ⟨bl,b1,b2,b3,b4⟩:=hC.ob k _ hm
   refine .inr ⟨bl,b1,b2,by simpa using b3,?_⟩
   rw [zj1] at b4 ⊢
   intro i c hc
   rw [List.getElem?_set] at hc
   by_cases hij:j=i
   ·subst hij
    rw [if_pos rfl] at hc
    by_cases hl2:j<cs.length
    ·rw [if_pos hl2] at hc;cases hc
     obtain ⟨v,h1,h2⟩:=b4 j _ hj
     exact ⟨v,h1,zlu _ _ (shared_RI hC ho hl h2)⟩
    ·rw [if_neg hl2] at hc;cases hc
   ·rw [if_neg hij] at hc;exact b4 i c hc
  ·rw [zbb _ _ e] at h
   exact .inl ⟨h,rfl,λ_ _ hf=>hf⟩
 ·intro k o h hwr b hb
  by_cases e:k=m
  ·subst e;exact hC.wok k _ hm rfl b hb
  ·rw [zbb _ _ e] at h;exact hC.wok k o h hwr b hb
 ·intro k s ys h b hb
  by_cases e:k=m
  ·subst e;simp [zbd] at h
  ·rw [zbb _ _ e] at h;exact hC.fnew k s ys h b hb
end
section
variable {P:Program}{nt:Nat}{fs:List Nat}{Q:AExit→St→Prop}{c:Code}
theorem AW_y0{args:List AV}(h:AW P nt fs c Q { env:=λn=>args.getD n .undef,ob:=lk [] }):AW P nt fs c Q (stX args []):=by
 have:(stX args []) = { env:=λn=>args.getD n .undef,ob:=lk [] }:=by
  unfold stX;congr 1;funext n;rw [zml];rfl
 rw [this];exact h
theorem cv_lk{o o':OB}(h:o=o'∨cvO o o'):(some o:Option OB)=some o'∨∃a b,(some o:Option OB)=some a∧(some o':Option OB)=some b∧cvO a b:=by
 rcases h with rfl | h
 ·exact .inl rfl
 ·exact .inr ⟨o,o',rfl,rfl,h⟩
theorem AW_y1{args:List AV}{o:OB}(o':OB)(ho:o=o'∨cvO o o')(h:AW P nt fs c Q { env:=λn=>args.getD n .undef,ob:=lk [(8,o')] }):AW P nt fs c Q (stX args [o]):=by
 refine zgl (LeS.cv (ob':=lk [(8,o')]) λn=>?_) h
 show postOb [o] [] n=_∨∃p q,postOb [o] [] n=some p∧_
 rw [zwu]
 simp only [zbr,zbz]
 cases (n==8)
 ·exact .inl rfl
 ·exact cv_lk ho
end
section
variable {st:St}
end
end Go.Proofs.YtodmafgmdlkhoaaDoor.Vs
end
section
open Go Go.Proofs.YtodmafgmdlkhoaaDoor.Vs
namespace Go.Proofs.YtodmafgmdlkhoaaDoor.Vs
set_option linter.all false
abbrev W32:=BitVec 32
def wI(x:W32):Int:=(x.toNat:Int)
def cW(x:W32):List AV:=[.g (.int .i64 (wI x))]
theorem wI_bd(x:W32):0≤wI x∧wI x<4294967296:=by unfold wI;have:=x.isLt;omega
theorem zjh(x:W32):BitVec.ofInt 64 (wI x)=x.setWidth 64:=by
 apply BitVec.eq_of_toNat_eq
 simp [wI]
theorem znj{n:Nat}(h:n<9223372036854775808):IntKind.i64.wrap (n:Int)=n:=by
 simp [IntKind.wrap,IntKind.bits,IntKind.signed]
 omega
theorem zvq(a:W32):(a.setWidth 64).toNat=a.toNat:=by
 rw [BitVec.toNat_setWidth,Nat.mod_eq_of_lt]
 have:=a.isLt
 omega
theorem and_w(a b:W32):IntKind.i64.wrap (((BitVec.ofInt IntKind.i64.bits (wI a) &&& BitVec.ofInt IntKind.i64.bits (wI b)).toNat:Nat):Int)=wI (a &&& b):=by
 show IntKind.i64.wrap (((BitVec.ofInt 64 (wI a) &&& BitVec.ofInt 64 (wI b)).toNat:Nat):Int)=_
 rw [zjh,zjh,←BitVec.setWidth_and,zvq,znj (by have:=(a &&& b).isLt;omega)];rfl
theorem xor_w(a b:W32):IntKind.i64.wrap (((BitVec.ofInt IntKind.i64.bits (wI a) ^^^ BitVec.ofInt IntKind.i64.bits (wI b)).toNat:Nat):Int)=wI (a ^^^ b):=by
 show IntKind.i64.wrap (((BitVec.ofInt 64 (wI a) ^^^ BitVec.ofInt 64 (wI b)).toNat:Nat):Int)=_
 rw [zjh,zjh,←BitVec.setWidth_xor,zvq,znj (by have:=(a ^^^ b).isLt;omega)];rfl
theorem mask32(x:Int):IntKind.i64.wrap (((BitVec.ofInt IntKind.i64.bits x &&& BitVec.ofInt IntKind.i64.bits 4294967295).toNat:Nat):Int)=x % 4294967296:=by
 show IntKind.i64.wrap (((BitVec.ofInt 64 x &&& BitVec.ofInt 64 4294967295).toNat:Nat):Int)=_
 have e:(BitVec.ofInt 64 x &&& BitVec.ofInt 64 4294967295).toNat=(x % 18446744073709551616).toNat % 4294967296:=by
  rw [BitVec.toNat_and]
  have h1:(BitVec.ofInt 64 4294967295).toNat=2^32-1:=by decide
  have h2:(BitVec.ofInt 64 x).toNat=(x % 18446744073709551616).toNat:=by simp [BitVec.toNat_ofInt]
  rw [h1,h2,Nat.and_two_pow_sub_one_eq_mod]
 rw [e,znj (by omega)]
 omega
theorem or_nat{p q:Nat}(hp:p<9223372036854775808)(hq:q<9223372036854775808):IntKind.i64.wrap (((BitVec.ofInt IntKind.i64.bits (p:Int) ||| BitVec.ofInt IntKind.i64.bits (q:Int)).toNat:Nat):Int)=((p ||| q:Nat):Int):=by
 show IntKind.i64.wrap (((BitVec.ofInt 64 (p:Int) ||| BitVec.ofInt 64 (q:Int)).toNat:Nat):Int)=_
 have e:∀p:Nat,p<9223372036854775808→(BitVec.ofInt 64 (p:Int)).toNat=p:=λp h=>by simp [BitVec.toNat_ofInt];omega
 rw [BitVec.toNat_or,e p hp,e q hq,znj]
 exact Nat.or_lt_two_pow (n:=63) hp hq
theorem rot_nat(x:W32)(n:Nat)(h0:0<n)(h:n<32):(x.toNat / 2^n ||| x.toNat*2^(32-n)) % 4294967296=(x.rotateRight n).toNat:=by
 have e:x.rotateRight n=x >>> n ||| x <<< (32-n):=by
  rw [BitVec.rotateRight_def,Nat.mod_eq_of_lt h]
 rw [e,BitVec.toNat_or,BitVec.toNat_ushiftRight,BitVec.toNat_shiftLeft,Nat.shiftRight_eq_div_pow,Nat.shiftLeft_eq,show (4294967296:Nat)=2^32 from rfl,Nat.or_mod_two_pow]
 congr 1
 refine Nat.mod_eq_of_lt (Nat.lt_of_le_of_lt (Nat.div_le_self _ _) x.isLt)
theorem shr_w(x:W32)(n:Nat):(wI x).fdiv (2^n)=wI (x >>> n):=by
 unfold wI
 rw [BitVec.toNat_ushiftRight,Nat.shiftRight_eq_div_pow,Int.fdiv_eq_ediv_of_nonneg _ (Int.pow_nonneg (by omega))]
 norm_cast
theorem add_w(a b:W32):(wI a+wI b) % 4294967296=wI (a+b):=by
 unfold wI
 rw [BitVec.toNat_add]
 have:=a.isLt;have:=b.isLt
 omega
theorem zvr(x:Int)(a:W32)(h:x % 4294967296=wI a)(y:Int)(b:W32)(h2:y % 4294967296=wI b):(x+y) % 4294967296=wI (a+b):=by
 rw [←add_w,←h,←h2];omega
theorem zmu(a:W32):wI a % 4294967296=wI a:=by have:=wI_bd a;omega
theorem not_w(a:W32):IntKind.i64.wrap (((BitVec.ofInt IntKind.i64.bits (-1) ^^^ BitVec.ofInt IntKind.i64.bits (wI a)).toNat:Nat):Int) % 4294967296=wI (~~~a):=by
 show IntKind.i64.wrap (((BitVec.ofInt 64 (-1) ^^^ BitVec.ofInt 64 (wI a)).toNat:Nat):Int) % 4294967296=_
 have e:(BitVec.ofInt 64 (-1) ^^^ BitVec.ofInt 64 (wI a)).toNat=18446744073709551615-a.toNat:=by
  have h:BitVec.ofInt 64 (-1)=BitVec.allOnes 64:=by decide
  rw [h,BitVec.allOnes_xor,BitVec.toNat_not,zjh,zvq]
 rw [e]
 have h2:(~~~a).toNat=4294967295-a.toNat:=by rw [BitVec.toNat_not]
 unfold wI
 rw [h2]
 have:=a.isLt
 simp [IntKind.wrap,IntKind.bits,IntKind.signed]
 omega
def zAnd(a b:Int):Int:=IntKind.i64.wrap (BitVec.ofInt IntKind.i64.bits a &&& BitVec.ofInt IntKind.i64.bits b).toNat
def zOr(a b:Int):Int:=IntKind.i64.wrap (BitVec.ofInt IntKind.i64.bits a ||| BitVec.ofInt IntKind.i64.bits b).toNat
def zXor(a b:Int):Int:=IntKind.i64.wrap (BitVec.ofInt IntKind.i64.bits a ^^^ BitVec.ofInt IntKind.i64.bits b).toNat
def zNot(a:Int):Int:=IntKind.i64.wrap (BitVec.ofInt IntKind.i64.bits (-1) ^^^ BitVec.ofInt IntKind.i64.bits a).toNat
def zShl(a b:Int):Int:=IntKind.i64.wrap (a*2^(min b.toNat IntKind.i64.bits))
def zShr(a b:Int):Int:=a.fdiv (2^(min b.toNat IntKind.i64.bits))
theorem zp5(a b:Int):IntKind.i64.wrap (BitVec.ofInt IntKind.i64.bits a &&& BitVec.ofInt IntKind.i64.bits b).toNat=zAnd a b:=(rfl)
theorem zw1(a b:Int):IntKind.i64.wrap (BitVec.ofInt IntKind.i64.bits a ||| BitVec.ofInt IntKind.i64.bits b).toNat=zOr a b:=(rfl)
theorem zp6(a b:Int):IntKind.i64.wrap (BitVec.ofInt IntKind.i64.bits a ^^^ BitVec.ofInt IntKind.i64.bits b).toNat=zXor a b:=(rfl)
theorem zp7(a:Int):IntKind.i64.wrap (BitVec.ofInt IntKind.i64.bits (if IntKind.i64.signed=true then -1 else IntKind.i64.max) ^^^ BitVec.ofInt IntKind.i64.bits a).toNat=zNot a:=(rfl)
theorem zp8(a b:Int):IntKind.i64.wrap (a*2^(min b.toNat IntKind.i64.bits))=zShl a b:=(rfl)
theorem zp9(a b:Int):a.fdiv (2^(min b.toNat IntKind.i64.bits))=zShr a b:=(rfl)
theorem zmv(x:Int):zAnd x 4294967295=x % 4294967296:=mask32 x
theorem zAnd_w(a b:W32):zAnd (wI a) (wI b)=wI (a &&& b):=and_w a b
theorem zsd(a b:W32):zXor (wI a) (wI b)=wI (a ^^^ b):=xor_w a b
theorem zNot_w(a:W32):zNot (wI a) % 4294967296=wI (~~~a):=not_w a
theorem zShr_w(x:W32)(z:Int)(h:0≤z∧z≤64):zShr (wI x) z=wI (x >>> z.toNat):=by
 unfold zShr
 rw [show min z.toNat IntKind.i64.bits=z.toNat from Nat.min_eq_left (by show z.toNat≤64;omega),shr_w]
set_option maxRecDepth 100000 in
theorem zji(p:Nat)(z:Int)(n:Nat)(hz:z=n)(h:n≤64)(hp:p*2^n<9223372036854775808):zShl (p:Int) z=((p*2^n:Nat):Int):=by
 subst hz
 unfold zShl
 rw [show min (n:Int).toNat IntKind.i64.bits=n from Nat.min_eq_left (by show (n:Int).toNat≤64;omega)]
 have e:(p:Int)*2^n=((p*2^n:Nat):Int):=by norm_cast
 rw [e,znj hp]
theorem zqa{p q:Nat}(hp:p<9223372036854775808)(hq:q<9223372036854775808):zOr (p:Int) (q:Int)=((p ||| q:Nat):Int):=or_nat hp hq
set_option maxRecDepth 100000 in
theorem rot_w(x:W32)(z:Int)(h:0<z∧z<32):zOr (zShr (wI x) z) (zShl (wI x) (32-z)) % 4294967296=wI (x.rotateRight z.toNat):=by
 obtain ⟨n,rfl⟩:=Int.eq_ofNat_of_zero_le (show 0≤z by omega)
 have hx:=x.isLt
 have hb:x.toNat*2^(32-n)<9223372036854775808:=by
  have h1:x.toNat*2^(32-n)≤4294967295*2^31:=Nat.mul_le_mul (by omega) (Nat.pow_le_pow_right (by omega) (by omega))
  omega
 rw [zShr_w x _ (by omega),show wI x=((x.toNat:Nat):Int) from rfl,zji x.toNat _ (32-n) (by omega) (by omega) hb]
 have e1:wI (x >>> (n:Int).toNat)=((x.toNat / 2^n:Nat):Int):=by
  unfold wI
  rw [BitVec.toNat_ushiftRight,Nat.shiftRight_eq_div_pow];rfl
 rw [e1,zqa (Nat.lt_of_le_of_lt (Nat.div_le_self _ _) (by omega)) hb]
 have:=rot_nat x n (by omega) (by omega)
 unfold wI
 show ((((x.toNat / 2^n) |||(x.toNat*2^(32-n)):Nat):Int)) % 4294967296=(((x.rotateRight n).toNat:Nat):Int)
 rw [←this]
 generalize (x.toNat / 2^n ||| x.toNat*2^(32-n))=q
 omega
end Go.Proofs.YtodmafgmdlkhoaaDoor.Vs
end
section
open Go Go.Proofs.YtodmafgmdlkhoaaDoor.Vs
namespace Go.Proofs.YtodmafgmdlkhoaaDoor.Vs
set_option linter.all false
structure W8 where
 a:W32
 b:W32
 c:W32
 d:W32
 e:W32
 f:W32
 g:W32
 h:W32
def W8.cells(v:W8):List (List AV):=[cW v.a,cW v.b,cW v.c,cW v.d,cW v.e,cW v.f,cW v.g,cW v.h]
def sg0(x:W32):W32:=x.rotateRight 7 ^^^ x.rotateRight 18 ^^^ x >>> 3
def sg1(x:W32):W32:=x.rotateRight 17 ^^^ x.rotateRight 19 ^^^ x >>> 10
def bs1(x:W32):W32:=x.rotateRight 6 ^^^ x.rotateRight 11 ^^^ x.rotateRight 25
def bs0(x:W32):W32:=x.rotateRight 2 ^^^ x.rotateRight 13 ^^^ x.rotateRight 22
def chW(e f g:W32):W32:=e &&& f ^^^ ~~~e &&& g
def mjW(a b c:W32):W32:=a &&& b ^^^ a &&& c ^^^ b &&& c
def shaK:List W32:=[0x428a2f98,0x71374491,0xb5c0fbcf,0xe9b5dba5,0x3956c25b,0x59f111f1,0x923f82a4,0xab1c5ed5,
 0xd807aa98,0x12835b01,0x243185be,0x550c7dc3,0x72be5d74,0x80deb1fe,0x9bdc06a7,0xc19bf174,
 0xe49b69c1,0xefbe4786,0x0fc19dc6,0x240ca1cc,0x2de92c6f,0x4a7484aa,0x5cb0a9dc,0x76f988da,
 0x983e5152,0xa831c66d,0xb00327c8,0xbf597fc7,0xc6e00bf3,0xd5a79147,0x06ca6351,0x14292967,
 0x27b70a85,0x2e1b2138,0x4d2c6dfc,0x53380d13,0x650a7354,0x766a0abb,0x81c2c92e,0x92722c85,
 0xa2bfe8a1,0xa81a664b,0xc24b8b70,0xc76c51a3,0xd192e819,0xd6990624,0xf40e3585,0x106aa070,
 0x19a4c116,0x1e376c08,0x2748774c,0x34b0bcb5,0x391c0cb3,0x4ed8aa4a,0x5b9cca4f,0x682e6ff3,
 0x748f82ee,0x78a5636f,0x84c87814,0x8cc70208,0x90befffa,0xa4506ceb,0xbef9a3f7,0xc67178f2]
theorem zw2:shaK.length=64:=rfl
def shaH:W8:=⟨0x6a09e667,0xbb67ae85,0x3c6ef372,0xa54ff53a,0x510e527f,0x9b05688c,0x1f83d9ab,0x5be0cd19⟩
def wrd(s:List UInt8)(i:Nat):W32:=BitVec.ofNat 32 (((s.getD i 0).toNat*256+(s.getD (i+1) 0).toNat)*65536+(s.getD (i+2) 0).toNat*256+(s.getD (i+3) 0).toNat)
def sch(s:List UInt8):Nat→List W32
 | 0=>[]
 | i+1=>sch s i++[if i<16 then wrd s (4*i) else (sch s i).getD (i-16) 0+sg0 ((sch s i).getD (i-15) 0)+(sch s i).getD (i-7) 0+sg1 ((sch s i).getD (i-2) 0)]
theorem zdy(s:List UInt8):∀i,(sch s i).length=i
 | 0=>rfl
 | i+1=>by rw [sch,List.length_append,zdy s i];rfl
theorem sch_get(s:List UInt8)(n i:Nat)(h:i<n):(sch s n)[i]? = (sch s (i+1))[i]?:=by
 induction n with
 | zero=>omega
 | succ n ih =>
  by_cases e:i=n
  ·subst e;rfl
  ·rw [sch,List.getElem?_append_left (by rw [zdy];omega),ih (by omega)]
def rnd(k w:W32)(v:W8):W8 :=
 let t:=v.h+bs1 v.e+chW v.e v.f v.g+k+w
 ⟨t+(bs0 v.a+mjW v.a v.b v.c),v.a,v.b,v.c,v.d+t,v.e,v.f,v.g⟩
def runW(s:List UInt8)(h:W8):Nat→W8
 | 0=>h
 | i+1=>rnd (shaK.getD i 0) ((sch s 64).getD i 0) (runW s h i)
def add8(x y:W8):W8:=⟨x.a+y.a,x.b+y.b,x.c+y.c,x.d+y.d,x.e+y.e,x.f+y.f,x.g+y.g,x.h+y.h⟩
def blk(h:W8)(s:List UInt8):W8:=add8 h (runW s h 64)
def zerosN(n:Nat):Nat:=(64-(n+9) % 64) % 64
def lenB(n:Nat):List UInt8:=(List.range 8).map λi=>UInt8.ofNat (n*8 / 2^(56-8*i))
def padS(s:List UInt8):List UInt8:=s++([128]++List.replicate (zerosN s.length) 0++lenB s.length)
theorem zw3(s:List UInt8):(padS s).length=64*((s.length+9+zerosN s.length) / 64):=by
 have:(padS s).length=s.length+9+zerosN s.length:=by simp [padS,lenB];omega
 rw [this]
 unfold zerosN
 omega
def blks(t:List UInt8):Nat→W8
 | 0=>shaH
 | i+1=>blk (blks t i) ((t.drop (64*i)).take 64)
def by4(x:W32):List UInt8:=[UInt8.ofNat (x.toNat / 16777216),UInt8.ofNat (x.toNat / 65536),UInt8.ofNat (x.toNat / 256),UInt8.ofNat x.toNat]
def by32(v:W8):List UInt8:=by4 v.a++by4 v.b++by4 v.c++by4 v.d++by4 v.e++by4 v.f++by4 v.g++by4 v.h
def shaS(s:List UInt8):List UInt8:=by32 (blks (padS s) ((padS s).length / 64))
theorem zw4(s:List UInt8):(shaS s).length=32:=rfl
def shortS(s:List UInt8):List UInt8:=(shaS s).take 8
end Go.Proofs.YtodmafgmdlkhoaaDoor.Vs
end
