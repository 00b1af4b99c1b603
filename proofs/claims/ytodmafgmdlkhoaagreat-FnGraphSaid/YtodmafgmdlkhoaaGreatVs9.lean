import Derived.Test.YtodmafgmdlkhoaaGreatVs8
import Derived.Shelf.SlSortCmp.NoneTotal
section
open Go
namespace Go.Proofs.YtodmafgmdlkhoaaGreat.Vs
set_option linter.all false
open Go.RowKit
set_option linter.unusedSimpArgs false
set_option linter.unusedVariables false
variable {P:Program}
theorem zlo(w:World)(t ty e ety:TypeId)(i:TypeInfo)(ht:P.underlying t=some (.slice e))(hi:P.info? e=some i)
 (g fo sLen sCap:Nat) (cur:Array Value) (hg:w.heap[g]? = some (.cells cur ety (0,0)))
 (a:Addr) (m c:Nat) (news:List Value) (hl:news.length=m*i.size) (hnews:∀(j:Nat) u,news[j]? = some u→w.cell? (a.add j)=some u) (h1:∀u∈news,u.oneCell'=true)
 (hroom:sLen+m≤sCap) (hfit:(fo+sLen)*i.size+news.length≤cur.size) :
 (Builtin.append_ #[t,t] ty #[.slice (some ⟨g,fo*i.size,none⟩) sLen sCap,.slice (some a) m c]).run P w =
  .ok (.slice (some ⟨g,fo*i.size,none⟩) (sLen+m) sCap) (w.setRow g (cur.toList.take ((fo+sLen)*i.size)++news++cur.toList.drop ((fo+sLen)*i.size+news.length)).toArray):=by
 have hf:=run_firstCells_some (P:=P) w i.size m a m c news hl hnews
 have hst:=run_storeCells_at P g ((fo+sLen)*i.size) ety news 0 cur w hg (by simpa using hfit) h1
 have e:(fo+sLen)*i.size=fo*i.size+sLen*i.size:=Nat.add_mul _ _ _
 rw [e] at hst ⊢
 simp only [Nat.add_zero] at hst
 simp [Builtin.append_,run_underlying ht,sizeOf,typeInfo,hi,Builtin.lenOf,hroom,hf,Addr.add_lit,hst]
def aAppG(P:Program)(st:St)(nm:Nat)(ts:List TypeId)(s x:AV):Option (Prop × (AV × Ups) × (AV × Ups)) :=
 match ts with
 | [t,u]=>match ti P t with
  | some T=>match T.kind with
   | .slice e=>match ti P e with
    | some E=>match aNewsW st E.size x with
     | some (p,ys)=>match s with
      | .arr n fo len=>match st.ob n with
       | some (.win sz xs)=>if sz=E.size then some (p∧(st.ob nm).isNone=true∧t=u∧0<E.size∧E.zero.length=E.size∧0<ys.length∧fo+len≤xs.length∧(len+ys.length)*E.bytes≤2^47∧len+ys.length<2^62,
        (.arr nm fo (len+ys.length),[(n,.dead),(nm,.win E.size (xs.take (fo+len)++ys))]),(.arr nm 0 (len+ys.length),[(n,.dead),(nm,.win E.size ((xs.drop fo).take len++ys))])) else none
       | _=>none
      | _=>none
     | none=>none
    | none=>none
   | _=>none
  | none=>none
 | _=>none
section
variable {C:Cx}{st:St}{a:Act}{w:World}{I:Nat→Prop}{β:Beta}{φ:Nat→List Nat}
set_option maxHeartbeats 4000000 in
theorem app2_sound(hC:Conc C st a w I β φ){nm:Nat}{ts:List TypeId}{ty:TypeId}{s x v1 v2:AV}{p y:Value}{c:Prop}{u1 u2:Ups}(hs:Rv w I β s p)(hx:Rv w I β x y)
 (h:aAppG P st nm ts s x=some (c,(v1,u1),(v2,u2))) (hc:c):Good P C st a w (Builtin.append_ ts.toArray ty #[p,y]) v1 u1∨Good P C st a w (Builtin.append_ ts.toArray ty #[p,y]) v2 u2:=by
 unfold aAppG at h
 split at h
 ·rename_i t t'
  split at h
  ·rename_i T hT
   obtain ⟨d,i,z,hd,hi,hz,rfl⟩:=zb7 hT
   simp only at h
   split at h
   ·rename_i e hk
    cases d<;>simp only [tkOf,TK.slice.injEq,reduceCtorEq] at hk
    rw [hk] at hd
    split at h
    ·rename_i E hE
     obtain ⟨d',i',z',hd',hi',hz',rfl⟩:=zb7 hE
     simp only at h
     split at h
     ·rename_i q ys hnews
      split at h
      ·rename_i n fo len
       split at h
       ·rename_i sz xs hob
        split at h
        ·rename_i hsz
         cases h
         obtain ⟨hq,hn,rfl,hpos,hzs,hy00,hlx,h47,h62⟩:=hc
         have hn':st.ob nm=none:=by simpa using hn
         have hzs':z'.cells.size=i'.size:=by simpa using hzs
         obtain ⟨bl,hb,hle,hp⟩:=hs
         obtain ⟨bl',hb',h1,h2,h3,h4⟩:=hC.ob _ _ hob
         rw [hb] at hb';cases hb'
         subst h1
         replace hsz:bl.sz=i'.size:=hsz
         rw [h2,Nat.zero_add] at hp
         have hdead:∀(w':World) (β':Beta) (φ':Nat→List Nat) (zs:List (List AV)),Conc C { st with ob:=upd st.ob nm (some (.win bl.sz zs)) } a w' I β' φ' →
          Conc C { st with ob:=upd (upd st.ob n (some .dead)) nm (some (.win bl.sz zs)) } a w' I β' (upd φ' n []):=by
          intro w' β' φ' zs hC'
          have hne:n≠nm:=by rintro rfl;rw [hob] at hn';cases hn'
          have hφ:∀m b,b∈upd φ' n [] m→m≠n∧b∈φ' m:=by
           intro m b hb
           by_cases h2:m=n
           ·subst h2;simp [zbg] at hb
           ·rw [zba _ _ h2] at hb;exact ⟨h2,hb⟩
          have hdom:∀m,upd (upd st.ob n (some OB.dead)) nm (some (OB.win bl.sz zs)) m=none→m≠n∧upd st.ob nm (some (OB.win bl.sz zs)) m=none:=by
           intro m ho
           by_cases h1:m=nm
           ·subst h1;simp [zbg] at ho
           ·rw [zba _ _ h1] at ho ⊢
            by_cases h2:m=n
            ·subst h2;simp [zbg] at ho
            ·rw [zba _ _ h2] at ho;exact ⟨h2,ho⟩
          refine hC'.move (λ_=>False) (Evo.refl _ w') (λ_ hf=>hf.elim) (λ_ hb=>hb) (λ_ hb=>.inl hb) (λ_ _ hb=>hb) ?_ (λm ho=>hC'.dom m (hdom m ho).2) ?_ ?_ ?_ ?_ ?_ ?_
          ·intro m o ho
           by_cases h2:m=n
           ·subst h2
            rw [zba _ _ hne,zbg] at ho
            cases ho
            exact .inr (by rw [zbg];rfl)
           ·refine .inl ⟨?_,zba _ _ h2,λ_ _ hf=>hf⟩
            by_cases h1:m=nm
            ·subst h1;simpa only [zbg] using ho
            ·rw [zba _ _ h1,zba _ _ h2] at ho
             show upd st.ob nm (some (OB.win bl.sz zs)) m=some o
             rw [zba _ _ h1];exact ho
          ·intro m ho
           rw [zba _ _ (hdom m ho).1];exact hC'.fdom m (hdom m ho).2
          ·intro m k hmk b hb hb'
           exact hC'.sep m k hmk b (hφ m b hb).2 (hφ k b hb').2
          ·intro m b hb;exact hC'.nimm m b (hφ m b hb).2
          ·intro m b hb;exact hC'.flt m b (hφ m b hb).2
          ·intro m cs ho hwr b hb
           obtain ⟨h2,h3⟩:=hφ m b hb
           refine hC'.wok m cs ?_ hwr b h3
           show upd st.ob nm (some (OB.win bl.sz zs)) m=some cs
           by_cases h1:m=nm
           ·subst h1;simp only [zbg,Option.some.injEq] at ho ⊢;exact ho
           ·rw [zba _ _ h1,zba _ _ h2] at ho
            rw [zba _ _ h1];exact ho
          ·intro m s ys ho b hb
           obtain ⟨h2,h3⟩:=hφ m b hb
           refine hC'.fnew m s ys ?_ b h3
           show upd st.ob nm (some (OB.win bl.sz zs)) m=some (.flat s ys)
           by_cases h1:m=nm
           ·subst h1;simpa only [zbg] using ho
           ·rw [zba _ _ h1,zba _ _ h2] at ho
            rw [zba _ _ h1];exact ho
         have hup:∀m bl',β m=some bl'→upd β nm (some bl) m=some bl':=by
          intro m bl' hm
          rw [zba]
          ·exact hm
          ·rintro rfl;rw [hC.dom _ hn'] at hm;cases hm
         have hxl:((xs.drop fo).take len).length=len:=by simp;omega
         have hxl1:(xs.take (fo+len)).length=fo+len:=by simp;omega
         have htake:bl.cap=0∨RJe w I β bl.b bl.sz (0+fo*bl.sz) ((xs.drop fo).take len):=h4.imp (·.1) (λh=>zd1 _ _ len (zji _ _ fo h.2.2))
         -- the elements that come
         have hyy:(ys=[]∧∃a' cap',y=.slice a' 0 cap')∨(0<ys.length∧∃b o cap',y=.slice (some ⟨b,o,none⟩) ys.length cap'∧RJe w I β b i'.size o ys):=by
          rcases zgj hC hnews hq hx with h | ⟨b,o,cap',h,hr⟩
          ·exact .inl h
          ·rcases Nat.eq_zero_or_pos ys.length with h0 | h0
           ·exact .inl ⟨List.length_eq_zero_iff.1 h0,_,_,by rw [h,h0]⟩
           ·exact .inr ⟨h0,b,o,cap',h,hr⟩
         rw [←hsz]
         rcases hyy with ⟨rfl,a',cap',rfl⟩ | ⟨hy0,b,o,cap',rfl,hr⟩
         ·simp at hy00
         ·rw [←hsz] at hr
          obtain ⟨vs,hl,hcell,hone,hel⟩:=zfe _ _ hr
          have hcell':∀(j:Nat) v,vs[j]? = some v→w.cell? ((⟨b,o,none⟩:Addr).add j)=some v:=λj v hv=>by rw [Addr.add_lit];exact hcell j v hv
          by_cases hroom:fo+len+ys.length≤bl.cap
          ·rcases hp with rfl | ⟨h0,a0,rfl⟩
           ·rcases h4 with ⟨h4,-⟩ | ⟨hφ,⟨arr,ety,hh,hsize⟩,hrc⟩
            ·omega
            ·have hbig:(fo+len)*bl.sz+ys.length*bl.sz≤bl.cap*bl.sz:=by rw [←Nat.add_mul];exact Nat.mul_le_mul_right _ hroom
             have hrun:=zlo (P:=P) w t ty e ety i' hd hi' bl.b fo len (bl.cap-fo) arr hh ⟨b,o,none⟩ ys.length cap' vs (by rw [hl,hsz]) hcell' hone (by omega) (by rw [←hsz,hl];omega)
             have hlen':(arr.toList.take ((fo+len)*i'.size)).length=(fo+len)*bl.sz:=by simp;rw [hsz] at hbig hsize ⊢;omega
             have hnew:=setRow_heap w bl.b arr (arr.toList.take ((fo+len)*i'.size)++vs++arr.toList.drop ((fo+len)*i'.size+vs.length)).toArray ety (0,0) hh
             have hev:∀b,I b→(w.setRow bl.b (arr.toList.take ((fo+len)*i'.size)++vs++arr.toList.drop ((fo+len)*i'.size+vs.length)).toArray).heap[b]? = w.heap[b]?:=λb hb'=>setRow_other w bl.b b _ (by rintro rfl;exact hC.nimm n _ (by rw [hφ];simp) hb')
             have hspl:∀k,(w.setRow bl.b (arr.toList.take ((fo+len)*i'.size)++vs++arr.toList.drop ((fo+len)*i'.size+vs.length)).toArray).cell? ⟨bl.b,k,none⟩ =
              if (fo+len)*bl.sz≤k∧k<(fo+len)*bl.sz+vs.length then vs[k-(fo+len)*bl.sz]? else arr[k]?:=by
              intro k
              have hfit2:(fo+len)*i'.size+vs.length≤arr.toList.length:=by rw [Array.length_toList (xs:=arr),hl,←hsz];omega
              rw [zcn hnew,List.getElem?_toArray,zdw _ _ _ hfit2,hsz]
              simp
             have hro:RO (w.setRow bl.b (arr.toList.take ((fo+len)*i'.size)++vs++arr.toList.drop ((fo+len)*i'.size+vs.length)).toArray) I (upd β nm (some bl)) nm (.win bl.sz (xs.take (fo+len)++ys)) (φ n):=by
              refine ⟨bl,zbg _ _ _,rfl,h2,by simp;omega,.inr ⟨hφ,⟨_,ety,hnew,by simp;omega⟩,?_⟩⟩
              refine zkk _ _ _ ?_ ?_
              ·rw [zd6]
               intro i x hxi
               obtain ⟨k1,k2⟩:=zg4 _ _ _ _ (zd1 _ _ (fo+len) hrc) hxi
               refine ⟨k1,?_⟩
               rw [zde] at k2 ⊢
               intro j c hc
               obtain ⟨v,hv,hrv⟩:=k2 j c hc
               refine ⟨v,?_,zd5 (λ_ h=>h) hev hup c v hrv⟩
               have hj:j<bl.sz:=by rw [←k1];exact (List.getElem?_eq_some_iff.1 hc).1
               have hi2:i<fo+len:=by have:=(List.getElem?_eq_some_iff.1 hxi).1;omega
               have:(i+1)*bl.sz≤(fo+len)*bl.sz:=Nat.mul_le_mul_right _ hi2
               rw [Nat.add_mul,Nat.one_mul] at this
               rw [hspl,if_neg (by omega)]
               rwa [zcn hh] at hv
              ·rw [zd6]
               intro i y hyi
               obtain ⟨k1,k2⟩:=hel i y hyi
               refine ⟨k1,?_⟩
               rw [zde]
               intro j c hc
               obtain ⟨v,hv,hrv⟩:=k2 j c hc
               have hvl:=(List.getElem?_eq_some_iff.1 hv).1
               refine ⟨v,?_,zd5 (λ_ h=>h) hev hup c v hrv⟩
               rw [hspl,hxl1,if_pos (by omega),←hv]
               congr 1;omega
             have hC':=hC.renameW (zs:=xs.take (fo+len)++ys) hob hn' hb (zdi w bl.b _ _ (by rw [hφ];simp)) hro
             exact .inl ⟨_,_,I,_,_,(by rw [hsz];exact hrun),⟨bl,zbg _ _ _,by omega,.inl (by simp [h2,hsz])⟩,hC'⟩
           ·omega
          ·have hns : (∃ os : List Value, os.length = ((xs.drop fo).take len).length * bl.sz ∧ (∀ (j : Nat) v, os[j]? = some v → w.cell? ⟨bl.b, 0 + fo * bl.sz + j, none⟩ = some v) ∧
            ∀(i:Nat) x,((xs.drop fo).take len)[i]? = some x→x.length=bl.sz∧∀(j:Nat) c,x[j]? = some c→∃v,os[i*bl.sz+j]? = some v∧R1 w I β c v):=by
            rcases htake with h0 | h0
            ·have:(xs.drop fo).take len=[]:=List.length_eq_zero_iff.1 (by omega)
             rw [this]
             exact ⟨[],by simp,by simp,by simp⟩
            ·obtain ⟨os,g1,g2,g3,g4⟩:=zfe _ _ h0
             exact ⟨os,g1,g2,g4⟩
           obtain ⟨os,hol,hoc,hoel⟩:=hns
           obtain ⟨β',φ',hC',hβ⟩:=zf8 (e:=e) hC hn' z'.cells (hzs'.trans hsz.symm) hol hl hoel hel (grownCap w (len+ys.length) (bl.cap-fo) e) (by rw [hxl];exact grownCap_ge w _ _ e) _ rfl
           have hC'':=hdead _ _ _ _ hC'
           have hne:n≠nm:=by rintro rfl;rw [hob] at hn';cases hn'
           rw [hxl] at hC'' hol
           refine .inr ⟨_,_,I,β',_,?_,⟨_,hβ,?_,.inl rfl⟩,hC''⟩
           ·rcases hp with rfl | ⟨h0,a0,rfl⟩
            ·have := run_append_grow (P := P) w t ty e i' z' hd hi' hz' ⟨bl.b, fo * bl.sz, none⟩ len (bl.cap - fo) os (by rw [hol, hsz]) (fun j v hv => by rw [Addr.add_lit]; have := hoc j v hv; rwa [Nat.zero_add] at this) ⟨b, o, none⟩ ys.length cap' vs (by rw [hl, hsz]) hcell' (by omega) (by omega)
              (growslice_fits (by omega) (by omega))
             simpa using this
            ·have hl0:len=0:=by omega
             subst hl0
             have ho0:os=[]:=List.length_eq_zero_iff.1 (by simpa using hol)
             subst ho0
             cases a0 with
             | none =>
              have:=run_append_nil (P:=P) w t ty e i' z' hd hi' hz' ⟨b,o,none⟩ ys.length cap' vs (by rw [hl,hsz]) hcell' hy0 (by omega) (by have h:=h47;rw [Nat.zero_add] at h;exact Nat.le_trans h (by decide))
              simpa [←h0] using this
             | some a0 =>
              have:=run_append_grow (P:=P) w t ty e i' z' hd hi' hz' a0 0 0 [] (by simp) (by simp) ⟨b,o,none⟩ ys.length cap' vs (by rw [hl,hsz]) hcell' (by omega) (by omega)
               (growslice_fits (by omega) (by omega))
              simpa [←h0] using this
           ·simpa using grownCap_ge w (len+ys.length) (bl.cap-fo) e
        ·cases h
       ·cases h
      ·cases h
     ·cases h
    ·cases h
   ·cases h
  ·cases h
 ·cases h
end
def appT(P:Program)(st:St)(dst:Option Nat)(cl:Call)(cs2:List CO)(K:St→Prop):Prop:=match cl.args.toList.map (ev st) with
 | [s,x]=>match aAppG P st (nmC dst) cl.argTypes.toList s x with
  | some (c,(v1,u1),(v2,u2))=>c∧xreg P cs2 (putC st dst v1 u1) K∧xreg P cs2 (putC st dst v2 u2) K
  | none=>False
 | _=>False
section
variable {C:Cx}
theorem zf3{ops:Array Oper}{Q:Exit→Act→World→Prop}{K:St→Prop}{lt:List Oper}:∀(l:List Oper) (cs:List CO) (st:St) (a:Act) (w:World),cosOf ops l=some cs→(∀o∈l,∀d,o.dst=some d→d<C.nt)→xreg P cs st K→CC C st a w →
 (∀st' a' w',K st'→CC C st' a' w'→wpList P ops Q lt a' w')→wpList P ops Q (l++lt) a w
 | [],cs,st,a,w,hc,_,h,hC,hQ=>by cases hc;exact hQ st a w h hC
 | o :: rest,cs,st,a,w,hc,hd,h,hC,hQ=>by
  have hd':∀o∈rest,∀d,o.dst=some d→d<C.nt:=λo ho=>hd o (by simp [ho])
  unfold cosOf at hc
  split at hc
  ·rename_i c cs' h1 h2
   cases hc
   unfold coOf at h1
   show wpList P ops Q (o :: (rest++lt)) a w
   unfold wpList
   obtain ⟨I,β,φ,hC⟩:=hC
   split at h1
   ·rename_i hg
    cases h1
    rw [zv3] at h
    rw [if_pos (by simp [Region.wanted,hg])]
    exact .inl (zjx (hd o (by simp)) hC h λs a' w' hk hcc=>zf3 rest cs' _ a' w' h2 hd' hk hcc hQ)
   ·rename_i j want hg
    split at h1
    ·rename_i d hj
     cases h1
     rw [zv4] at h
     have hy:=zho ops a.tmps j d hj
     unfold xG at h
     split at h
     ·rename_i b hb
      have he:=hC.env d
      rw [hb] at he
      change a.tmps.getD d undef=.bool b at he
      rw [he] at hy
      by_cases hbw:b=want
      ·subst hbw
       rw [if_pos (by simp [Region.wanted,hg,hy])]
       exact .inl (zjx (hd o (by simp)) (hC.same_env hb) (h.1 rfl) λs a' w' hk hcc=>zf3 rest cs' _ a' w' h2 hd' hk hcc hQ)
      ·have hbn:b = !want:=by cases b<;>cases want<;>simp_all
       rw [if_neg (by simp [Region.wanted,hg,hy,hbw])]
       subst hbn
       exact zf3 rest cs' _ _ w h2 hd' (h.2 rfl) (CC.put_undef (hd o (by simp)) (hC.same_env hb)) hQ
     ·rename_i vs hb
      have he:=hC.env d
      rw [hb] at he
      change a.tmps.getD d undef=.tuple vs at he
      rw [he] at hy
      rw [if_neg (by simp [Region.wanted,hg,hy])]
      exact zf3 rest cs' _ _ w h2 hd' h.2 (CC.put_undef (hd o (by simp)) hC) hQ
     ·exact h.elim
    ·cases h1
  ·cases hc
theorem appT_sound{o:Oper}{cl:Call}{cs2:List CO}{K:St→Prop}{Kx:Act→World→Prop}{Q:Exit→Act→World→Prop}{st:St}{a:Act}{w:World}(hd:∀d,o.dst=some d→d<C.nt)(hC:CC C st a w)(ho:o.op=.call cl)(hb:cl.callee=.builtin .append)(h:appT P st o.dst cl cs2 K)
 (hK:∀s a' w',xreg P cs2 s K→CC C s a' w'→Kx a' w'):o.wp P a w Kx Q:=by
 obtain ⟨I,β,φ,hC⟩:=hC
 have hE:∀x,Rv w I β (ev st x) (a.eval x):=zfj hC.env
 obtain ⟨dst,op,type,pos,aft,gd⟩:=o
 obtain ⟨callee,args,ts⟩:=cl
 simp only at ho hb
 subst ho hb
 unfold appT at h
 simp only at h
 split at h
 ·rename_i s x hL
  split at h
  ·rename_i c v1 u1 v2 u2 hA
   obtain ⟨hc,hk1,hk2⟩:=h
   obtain ⟨y,z,hyz,rfl,rfl⟩:=zko hL
   have hargs:args = #[y,z]:=by apply Array.ext';simpa using hyz
   subst hargs
   have hG:=app2_sound (ty:=type) hC (hE y) (hE z) hA hc
   have good:∀v u,xreg P cs2 (putC st dst v u) K→Good P C st a w (Builtin.append_ ts.toList.toArray type #[a.eval y,a.eval z]) v u→Oper.wp P ⟨dst,.call ⟨.builtin .append,#[y,z],ts⟩,type,pos,aft,gd⟩ a w Kx Q:=by
    intro v u hk hg
    have hg2:GoodOp P C st a w ⟨dst,.call ⟨.builtin .append,#[y,z],ts⟩,type,pos,aft,gd⟩ v u:=hg.op (by simp [execOp,resolve,invoke,builtin])
    obtain ⟨y',w',I',β',φ',hr,hv,hC'⟩:=hg2
    have hcc:CC C (putC st dst v u) (a.put dst y') w':=by
     refine ⟨I',β',φ',?_⟩
     unfold putC
     cases dst with
     | none=>exact hC'
     | some d=>exact hC'.put (hd d rfl) hv
    rcases hr with hr | ⟨hr,rfl⟩
    ·unfold Oper.wp;rw [hr];exact hK _ _ _ hk hcc
    ·unfold Oper.wp;rw [hr];exact hK _ _ _ hk hcc
   rcases hG with hG | hG
   ·exact good v1 u1 hk1 hG
   ·exact good v2 u2 hk2 hG
  ·exact h.elim
 ·exact h.elim
theorem znh{ops:Array Oper}:∀(l:List Oper) (cs1:List CO) (c:CO) (cs2:List CO),cosOf ops l=some (cs1++c :: cs2)→∃l1 o l2,l=l1++o :: l2∧cosOf ops l1=some cs1∧coOf ops o=some c∧cosOf ops l2=some cs2
 | [],cs1,c,cs2,h=>by unfold cosOf at h;cases cs1<;>simp at h
 | o :: r,[],c,cs2,h=>by
  unfold cosOf at h
  split at h
  ·rename_i c' cs' h1 h2
   simp only [List.nil_append,Option.some.injEq,List.cons.injEq] at h
   exact ⟨[],o,r,rfl,rfl,h.1 ▸ h1,h.2 ▸ h2⟩
  ·cases h
 | o :: r,c0 :: cs1,c,cs2,h=>by
  unfold cosOf at h
  split at h
  ·rename_i c' cs' h1 h2
   simp only [List.cons_append,Option.some.injEq,List.cons.injEq] at h
   rw [h.2] at h2
   obtain ⟨l1,o',l2,rfl,e1,e2,e3⟩:=znh r cs1 c cs2 h2
   refine ⟨o :: l1,o',l2,rfl,?_,e2,e3⟩
   unfold cosOf
   rw [h1,e1,h.1]
  ·cases h
theorem regA{ops:Array Oper}{Q:Exit→Act→World→Prop}{K:St→Prop}{l:List Oper}{cs1 cs2:List CO}{dst:Option Nat}{cl:Call}{st:St}{a:Act}{w:World}(hc:cosOf ops l=some (cs1++⟨dst,.call cl,none⟩ :: cs2))(hb:cl.callee=.builtin .append)(hd:∀o∈l,∀d,o.dst=some d→d<C.nt)
 (h:xreg P cs1 st λs=>appT P s dst cl cs2 K) (hC:CC C st a w) (hQ:∀st' a' w',K st'→CC C st' a' w'→Q .normal a' w'):wpList P ops Q l a w:=by
 obtain ⟨l1,o,l2,rfl,e1,e2,e3⟩:=znh l cs1 _ cs2 hc
 refine zf3 (lt:=o :: l2) l1 cs1 st a w e1 (λo ho=>hd o (by simp [ho])) h hC λs1 a1 w1 h1 hC1=>?_
 unfold coOf at e2
 split at e2
 ·rename_i hg
  simp only [Option.some.injEq,CO.mk.injEq,and_true] at e2
  obtain ⟨rfl,ho⟩:=e2
  unfold wpList
  rw [if_pos (by simp [Region.wanted,hg])]
  exact .inl (appT_sound (hd o (by simp)) hC1 ho hb h1 λs a' w' hk hcc=>zd8 l2 cs2 s a' w' e3 (λo ho=>hd o (by simp [ho])) hk hcc hQ)
 ·split at e2<;>simp at e2
end
section
variable {nt:Nat}{fs:List Nat}{Q:AExit→St→Prop}{st:St}
theorem AW_xae{id:Nat}{l:List Oper}(cs1:List CO){cs2:List CO}{dst:Option Nat}{cl:Call}(hc:cosOf l.toArray l=some (cs1++⟨dst,.call cl,none⟩ :: cs2))(hb:cl.callee=.builtin .append)(hd:dstOk nt l.toArray=true)
 (h:∀K:St→Prop,(∀s,Q .normal s→K s)→xreg P cs1 st λs=>appT P s dst cl cs2 K):AW P nt fs (.region id l.toArray false) Q st:=by
 intro C a w hn hf hC
 subst hn
 exact wp_region_lit (regA hc hb (by simpa using zfs hd) (h _ λ_ h=>h) hC λst' a' w' hq hc=>⟨st',hq,hc⟩)
end
end Go.Proofs.YtodmafgmdlkhoaaGreat.Vs
end
section
namespace Go.Proofs.YtodmafgmdlkhoaaGreat.Vs
set_option linter.all false
set_option linter.unusedSimpArgs false
set_option linter.unusedVariables false
def wnO(s:St)(ρ:Ren):OB→OB→Prop
 | .win sz xs,.win sz' xs'=>sz'=sz∧wn s ρ xs xs'
 | _,_=>False
def KpOW(s:St)(ρ:Ren):List (Nat × OB)→Prop
 | []=>True
 | (n,o) :: r=>(∃m p,lk ρ n=some m∧s.ob m=some p∧((p=renO ρ o∧plO o=true)∨cvO p o∨wnO s ρ p o))∧KpOW s ρ r
theorem LeS.kw{fs:List Nat}{s:St}(ρ:Ren)(e:List (Nat × AV))(os:List (Nat × OB))(he:KpR s ρ e)(ho:KpOW s ρ os)(hp:(e.all λp=>pl2 p.2)=true)(h1:(ρ.map (·.1)).Nodup)(h2:(ρ.map (·.2)).Nodup)(h3:ρ.map (·.1)=os.map (·.1))(hf:∀n∈fs,lk ρ n=some n):LeS fs s { env:=lkE e,ob:=lk os }:=by
 refine LeS.le (ρ:=ρ) ⟨?_,?_,h1,h2,h3,h3 ▸ h1,hf⟩
 ·clear ho h3
  induction e with
  | nil=>trivial
  | cons p e ih =>
   obtain ⟨t,v⟩:=p
   simp only [List.all_cons,Bool.and_eq_true] at hp
   refine ⟨?_,ih he.2 hp.2⟩
   rw [he.1]
   exact zv1 v hp.1
 ·clear he hp h3
  induction os with
  | nil=>trivial
  | cons p r ih =>
   obtain ⟨n,o⟩:=p
   refine ⟨?_,ih ho.2⟩
   obtain ⟨m,q,g1,g2,g3⟩:=ho.1
   rw [g1]
   simp only
   rw [g2]
   rcases g3 with ⟨rfl,g3⟩ | g3 | g3
   ·exact zv2 o g3
   ·cases q<;>cases o<;>first | exact g3.elim | exact g3 | exact ⟨g3.1,.inl g3.2⟩
   ·cases q<;>cases o<;>first | exact g3.elim | exact ⟨g3.1,.inr g3.2⟩
def OB.nofl:OB→Bool
 | .flat ..=>false
 | _=>true
def inlR(x:Option (Prop × List AV))(K:AV→(Nat→Option OB)→Prop)(ob:Nat→Option OB):Prop:=match x with
 | some (p,vs)=>p∧vs.all noTup=true∧K (tupA vs) ob
 | none=>False
theorem zbx(p:Prop)(vs:List AV)(K:AV→(Nat→Option OB)→Prop)(ob:Nat→Option OB):inlR (some (p,vs)) K ob=(p∧vs.all noTup=true∧K (tupA vs) ob):=(rfl)
theorem zgx{w:World}{ps qs:List (AV × Value)}{F:List Nat}(h:RWs w (ps++qs) F):∃F1 F2,F=F1++F2∧RWs w ps F1∧RWs w qs F2:=(zje ps qs F).1 h
section
variable {P:Program}{nt:Nat}{fs:List Nat}{Q:AExit→St→Prop}{st:St}{c:Code}
theorem LeS.unpark(n pk S:Nat){s sz k j:Nat}{xs ys:List (List AV)}{x:List AV}{v:Value}{ps1 ps2:List (AV × Value)}
 (hn:st.ob n=some (.win sz xs)) (hp:st.ob pk=some (.park (ps1++(.sl s ys,v) :: ps2))) (hS:st.ob S=none) (hx:xs[k]? = some x) (hj:x[j]? = some (.g v)) :
 LeS fs st { st with ob:=upd (upd (upd st.ob S (some (.own s ys))) pk (some (.park (ps1++ps2)))) n (some (.win sz (xs.set k (x.set j (.arr S 0 ys.length))))) }:=by
 rintro C a w hfs ⟨I,β,φ,hC⟩
 have hnp:n≠pk:=by rintro rfl;rw [hn] at hp;cases hp
 have hnS:n≠S:=by rintro rfl;rw [hn] at hS;cases hS
 have hpS:pk≠S:=by rintro rfl;rw [hp] at hS;cases hS
 obtain ⟨bl,b1,b2,b3,b4,b5⟩:=hC.ob _ _ hn
 obtain ⟨p1,p2⟩:=hC.ob _ _ hp
 obtain ⟨F1,F2',hF,q1,q2⟩:=zgx p2
 obtain ⟨Fv,F2,rfl,q3,q4⟩:=q2
 have hβS:β S=none:=hC.dom S hS
 rw [hF] at p1
 obtain ⟨nd1,nd2,nd3⟩:=List.nodup_append.1 p1
 obtain ⟨nd4,nd5,nd6⟩:=List.nodup_append.1 nd2
 have hnd12:(F1++F2).Nodup:=List.nodup_append.2 ⟨nd1,nd5,λa ha b hb=>nd3 a ha b (List.mem_append.2 (.inr hb))⟩
 have q3':=q3
 rw [RW] at q3'
 have key:∃bs:Bl,bs.sz=s∧bs.o=0∧ys.length≤bs.cap∧((bs.cap=0∧Fv=[])∨∃F',Fv=bs.b :: F'∧OwnW w bs.b 0 (bs.cap*s)∧RWe w bs.b s 0 ys F')∧(v=.slice (some ⟨bs.b,bs.o+0*bs.sz,none⟩) ys.length (bs.cap-0)∨(0=bs.cap∧∃a,v=.slice a 0 0)):=by
  obtain ⟨aa,cap,rfl,h2,⟨rfl,rfl,rfl⟩ | ⟨b,F',rfl,rfl,h4,h5⟩⟩:=q3'
  ·exact ⟨⟨0,0,s,0⟩,rfl,rfl,by simp,.inl ⟨rfl,rfl⟩,.inr ⟨rfl,aa,by simp⟩⟩
  ·exact ⟨⟨b,0,s,cap⟩,rfl,rfl,h2,.inr ⟨F',rfl,h4,h5⟩,.inl (by simp)⟩
 obtain ⟨bs,k1,k2,k3,k4,k5⟩:=key
 have hβ':∀m bl,β m=some bl→upd β S (some bs) m=some bl:=by
  intro m bl' hb
  rw [zba]
  ·exact hb
  ·rintro rfl;rw [hβS] at hb;cases hb
 refine ⟨I,upd β S (some bs),upd (upd φ S Fv) pk (F1++F2),?_⟩
 have hm:∀m b,b∈upd (upd φ S Fv) pk (F1++F2) m→(m=pk∧b∈F1++F2)∨(m=S∧b∈Fv)∨(m≠pk∧m≠S∧b∈φ m):=by
  intro m b hb
  by_cases e1:m=pk
  ·subst e1;rw [zbg] at hb;exact .inl ⟨rfl,hb⟩
  ·rw [zba _ _ e1] at hb
   by_cases e2:m=S
   ·subst e2;rw [zbg] at hb;exact .inr (.inl ⟨rfl,hb⟩)
   ·rw [zba _ _ e2] at hb;exact .inr (.inr ⟨e1,e2,hb⟩)
 have hin1:∀b,b∈F1++F2→b∈φ pk:=by
  intro b hb;rw [hF]
  rcases List.mem_append.1 hb with h | h<;>simp [h]
 have hin2:∀b,b∈Fv→b∈φ pk:=by intro b hb;rw [hF];simp [hb]
 have hdis:∀b,b∈F1++F2→b∈Fv→False:=by
  intro b h1 h2
  rcases List.mem_append.1 h1 with h | h
  ·exact nd3 b h b (List.mem_append.2 (.inl h2)) rfl
  ·exact nd6 b h2 b h rfl
 have hsrc:∀m b,b∈upd (upd φ S Fv) pk (F1++F2) m→(b∈φ pk∧(m=pk∨m=S))∨(m≠pk∧m≠S∧b∈φ m):=by
  intro m b hb
  rcases hm m b hb with ⟨e,h⟩ | ⟨e,h⟩ | h
  ·exact .inl ⟨hin1 b h,.inl e⟩
  ·exact .inl ⟨hin2 b h,.inr e⟩
  ·exact .inr h
 have hdom:∀m,upd (upd (upd st.ob S (some (OB.own s ys))) pk (some (OB.park (ps1++ps2)))) n (some (OB.win sz (xs.set k (x.set j (.arr S 0 ys.length))))) m=none→m≠n∧m≠pk∧m≠S∧st.ob m=none:=by
  intro m ho
  by_cases e1:m=n
  ·subst e1;simp [zbg] at ho
  ·rw [zba _ _ e1] at ho
   by_cases e2:m=pk
   ·subst e2;simp [zbg] at ho
   ·rw [zba _ _ e2] at ho
    by_cases e3:m=S
    ·subst e3;simp [zbg] at ho
    ·rw [zba _ _ e3] at ho;exact ⟨e1,e2,e3,ho⟩
 refine hC.move (λ_=>False) (Evo.refl _ w) (λ_ hf=>hf.elim) (λ_ hb=>hb) (λ_ hb=>.inl hb) hβ' ?_ ?_ ?_ ?_ ?_ ?_ ?_ ?_
 ·intro m o ho
  by_cases e1:m=n
  ·subst e1
   simp only [zbg,Option.some.injEq] at ho
   subst ho
   right
   rw [zba _ _ hnp,zba _ _ hnS]
   refine ⟨bl,hβ' _ _ b1,b2,b3,by simpa using b4,b5.imp id λ⟨g1,g2,g3⟩=>⟨g1,g2,?_⟩⟩
   rw [zd6] at g3 ⊢
   intro i x' hx'
   have hmono:∀(o:Nat) (cs:List AV),RJc w I β bl.b o cs→RJc w I (upd β S (some bs)) bl.b o cs:=by
    intro o cs h
    rw [zde] at h ⊢
    intro jj d hd
    obtain ⟨u,h1,h2⟩:=h jj d hd
    exact ⟨u,h1,zd5 (λ_ h=>h) (λ_ _=>rfl) hβ' _ _ h2⟩
   rw [List.getElem?_set] at hx'
   by_cases hk:k=i
   ·subst hk
    obtain ⟨f1,f2⟩:=g3 k x hx
    rw [if_pos rfl] at hx'
    split at hx'
    ·cases hx'
     refine ⟨by simpa using f1,?_⟩
     have f2':=hmono _ _ f2
     rw [zde] at f2' ⊢
     intro jj d hd
     rw [List.getElem?_set] at hd
     by_cases hjj:j=jj
     ·subst hjj
      rw [if_pos rfl] at hd
      split at hd
      ·cases hd
       obtain ⟨u,u1,u2,u3⟩:=f2' j _ hj
       have hu:u=v:=u2
       subst hu
       exact ⟨u,u1,⟨bs,zbg _ _ _,by omega,k5⟩,u3⟩
      ·cases hd
     ·rw [if_neg hjj] at hd
      exact f2' jj d hd
    ·cases hx'
   ·rw [if_neg hk] at hx'
    obtain ⟨f1,f2⟩:=g3 i x' hx'
    exact ⟨f1,hmono _ _ f2⟩
  ·rw [zba _ _ e1] at ho
   by_cases e2:m=pk
   ·subst e2
    simp only [zbg,Option.some.injEq] at ho
    subst ho
    exact .inr (by rw [zbg];exact ⟨hnd12,(zje _ _ _).2 ⟨F1,F2,rfl,q1,q4⟩⟩)
   ·rw [zba _ _ e2] at ho
    by_cases e3:m=S
    ·subst e3
     simp only [zbg,Option.some.injEq] at ho
     subst ho
     exact .inr (by rw [zba _ _ e2,zbg];exact ⟨bs,zbg _ _ _,k1,k2,k3,nd4,k4⟩)
    ·rw [zba _ _ e3] at ho
     exact .inl ⟨ho,by rw [zba _ _ e2,zba _ _ e3],λ_ _ hf=>hf⟩
 ·intro m ho
  obtain ⟨e1,e2,e3,e4⟩:=hdom m ho
  rw [zba _ _ e3];exact hC.dom m e4
 ·intro m ho
  obtain ⟨e1,e2,e3,e4⟩:=hdom m ho
  rw [zba _ _ e2,zba _ _ e3];exact hC.fdom m e4
 ·intro m m' hmm b hb hb'
  rcases hm m b hb with ⟨rfl,g⟩ | ⟨rfl,g⟩ | ⟨e1,e2,g⟩
  ·rcases hm m' b hb' with ⟨rfl,-⟩ | ⟨rfl,g'⟩ | ⟨e3,e4,g'⟩
   ·exact hmm rfl
   ·exact hdis b g g'
   ·exact hC.sep m m' hmm b (hin1 b g) g'
  ·rcases hm m' b hb' with ⟨rfl,g'⟩ | ⟨rfl,-⟩ | ⟨e3,e4,g'⟩
   ·exact hdis b g' g
   ·exact hmm rfl
   ·exact hC.sep pk m' (Ne.symm e3) b (hin2 b g) g'
  ·rcases hsrc m' b hb' with ⟨g',-⟩ | ⟨e3,e4,g'⟩
   ·exact hC.sep m pk e1 b g g'
   ·exact hC.sep m m' hmm b g g'
 ·intro m b hb
  rcases hsrc m b hb with ⟨g,-⟩ | ⟨-,-,g⟩
  ·exact hC.nimm pk b g
  ·exact hC.nimm m b g
 ·intro m b hb
  rcases hsrc m b hb with ⟨g,-⟩ | ⟨-,-,g⟩
  ·exact hC.flt pk b g
  ·exact hC.flt m b g
 ·intro m o ho hwr b hb
  rcases hsrc m b hb with ⟨g,-⟩ | ⟨e1,e2,g⟩
  ·exact hC.wok pk _ hp rfl b g
  ·by_cases e3:m=n
   ·subst e3;exact hC.wok m _ hn rfl b g
   ·rw [zba _ _ e3,zba _ _ e1,zba _ _ e2] at ho
    exact hC.wok m o ho hwr b g
 ·intro m s' ys' ho b hb
  by_cases e3:m=n
  ·subst e3;simp [zbg] at ho
  ·rw [zba _ _ e3] at ho
   rcases hsrc m b hb with ⟨g,e | e⟩ | ⟨e1,e2,g⟩
   ·subst e;simp [zbg] at ho
   ·subst e;rw [zba _ _ (Ne.symm hpS),zbg] at ho;cases ho
   ·rw [zba _ _ e1,zba _ _ e2] at ho
    exact hC.fnew m s' ys' ho b g
theorem zs4(n pk S:Nat){s sz k j:Nat}{xs ys:List (List AV)}{x:List AV}{ps1 ps2:List (AV × Value)}
 (hn:st.ob n=some (.win sz xs)) (hp:st.ob pk=some (.park (ps1++ps2))) (hS:st.ob S=some (.own s ys)) (hx:xs[k]? = some x) (hj:x[j]? = some (.arr S 0 ys.length))
 (h:∀v:Value,v.oneCell'=true→AW P nt fs c Q { st with ob:=upd (upd (upd st.ob S (some .dead)) pk (some (.park (ps1++(.sl s ys,v) :: ps2)))) n (some (.win sz (xs.set k (x.set j (.g v))))) }):AW P nt fs c Q st:=by
 intro C a w hnt hfs hCC
 obtain ⟨I,β,φ,hC⟩:=id hCC
 have hnp:n≠pk:=by rintro rfl;rw [hn] at hp;cases hp
 have hnS:n≠S:=by rintro rfl;rw [hn] at hS;cases hS
 have hpS:pk≠S:=by rintro rfl;rw [hp] at hS;cases hS
 obtain ⟨bl,b1,b2,b3,b4,b5⟩:=hC.ob _ _ hn
 obtain ⟨p1,p2⟩:=hC.ob _ _ hp
 obtain ⟨F1,F2,hF,q1,q2⟩:=zgx p2
 obtain ⟨bs,s1,s2,s3,s4,s5,s6⟩:=hC.ob _ _ hS
 have hb5:∃g1:φ n=[bl.b],OwnW w bl.b 0 (bl.cap*sz)∧RJe w I β bl.b sz 0 xs:=by
  rcases b5 with ⟨h0,-⟩ | h0
  ·exfalso
   have:k<xs.length:=(List.getElem?_eq_some_iff.1 hx).1
   omega
  ·exact ⟨h0.1,h0.2⟩
 obtain ⟨g1,g2,g3⟩:=hb5
 have g3':=(zd6 _ _).1 g3
 obtain ⟨v,hv1,hv2,hv3⟩:=(zde _ _).1 (g3' k x hx).2 j _ hj
 refine h v hv3 C a w hnt hfs ?_
 have hrw:∃Fv:List Nat,Fv.Sublist (φ S)∧RW w (.sl s ys) v Fv:=by
  obtain ⟨bs',t1,t2,t3⟩:=hv2
  rw [s1] at t1;cases t1
  have hnil:∀a,v=.slice a 0 0→ys=[]→RW w (.sl s ys) v []:=by
   rintro a rfl rfl
   rw [RW]
   exact ⟨a,0,rfl,by simp,.inl ⟨rfl,rfl,rfl⟩⟩
  rcases s6 with ⟨c0,hF0⟩ | ⟨F',f1,f2,f3⟩
  ·have hys : ys = [] := by
    have:ys.length=0:=by omega
    simpa using this
   refine ⟨[],List.nil_sublist _,?_⟩
   rcases t3 with h3 | ⟨-,a,h3⟩
   ·exact hnil _ (h3.trans (by rw [hys,c0];rfl)) hys
   ·exact hnil a h3 hys
  ·rcases t3 with h3 | ⟨c0,a,h3⟩
   ·refine ⟨φ S,List.Sublist.refl _,?_⟩
    rw [RW]
    exact ⟨_,bs.cap,h3,s4,.inr ⟨bs.b,F',by simp [s3],f1,f2,f3⟩⟩
   ·have hys : ys = [] := by
     have:ys.length=0:=by omega
     simpa using this
    exact ⟨[],List.nil_sublist _,hnil a h3 hys⟩
 obtain ⟨Fv,hFs,hFr⟩:=hrw
 have hnv:Fv.Nodup:=s5.sublist hFs
 have hnd:(F1++(Fv++F2)).Nodup:=by
  rw [hF] at p1
  obtain ⟨d1,d2,d3⟩:=List.nodup_append.1 p1
  have hx1:∀b∈Fv,∀b'∈F1++F2,b≠b':=by
   rintro b hb b' hb' rfl
   exact hC.sep S pk (Ne.symm hpS) b (hFs.subset hb) (by rw [hF];exact hb')
  refine List.nodup_append.2 ⟨d1,List.nodup_append.2 ⟨hnv,d2,λa ha b hb=>hx1 a ha b (List.mem_append.2 (.inr hb))⟩,λa ha b hb=>?_⟩
  rcases List.mem_append.1 hb with hb | hb
  ·exact λe=>hx1 b hb a (List.mem_append.2 (.inl ha)) e.symm
  ·exact d3 a ha b hb
 refine ⟨I,β,upd (upd φ S []) pk (F1++(Fv++F2)),?_⟩
 have hm:∀m b,b∈upd (upd φ S []) pk (F1++(Fv++F2)) m→(m=pk∧(b∈φ pk∨b∈φ S))∨(m≠pk∧m≠S∧b∈φ m):=by
  intro m b hb
  by_cases e1:m=pk
  ·subst e1;rw [zbg] at hb
   refine .inl ⟨rfl,?_⟩
   rw [hF]
   rcases List.mem_append.1 hb with h | h
   ·exact .inl (by simp [h])
   ·rcases List.mem_append.1 h with h | h
    ·exact .inr (hFs.subset h)
    ·exact .inl (by simp [h])
  ·rw [zba _ _ e1] at hb
   by_cases e2:m=S
   ·subst e2;simp [zbg] at hb
   ·rw [zba _ _ e2] at hb;exact .inr ⟨e1,e2,hb⟩
 have hdom:∀m,upd (upd (upd st.ob S (some OB.dead)) pk (some (OB.park (ps1++(.sl s ys,v) :: ps2)))) n (some (OB.win sz (xs.set k (x.set j (.g v))))) m=none→m≠n∧m≠pk∧m≠S∧st.ob m=none:=by
  intro m ho
  by_cases e1:m=n
  ·subst e1;simp [zbg] at ho
  ·rw [zba _ _ e1] at ho
   by_cases e2:m=pk
   ·subst e2;simp [zbg] at ho
   ·rw [zba _ _ e2] at ho
    by_cases e3:m=S
    ·subst e3;simp [zbg] at ho
    ·rw [zba _ _ e3] at ho;exact ⟨e1,e2,e3,ho⟩
 refine hC.move (λ_=>False) (Evo.refl _ w) (λ_ hf=>hf.elim) (λ_ hb=>hb) (λ_ hb=>.inl hb) (λ_ _ h=>h) ?_ ?_ ?_ ?_ ?_ ?_ ?_ ?_
 ·intro m o ho
  by_cases e1:m=n
  ·subst e1
   simp only [zbg,Option.some.injEq] at ho
   subst ho
   right
   rw [zba _ _ hnp,zba _ _ hnS]
   refine ⟨bl,b1,b2,b3,by simpa using b4,.inr ⟨g1,g2,?_⟩⟩
   rw [zd6]
   intro i x' hx'
   rw [List.getElem?_set] at hx'
   by_cases hk:k=i
   ·subst hk
    obtain ⟨f1,f2⟩:=g3' k x hx
    rw [if_pos rfl] at hx'
    split at hx'
    ·cases hx'
     refine ⟨by simpa using f1,?_⟩
     rw [zde] at f2 ⊢
     intro jj d hd
     rw [List.getElem?_set] at hd
     by_cases hjj:j=jj
     ·subst hjj
      rw [if_pos rfl] at hd
      split at hd
      ·cases hd
       exact ⟨v,hv1,rfl,hv3⟩
      ·cases hd
     ·rw [if_neg hjj] at hd
      exact f2 jj d hd
    ·cases hx'
   ·rw [if_neg hk] at hx'
    exact g3' i x' hx'
  ·rw [zba _ _ e1] at ho
   by_cases e2:m=pk
   ·subst e2
    simp only [zbg,Option.some.injEq] at ho
    subst ho
    exact .inr (by rw [zbg];exact ⟨hnd,(zje _ _ _).2 ⟨F1,Fv++F2,rfl,q1,Fv,F2,rfl,hFr,q2⟩⟩)
   ·rw [zba _ _ e2] at ho
    by_cases e3:m=S
    ·subst e3
     simp only [zbg,Option.some.injEq] at ho
     subst ho
     exact .inr (by rw [zba _ _ e2,zbg];rfl)
    ·rw [zba _ _ e3] at ho
     exact .inl ⟨ho,by rw [zba _ _ e2,zba _ _ e3],λ_ _ hf=>hf⟩
 ·intro m ho
  exact hC.dom m (hdom m ho).2.2.2
 ·intro m ho
  obtain ⟨e1,e2,e3,e4⟩:=hdom m ho
  rw [zba _ _ e2,zba _ _ e3];exact hC.fdom m e4
 ·intro m m' hmm b hb hb'
  rcases hm m b hb with ⟨rfl,g⟩ | ⟨e1,e2,g⟩
  ·rcases hm m' b hb' with ⟨rfl,-⟩ | ⟨e3,e4,g'⟩
   ·exact hmm rfl
   ·rcases g with g | g
    ·exact hC.sep m m' hmm b g g'
    ·exact hC.sep S m' (Ne.symm e4) b g g'
  ·rcases hm m' b hb' with ⟨rfl,g'⟩ | ⟨e3,e4,g'⟩
   ·rcases g' with g' | g'
    ·exact hC.sep m m' hmm b g g'
    ·exact hC.sep m S e2 b g g'
   ·exact hC.sep m m' hmm b g g'
 ·intro m b hb
  rcases hm m b hb with ⟨-,g | g⟩ | ⟨-,-,g⟩
  ·exact hC.nimm pk b g
  ·exact hC.nimm S b g
  ·exact hC.nimm m b g
 ·intro m b hb
  rcases hm m b hb with ⟨-,g | g⟩ | ⟨-,-,g⟩
  ·exact hC.flt pk b g
  ·exact hC.flt S b g
  ·exact hC.flt m b g
 ·intro m o ho hwr b hb
  rcases hm m b hb with ⟨-,g | g⟩ | ⟨e1,e2,g⟩
  ·exact hC.wok pk _ hp rfl b g
  ·exact hC.wok S _ hS rfl b g
  ·by_cases e3:m=n
   ·subst e3;exact hC.wok m _ hn rfl b g
   ·rw [zba _ _ e3,zba _ _ e1,zba _ _ e2] at ho
    exact hC.wok m o ho hwr b g
 ·intro m s' ys' ho b hb
  by_cases e3:m=n
  ·subst e3;simp [zbg] at ho
  ·rw [zba _ _ e3] at ho
   by_cases e1:m=pk
   ·subst e1;simp [zbg] at ho
   ·rw [zba _ _ e1] at ho
    by_cases e2:m=S
    ·subst e2;simp [zbg] at ho
    ·rw [zba _ _ e2] at ho
     rcases hm m b hb with ⟨e,-⟩ | ⟨-,-,g⟩
     ·exact (e1 e).elim
     ·exact hC.fnew m s' ys' ho b g
theorem AW_winc(n:Nat){sz:Nat}{xs:List (List AV)}(hn:st.ob n=some (.win sz xs))(hne:0<xs.length)
 (h:∀c0:Nat,xs.length≤c0→AW P nt fs c Q { st with ob:=upd st.ob n (some (.winc sz xs c0)) }):AW P nt fs c Q st:=by
 intro C a w hnt hfs hCC
 obtain ⟨I,β,φ,hC⟩:=id hCC
 obtain ⟨bl,b1,b2,b3,b4,b5⟩:=hC.ob _ _ hn
 rcases b5 with ⟨h0,-⟩ | ⟨b5,b6,b7⟩
 ·omega
 refine h bl.cap b4 C a w hnt hfs ⟨I,β,φ,?_⟩
 have hdom:∀m,upd st.ob n (some (OB.winc sz xs bl.cap)) m=none→st.ob m=none:=by
  intro m ho
  by_cases e:m=n
  ·subst e;simp [zbg] at ho
  ·rwa [zba _ _ e] at ho
 refine hC.move (λ_=>False) (Evo.refl _ w) (λ_ hf=>hf.elim) (λ_ hb=>hb) (λ_ hb=>.inl hb) (λ_ _ h=>h) ?_ (λm ho=>hC.dom m (hdom m ho)) (λm ho=>hC.fdom m (hdom m ho)) hC.sep hC.nimm hC.flt ?_ ?_
 ·intro m o ho
  by_cases e:m=n
  ·subst e
   simp only [zbg,Option.some.injEq] at ho
   subst ho
   exact .inr ⟨bl,b1,b2,b3,b4,rfl,b5,b6,b7⟩
  ·rw [zba _ _ e] at ho
   exact .inl ⟨ho,rfl,λ_ _ hf=>hf⟩
 ·intro m o ho hwr b hb
  by_cases e:m=n
  ·subst e;exact hC.wok m _ hn rfl b hb
  ·rw [zba _ _ e] at ho;exact hC.wok m o ho hwr b hb
 ·intro m s' ys' ho b hb
  by_cases e:m=n
  ·subst e;simp [zbg] at ho
  ·rw [zba _ _ e] at ho;exact hC.fnew m s' ys' ho b hb
theorem LeS.cwin(n:Nat){sz c0:Nat}{xs:List (List AV)}(hn:st.ob n=some (.winc sz xs c0)):LeS fs st { st with ob:=upd st.ob n (some (.win sz xs)) }:=by
 rintro C a w hfs ⟨I,β,φ,hC⟩
 obtain ⟨bl,b1,b2,b3,b4,b5,b6,b7,b8⟩:=hC.ob _ _ hn
 have hdom:∀m,upd st.ob n (some (OB.win sz xs)) m=none→st.ob m=none:=by
  intro m ho
  by_cases e:m=n
  ·subst e;simp [zbg] at ho
  ·rwa [zba _ _ e] at ho
 refine ⟨I,β,φ,hC.move (λ_=>False) (Evo.refl _ w) (λ_ hf=>hf.elim) (λ_ hb=>hb) (λ_ hb=>.inl hb) (λ_ _ h=>h) ?_ (λm ho=>hC.dom m (hdom m ho)) (λm ho=>hC.fdom m (hdom m ho)) hC.sep hC.nimm hC.flt ?_ ?_⟩
 ·intro m o ho
  by_cases e:m=n
  ·subst e
   simp only [zbg,Option.some.injEq] at ho
   subst ho
   exact .inr ⟨bl,b1,b2,b3,b4,.inr ⟨b6,b7,b8⟩⟩
  ·rw [zba _ _ e] at ho
   exact .inl ⟨ho,rfl,λ_ _ hf=>hf⟩
 ·intro m o ho hwr b hb
  by_cases e:m=n
  ·subst e;exact hC.wok m _ hn rfl b hb
  ·rw [zba _ _ e] at ho;exact hC.wok m o ho hwr b hb
 ·intro m s' ys' ho b hb
  by_cases e:m=n
  ·subst e;simp [zbg] at ho
  ·rw [zba _ _ e] at ho;exact hC.fnew m s' ys' ho b hb
end
end Go.Proofs.YtodmafgmdlkhoaaGreat.Vs
end
section
namespace Go.Proofs.YtodmafgmdlkhoaaGreat.Vs
set_option linter.all false
open Go.RowKit
set_option linter.unusedSimpArgs false
set_option linter.unusedVariables false
variable {P:Program}
def pcE(st:St)(v r:AV):Prop:=match v,r with
 | .arr n off len,.sl sz ys=>∃xs,((st.ob n=some (.win sz xs)∧immR xs=true)∨st.ob n=some (.flat sz xs))∧off+len≤xs.length∧ys=(xs.drop off).take len
 | .g (.slice none 0 0),.sl _ ys=>ys=[]
 | .g a,.g b=>b=a
 | _,_=>False
theorem zwi(st:St)(n off len sz:Nat)(ys:List (List AV)):pcE st (.arr n off len) (.sl sz ys)=∃xs,((st.ob n=some (.win sz xs)∧immR xs=true)∨st.ob n=some (.flat sz xs))∧off+len≤xs.length∧ys=(xs.drop off).take len:=(rfl)
theorem pcE_nil(st:St)(sz:Nat)(ys:List (List AV)):pcE st (.g (.slice none 0 0)) (.sl sz ys)=(ys=[]):=(rfl)
def pcX(P:Program)(rs:List ResultVar)(r:AV)(s:St):Prop:=∃p v,resAll P s rs=some (p,[v])∧p∧pcE s v r
def pcQ(P:Program)(rs:List ResultVar)(r:AV):AExit→St→Prop
 | .normal,s=>pcX P rs r s
 | .ret,s=>pcX P rs r s
 | _,_=>False
theorem zdt{f:FuncId}{fn:Func}{c:Code}{args:List AV}{r:AV}
 (hf : P.funcs[f]? = some fn) (hname : (fn.name == "runtime.NumGoroutine") = false) (hb : fn.body = some c) (hnt : args.length ≤ fn.ntmps)
 (h:AW P fn.ntmps (formsX 0) c (pcQ P fn.results.toList r) (stX args [])):PCall P f args r:=by
 refine ⟨⟨fn,hf,hname,by rw [hb];rfl⟩,?_⟩
 intro w I β vs hI hargs _ hn _ _ _
 have hβ:∀n,β n=none:=λn=>hn n (zx5 n)
 have hvl:vs.length=args.length:=by
  have:∀(l:List AV) (ys:List Value),Rv2s w I β l ys→ys.length=l.length:=by
   intro l
   induction l with
   | nil=>rintro _ rfl;rfl
   | cons c l ih=>rintro _ ⟨y,ys,rfl,-,h2⟩;simp [ih ys h2]
  exact this _ _ hargs
 have hC0:=zx4 (wos:=[]) (χ:=λ_=>[]) (nt:=fn.ntmps) (vs:=vs) (by omega) hI hargs rfl (λn _=>⟨hβ n,rfl⟩) (λn o ho=>by rw [zm8] at ho;cases ho) (by simp) (by simp)
 refine calls_of_wp hf hb (wp_mono (h _ _ w rfl ⟨λn hne=>(hne (hβ n)).elim,λ_ b hb=>by obtain ⟨n,hb⟩:=hb;simp at hb⟩ ⟨_,_,_,hC0⟩) ?_)
 intro e a w' hq
 have key:(∃s,(∃p v,resAll P s fn.results.toList=some (p,[v])∧p∧pcE s v r)∧CC ⟨w,I,λb=>∃n:Nat,b∈([]:List Nat),λ_=>False,β,fn.ntmps⟩ s a w') →
  a.defers=[]∧∃v,(results fn a.tmps).run P w'=.ok v w'∧∃(v':Value) (I':Nat→Prop),Ending.returned v=.returned v'∧Evo (λb=>∃i bl,i<([]:List (List AV)).length∧β (8+i)=some bl∧bl.b=b) w w'∧(∀b,I b→I' b)∧(∀b,I' b→I b∨(w.heap.size≤b∧b<w'.heap.size)) ∧
   Rv w' I' (λ_=>none) r v'∧([]:List (List AV)).length=([]:List (List AV)).length∧∀i cs,([]:List (List AV))[i]? = some cs→∃bl,β (8+i)=some bl∧OwnW w' bl.b bl.o cs.length∧Rcs w' I' (λ_=>none) bl.b bl.o cs:=by
  rintro ⟨s,⟨p,av,hres,hp,hE⟩,I1,β1,φ1,hC1⟩
  obtain ⟨ys,hyl,hrun,hget⟩:=zgm hC1 _ _ _ hres hp
  obtain ⟨y,hy,hry⟩:=hget 0 av rfl
  have hl1:ys.length=1:=by simpa using hyl
  obtain ⟨y',rfl⟩:=List.length_eq_one_iff.1 hl1
  simp only [List.getElem?_cons_zero,Option.some.injEq] at hy
  subst hy
  refine ⟨hC1.dfr,y',?_,y',λb=>I1 b∨∃n,b∈φ1 n,rfl,hC1.evo.mono (by rintro b - ⟨n,hb⟩;simp at hb),λb hb=>.inl (hC1.imm0 b hb),?_,?_,rfl,by simp⟩
  ·rw [zhp,Sem.run_bind,Array.mapM_eq_mapM_toList,Sem.run_map',hrun]
   simp only [Result.andThen_ok,Sem.run_pure]
   rfl
  ·rintro b (hb | ⟨n,hb⟩)
   ·rcases hC1.immNew b hb with h1 | h1
    ·exact .inl h1
    ·exact .inr ⟨h1,hC1.immLt b hb⟩
   ·obtain ⟨g1,g2 | g2 | g2⟩:=hC1.flt n b hb
    ·obtain ⟨-,g2⟩:=g2;simp at g2
    ·exact g2.elim
    ·exact .inr ⟨g2,g1⟩
  ·unfold pcE at hE
   split at hE
   ·rename_i n off len sz zs
    obtain ⟨xs,ho,hol,rfl⟩:=hE
    obtain ⟨bl,b1,b2,hx⟩:=hry
    have key2:∃bl',β1 n=some bl'∧bl'.sz=sz∧bl'.o=0∧xs.length≤bl'.cap∧(bl'.cap=0∨((I1 bl'.b∨∃n,bl'.b∈φ1 n)∧RIe w' (λb=>I1 b∨∃n,b∈φ1 n) bl'.b sz 0 xs)):=by
     rcases ho with ⟨ho,him⟩ | ho
     ·obtain ⟨bl',k1,k2,k3,k4,k5⟩:=hC1.ob n _ ho
      refine ⟨bl',k1,k2,k3,k4,k5.imp (·.1) ?_⟩
      rintro ⟨k6,k7,k8⟩
      exact ⟨.inr ⟨n,by rw [k6];simp⟩,zqn (λ_ h=>.inl h) _ _ him k8⟩
     ·obtain ⟨bl',k1,k2,k3,k4,k5⟩:=hC1.ob n _ ho
      refine ⟨bl',k1,k2,k3,k4,k5.imp (·.1) ?_⟩
      rintro ⟨k6,k7,k8⟩
      exact ⟨.inr ⟨n,by rw [k6];simp⟩,zki (λ_ h=>.inl h) (λ_ _=>rfl) _ rfl _ _ _ k8⟩
    obtain ⟨bl',k1,k2,k3,k4,k5⟩:=key2
    rw [b1] at k1;cases k1
    show RI w' _ (.sl sz _) y'
    rw [RI]
    have hzl:((xs.drop off).take len).length=len:=by simp;omega
    rcases hx with rfl | ⟨hcap,aa,rfl⟩
    ·refine ⟨_,_,by rw [hzl],by rw [hzl];omega,?_⟩
     rcases k5 with k5 | ⟨k5,k6⟩
     ·refine .inl (List.eq_nil_of_length_eq_zero ?_);rw [hzl];omega
     ·refine .inr ⟨bl.b,bl.o+off*bl.sz,rfl,k5,?_⟩
      rw [k3,k2]
      exact zd0 _ _ _ (zf5 _ _ _ k6)
    ·have h0:len=0:=by omega
     subst h0
     exact ⟨aa,0,by simp,by simp,.inl (by simp)⟩
   ·subst hE
    have hry:y'=.slice none 0 0:=hry
    show RI w' _ (.sl _ []) y'
    rw [RI]
    exact ⟨none,0,hry,by simp,.inl rfl⟩
   ·subst hE;exact hry
   ·exact hE.elim
 cases e with
 | normal=>exact key hq
 | ret=>exact key hq
 | exit i=>obtain ⟨s,h1,h2⟩:=hq;exact h1.elim
 | _=>exact hq.elim
def ObOk(ob:Nat→Option OB):Prop:=(∀n s xs,ob n≠some (.flat s xs))∧∃fs:List Nat,fs.Nodup∧∀n,ob n≠none→n∈fs
theorem nd_of(l:List Nat):∃fs:List Nat,fs.Nodup∧∀n∈l,n∈fs:=by
 induction l with
 | nil=>exact ⟨[],List.nodup_nil,by simp⟩
 | cons n l ih =>
  obtain ⟨fs,h1,h2⟩:=ih
  by_cases hn:n∈fs
  ·exact ⟨fs,h1,λm hm=>by rcases List.mem_cons.1 hm with rfl | hm;exact hn;exact h2 m hm⟩
  ·exact ⟨n :: fs,List.nodup_cons.2 ⟨hn,h1⟩,λm hm=>by rcases List.mem_cons.1 hm with rfl | hm;exact List.mem_cons_self;exact List.mem_cons_of_mem _ (h2 m hm)⟩
theorem zza{ob:Nat→Option OB}{n:Nat}{o:OB}(h:ObOk ob)(ho:o.nofl=true):ObOk (upd ob n (some o)):=by
 obtain ⟨h1,fs,-,h2⟩:=h
 obtain ⟨fs',h3,h4⟩:=nd_of (n :: fs)
 refine ⟨λm s xs e=>?_,fs',h3,λm hm=>?_⟩
 ·by_cases hmn:m=n
  ·subst hmn;rw [zbg] at e;cases e;simp [OB.nofl] at ho
  ·rw [zba _ _ hmn] at e;exact h1 m s xs e
 ·by_cases hmn:m=n
  ·subst hmn;exact h4 _ List.mem_cons_self
  ·rw [zba _ _ hmn] at hm;exact h4 _ (List.mem_cons_of_mem _ (h2 m hm))
theorem zni{os:List (Nat × OB)}(h:os.all (λp=>p.2.nofl)=true):ObOk (lk os):=by
 obtain ⟨fs',h3,h4⟩:=nd_of (os.map (·.1))
 refine ⟨λn s xs he=>?_,fs',h3,λn hn=>h4 n ?_⟩
 ·have:=List.all_eq_true.1 h _ (zpe he)
  simp [OB.nofl] at this
 ·cases hl:lk os n with
  | none=>exact (hn hl).elim
  | some o=>exact List.mem_map.2 ⟨_,zpe hl,rfl⟩
def inlX(P:Program)(rs:List ResultVar)(K:AV→(Nat→Option OB)→Prop)(s:St):Prop:=∃p vs,resAll P s rs=some (p,vs)∧p∧vs.all noTup=true∧K (tupA vs) s.ob
def inlQ2(P:Program)(rs:List ResultVar)(K:AV→(Nat→Option OB)→Prop):AExit→St→Prop
 | .normal,s=>inlX P rs K s
 | .ret,s=>inlX P rs K s
 | _,_=>False
theorem znj {f : FuncId} {fn : Func} {c : Code} {ob : Nat → Option OB} {actual : List AV} {K : AV → (Nat → Option OB) → Prop} (hf : P.funcs[f]? = some fn) (hname : (fn.name == "runtime.NumGoroutine") = false) (hb : fn.body = some c) (hnt : actual.length ≤ fn.ntmps) (hat : actual.all noTup = true) (hob : ObOk ob)
 (h:∀fs,AW P fn.ntmps fs c (inlQ2 P fn.results.toList K) { env:=λn=>actual.getD n .undef,ob:=ob }):∃fs,INL P f fs ob actual K:=by
 obtain ⟨h1,fs,h0,h2⟩:=hob
 exact ⟨fs,h0,fn,c,hf,hname,hb,hnt,hat,h1,h2,zvi (h fs) λe s hq=>by cases e<;>exact hq⟩
theorem zlp{rest:List CO}{K:St→Prop}{st:St}{dst:Option Nat}{f:FuncId}{l:List AV}{Po:AV→(Nat→Option OB)→Prop}(hI:∃fs,INL P f fs st.ob l Po)(hk:∀v ob,Po v ob→xreg P rest (putC { st with ob:=ob } dst v []) K):XKd P rest K st dst f l:=by
 obtain ⟨fs,hI⟩:=hI
 exact XKd_i hI hk
def pcR(x:Option (Prop × List AV))(st:St)(r:AV):Prop:=match x with
 | some (p,[v])=>p∧pcE st v r
 | _=>False
theorem zq8(p:Prop)(v:AV)(st:St)(r:AV):pcR (some (p,[v])) st r=(p∧pcE st v r):=(rfl)
theorem znk{P:Program}{rs:List ResultVar}{K:AV→(Nat→Option OB)→Prop}{st:St}(h:inlR (resAll P st rs) K st.ob):inlX P rs K st:=by
 unfold inlR at h
 split at h
 ·rename_i p vs hr
  exact ⟨p,vs,hr,h.1,h.2.1,h.2.2⟩
 ·exact h.elim
theorem zh6{P:Program}{rs:List ResultVar}{r:AV}{st:St}(h:pcR (resAll P st rs) st r):pcX P rs r st:=by
 unfold pcR at h
 split at h
 ·rename_i p v hr
  exact ⟨p,v,hr,h.1,h.2⟩
 ·exact h.elim
def KQ(r:AV)(o:Nat→Option OB)(v:AV)(ob':Nat→Option OB):Prop:=r=v∧o=ob'
theorem zcm(r:AV)(o:Nat→Option OB)(v:AV)(ob':Nat→Option OB):KQ r o v ob'=(r=v∧o=ob'):=(rfl)
theorem zdu{s:St}{ρ:Ren}{c:AV}(h:imm0 c=true):le1 s ρ c c:=by
 cases c<;>first|(simp [imm0] at h;done) | exact rfl | exact ⟨rfl,rfl⟩
theorem zl4{s:St}{ρ:Ren}:∀(cs:List AV),cs.all imm0=true→le1s s ρ cs cs
 | [],_=>rfl
 | c :: cs,h=>by
  simp only [List.all_cons,Bool.and_eq_true] at h
  exact ⟨zdu h.1,zl4 cs h.2⟩
theorem zc5{s:St}{ρ:Ren}{xs:List (List AV)}(h:immR xs=true):wn s ρ xs xs :=
 ⟨rfl,λi x' hx=>⟨x',hx,zl4 x' (List.all_eq_true.1 h x' (List.mem_of_getElem? hx))⟩⟩
theorem zq9{s:St}{ρ:Ren}{xs ys:List (List AV)}(h:immR xs=true)(e:ys=xs):wn s ρ xs ys:=by subst e;exact zc5 h
theorem zzb(a b:List (List AV)):immR (a++b)=(immR a&&immR b):=by simp [immR]
theorem zs5(x:List AV)(xs:List (List AV)):immR (x :: xs)=(x.all imm0&&immR xs):=by simp [immR]
theorem zdr:immR []=true:=(rfl)
theorem imm0_sl(s:Nat)(xs:List (List AV)):imm0 (.sl s xs)=true:=(rfl)
end Go.Proofs.YtodmafgmdlkhoaaGreat.Vs
end
section
namespace Go.Proofs.YtodmafgmdlkhoaaGreat.Vs
set_option linter.all false
open Go.RowKit
set_option linter.unusedSimpArgs false
set_option linter.unusedVariables false
section
variable {P:Program}{C:Cx}{st:St}{a:Act}{w:World}{I:Nat→Prop}{β:Beta}{φ:Nat→List Nat}{fs:List Nat}
def FrzOk(fs:List Nat)(st:St):Prop:=(fs=[]∨¬fs.Nodup)∧∀m∈fs,∃cs,st.ob m=some (.cells cs)
theorem zra(hC:Conc C st a w I β φ)(hfs:FsOk fs C)(hf:FrzOk fs st){n:Nat}{o:OB}(hn:n∉fs)(ho:st.ob n=some o)(hw:o.wr=true):∀b∈φ n,C.w0.heap.size≤b∧¬C.X b:=by
 intro b hb
 have hX:¬C.X b:=λhx=>by
  obtain ⟨m,bl,h1,h2⟩:=hfs.2 hf.1 b hx
  have hm:m∈fs:=hfs.1 m (by rw [h1];simp)
  obtain ⟨cs,hcs⟩:=hf.2 m hm
  obtain ⟨bl',g1,g2,-⟩:=hC.ob m _ hcs
  have g3:=hC.bet m bl h1
  rw [g1] at g3
  cases g3
  exact hC.sep n m (λe=>hn (e ▸ hm)) b hb (by rw [g2,←h2];simp)
 refine ⟨?_,hX⟩
 rcases (hC.flt n b hb).2 with h | h | h
 ·exact absurd h hX
 ·exact absurd h (hC.wok n o ho hw b hb)
 ·exact h
theorem Conc.frzPart(h:Conc C st a w I β φ){n:Nat}{o o':OB}(ho:st.ob n=some o)(hnew:∀b∈φ n,C.w0.heap.size≤b∧¬C.X b)(hY:∀b∈φ n,¬C.Y b)(F G:List Nat)(hF:∀b∈F,b∈φ n∧b∉G)(hG:∀b∈G,b∈φ n)
 (hro:RO w (λb=>I b∨b∈F) β n o' G) (hnf:∀s xs,o'≠.flat s xs):Conc C { st with ob:=upd st.ob n (some o') } a w (λb=>I b∨b∈F) β (upd φ n G):=by
 have hφ:∀m b,b∈upd φ n G m→b∈φ m:=by
  intro m b hb
  by_cases hm:m=n
  ·subst hm;rw [zbg] at hb;exact hG b hb
  ·rw [zba _ _ hm] at hb;exact hb
 have hdom:∀m,upd st.ob n (some o') m=none→st.ob m=none:=by
  intro m ho2
  by_cases hm:m=n
  ·subst hm;simp [zbg] at ho2
  ·rwa [zba _ _ hm] at ho2
 refine h.move (λ_=>False) (Evo.refl _ w) (λ_ hf=>hf.elim) (λb hb=>.inl hb) ?_ (λ_ _ hb=>hb) ?_ (λm ho2=>h.dom m (hdom m ho2)) ?_ ?_ ?_ ?_ ?_ ?_
 ·rintro b (hb | hb)
  ·exact .inl hb
  ·have g1:=(hF b hb).1
   exact .inr (.inr ⟨(h.flt n b g1).1,(hnew b g1).1⟩)
 ·intro m o2 ho2
  by_cases hm:m=n
  ·subst hm
   simp only [zbg,Option.some.injEq] at ho2
   subst ho2
   exact .inr (by rw [zbg];exact hro)
  ·rw [zba _ _ hm] at ho2
   exact .inl ⟨ho2,zba _ _ hm,λ_ _ hf=>hf⟩
 ·intro m ho2
  by_cases hm:m=n
  ·subst hm;simp [zbg] at ho2
  ·rw [zba _ _ hm];exact h.fdom m (hdom m ho2)
 ·intro m k hmk b hb hb'
  exact h.sep m k hmk b (hφ m b hb) (hφ k b hb')
 ·intro m b hb hi
  rcases hi with hi | hi
  ·exact h.nimm m b (hφ m b hb) hi
  ·by_cases hm:m=n
   ·subst hm;rw [zbg] at hb;exact (hF b hi).2 hb
   ·rw [zba _ _ hm] at hb;exact h.sep m n hm b hb (hF b hi).1
 ·intro m b hb
  exact h.flt m b (hφ m b hb)
 ·intro m o2 ho2 hwr b hb
  by_cases hm:m=n
  ·subst hm;exact hY b (hφ m b hb)
  ·rw [zba _ _ hm] at ho2;exact h.wok m o2 ho2 hwr b (hφ m b hb)
 ·intro m sz xs ho2 b hb
  by_cases hm:m=n
  ·subst hm
   simp only [zbg,Option.some.injEq] at ho2
   exact absurd ho2 (hnf _ _)
  ·rw [zba _ _ hm] at ho2;exact h.fnew m sz xs ho2 b (hφ m b hb)
theorem RWc_RJ{I:Nat→Prop}(b:Nat):∀(o:Nat) (cs:List AV) (F:List Nat),(∀b∈F,I b)→RWc w b o cs F→RJc w I β b o cs
 | o,[],F,_,_=>trivial
 | o,c :: cs,F,hF,h=>by
  rw [RWc] at h
  obtain ⟨F1,F2,rfl,⟨v,hv,h1⟩,h2⟩:=h
  have hri:=RW_RI c v F1 (λb hb=>hF b (List.mem_append.2 (.inl hb))) h1
  exact ⟨⟨v,hv,zrq c v hri,RI_one1 c v hri⟩,RWc_RJ b (o+1) cs F2 (λb hb=>hF b (List.mem_append.2 (.inr hb))) h2⟩
theorem RWe_RJ{I:Nat→Prop}(b sz:Nat):∀(o:Nat) (xs:List (List AV)) (F:List Nat),(∀b∈F,I b)→RWe w b sz o xs F→RJe w I β b sz o xs
 | o,[],F,_,_=>trivial
 | o,x :: xs,F,hF,h=>by
  rw [RWe] at h
  obtain ⟨F1,F2,rfl,h0,h1,h2⟩:=h
  exact ⟨h0,RWc_RJ b o x F1 (λb hb=>hF b (List.mem_append.2 (.inl hb))) h1,RWe_RJ b sz (o+sz) xs F2 (λb hb=>hF b (List.mem_append.2 (.inr hb))) h2⟩
def frzO:OB→Nat→List (List AV)→Prop
 | .own s xs,sz,ys=>s=sz∧ys=xs
 | .win s xs,sz,ys=>s=sz∧ys=xs∧immR xs=true
 | .flat s xs,sz,ys=>s=sz∧ys=xs
 | _,_,_=>False
theorem LeS.frzR(n:Nat){o:OB}{sz:Nat}{xs:List (List AV)}(hf:FrzOk fs st)(hn:n∉fs)(ho:st.ob n=some o)(hx:frzO o sz xs):LeS fs st { st with ob:=upd st.ob n (some (.shared sz xs)) }:=by
 rintro C a w hfs ⟨I,β,φ,hC⟩
 cases o with
 | flat s ys =>
  obtain ⟨rfl,rfl⟩:=hx
  obtain ⟨I',-,hC'⟩:=hC.freeze ho
  exact ⟨I',β,_,hC'⟩
 | own s ys =>
  obtain ⟨rfl,rfl⟩:=hx
  obtain ⟨bl,b1,b2,b3,b4,b5,b6⟩:=hC.ob n _ ho
  refine ⟨_,β,_,hC.frzPart ho (zra hC hfs hf hn ho rfl) (hC.wok n _ ho rfl) (φ n) [] (λb hb=>⟨hb,by simp⟩) (by simp) ⟨bl,b1,b2,b3,b4,rfl,?_⟩ (by simp)⟩
  rcases b6 with ⟨h0,-⟩ | ⟨F',h1,h2,h3⟩
  ·exact .inl h0
  ·refine .inr ⟨.inr (by rw [h1];simp),?_⟩
   rw [h1]
   exact zqm _ _ _ _ F' (λb hb=>.inr (List.mem_cons_of_mem _ hb)) h3
 | win s ys =>
  obtain ⟨rfl,rfl,him⟩:=hx
  obtain ⟨bl,b1,b2,b3,b4,b5⟩:=hC.ob n _ ho
  refine ⟨_,β,_,hC.frzPart ho (zra hC hfs hf hn ho rfl) (hC.wok n _ ho rfl) (φ n) [] (λb hb=>⟨hb,by simp⟩) (by simp) ⟨bl,b1,b2,b3,b4,rfl,?_⟩ (by simp)⟩
  rcases b5 with ⟨h0,-⟩ | ⟨h1,h2,h3⟩
  ·exact .inl h0
  ·exact .inr ⟨.inr (by rw [h1];simp),zqn (λ_ h=>.inl h) _ _ him h3⟩
 | _=>exact hx.elim
theorem LeS.frzN(n:Nat){sz:Nat}{xs:List (List AV)}(hf:FrzOk fs st)(hn:n∉fs)(ho:st.ob n=some (.own sz xs)):LeS fs st { st with ob:=upd st.ob n (some (.win sz xs)) }:=by
 rintro C a w hfs ⟨I,β,φ,hC⟩
 obtain ⟨bl,b1,b2,b3,b4,b5,b6⟩:=hC.ob n _ ho
 rcases b6 with ⟨h0,h1⟩ | ⟨F',h1,h2,h3⟩
 ·exact ⟨_,β,_,hC.frzPart ho (zra hC hfs hf hn ho rfl) (hC.wok n _ ho rfl) [] [] (by simp) (by simp) ⟨bl,b1,b2,b3,b4,.inl ⟨h0,rfl⟩⟩ (by simp)⟩
 ·rw [h1] at b5
  obtain ⟨c1,c2⟩:=List.nodup_cons.1 b5
  refine ⟨_,β,_,hC.frzPart ho (zra hC hfs hf hn ho rfl) (hC.wok n _ ho rfl) F' [bl.b] (λb hb=>⟨by rw [h1];simp [hb],λe=>c1 (by rw [List.mem_singleton] at e;exact e ▸ hb)⟩) (by rw [h1];simp) ⟨bl,b1,b2,b3,b4,.inr ⟨rfl,h2,?_⟩⟩ (by simp)⟩
  exact RWe_RJ _ _ _ _ F' (λb hb=>.inr hb) h3
theorem shared_RI(hC:Conc C st a w I β φ){n off len sz:Nat}{xs:List (List AV)}(ho:st.ob n=some (.shared sz xs))(hl:off+len≤xs.length){x:Value}(hx:Rv0 w I β (.arr n off len) x):RI w I (.sl sz ((xs.drop off).take len)) x:=by
 obtain ⟨bl,b1,b2,hx⟩:=hx
 obtain ⟨bl',k1,k2,k3,k4,-,k5⟩:=hC.ob n _ ho
 rw [b1] at k1;cases k1
 rw [RI]
 have hzl:((xs.drop off).take len).length=len:=by simp;omega
 rcases hx with rfl | ⟨hcap,aa,rfl⟩
 ·refine ⟨_,_,by rw [hzl],by rw [hzl];omega,?_⟩
  rcases k5 with k5 | ⟨k5,k6⟩
  ·refine .inl (List.eq_nil_of_length_eq_zero ?_);rw [hzl];omega
  ·refine .inr ⟨bl.b,bl.o+off*bl.sz,rfl,k5,?_⟩
   rw [k3,k2]
   exact zd0 _ _ _ (zf5 _ _ _ k6)
 ·have h0:len=0:=by omega
  subst h0
  exact ⟨aa,0,by simp,by simp,.inl (by simp)⟩
theorem LeS.vwT(t n:Nat){off len sz:Nat}{xs:List (List AV)}(ht:st.env t=.arr n off len)(ho:st.ob n=some (.shared sz xs))(hl:off+len≤xs.length):LeS fs st { st with env:=upd st.env t (.sl sz ((xs.drop off).take len)) }:=by
 rintro C a w hfs ⟨I,β,φ,hC⟩
 refine ⟨I,β,φ,{ hC with env:=λk=>?_,ob:=hC.ob,dom:=hC.dom,fdom:=hC.fdom,wok:=hC.wok,fnew:=hC.fnew,dfr:=hC.dfr }⟩
 show Rv w I β (upd st.env t _ k) _
 by_cases e:k=t
 ·subst e
  rw [zbg]
  have:=hC.env k
  rw [ht] at this
  exact shared_RI hC ho hl this
 ·rw [zba _ _ e];exact hC.env k
end
theorem postOb_3(o p q:OB)(n:Nat):postOb [o,p,q] [] n=lk [(8,o),(9,p),(10,q)] n:=by
 unfold postOb
 rw [zbp,zbp,zbp,zb0]
 by_cases h:n=8
 ·subst h;simp
 ·have e:(n==8)=false:=by simpa using h
  rw [e]
  simp only [cond_false]
  by_cases h':n=9
  ·subst h';simp
  ·have e:(n==9)=false:=by simpa using h'
   rw [e]
   simp only [cond_false]
   by_cases h2:n=10
   ·subst h2;simp
   ·have e:(n==10)=false:=by simpa using h2
    rw [e]
    simp only [cond_false]
    split
    ·split
     ·rfl
     ·rw [List.getElem?_eq_none_iff];simp;omega
    ·simp
section
variable {P:Program}{nt:Nat}{fs:List Nat}{Q:AExit→St→Prop}{c:Code}
theorem cv_lk{o o':OB}(h:o=o'∨cvO o o'):(some o:Option OB)=some o'∨∃a b,(some o:Option OB)=some a∧(some o':Option OB)=some b∧cvO a b:=by
 rcases h with rfl | h
 ·exact .inl rfl
 ·exact .inr ⟨o,o',rfl,rfl,h⟩
theorem AW_y1{args:List AV}{o:OB}(o':OB)(ho:o=o'∨cvO o o')(h:AW P nt fs c Q { env:=λn=>args.getD n .undef,ob:=lk [(8,o')] }):AW P nt fs c Q (stX args [o]):=by
 refine zg2 (LeS.cv (ob':=lk [(8,o')]) λn=>?_) h
 show postOb [o] [] n=_∨∃p q,postOb [o] [] n=some p∧_
 rw [zx6]
 simp only [zbp,zb0]
 cases (n==8)
 ·exact .inl rfl
 ·exact cv_lk ho
theorem AW_y3{args:List AV}{o p q:OB}(o' p' q':OB)(ho:o=o'∨cvO o o')(hp:p=p'∨cvO p p')(hq:q=q'∨cvO q q')(h:AW P nt fs c Q { env:=λn=>args.getD n .undef,ob:=lk [(8,o'),(9,p'),(10,q')] }):AW P nt fs c Q (stX args [o,p,q]):=by
 refine zg2 (LeS.cv (ob':=lk [(8,o'),(9,p'),(10,q')]) λn=>?_) h
 show postOb [o,p,q] [] n=_∨∃a b,postOb [o,p,q] [] n=some a∧_
 rw [postOb_3]
 simp only [zbp,zb0]
 cases (n==8)
 ·cases (n==9)
  ·cases (n==10)
   ·exact .inl rfl
   ·exact cv_lk hq
  ·exact cv_lk hp
 ·exact cv_lk ho
end
section
variable {st:St}
theorem CC_repark(n pk S:Nat){s sz k j:Nat}{xs ys:List (List AV)}{x:List AV}{ps1 ps2:List (AV × Value)}
 (hn:st.ob n=some (.win sz xs)) (hp:st.ob pk=some (.park (ps1++ps2))) (hS:st.ob S=some (.own s ys)) (hx:xs[k]? = some x) (hj:x[j]? = some (.arr S 0 ys.length))
 {C:Cx} {a:Act} {w:World} (hCC:CC C st a w):∃v:Value,v.oneCell'=true∧CC C { st with ob:=upd (upd (upd st.ob S (some .dead)) pk (some (.park (ps1++(.sl s ys,v) :: ps2)))) n (some (.win sz (xs.set k (x.set j (.g v))))) } a w:=by
 obtain ⟨I,β,φ,hC⟩:=id hCC
 have hnp:n≠pk:=by rintro rfl;rw [hn] at hp;cases hp
 have hnS:n≠S:=by rintro rfl;rw [hn] at hS;cases hS
 have hpS:pk≠S:=by rintro rfl;rw [hp] at hS;cases hS
 obtain ⟨bl,b1,b2,b3,b4,b5⟩:=hC.ob _ _ hn
 obtain ⟨p1,p2⟩:=hC.ob _ _ hp
 obtain ⟨F1,F2,hF,q1,q2⟩:=zgx p2
 obtain ⟨bs,s1,s2,s3,s4,s5,s6⟩:=hC.ob _ _ hS
 have hb5:∃g1:φ n=[bl.b],OwnW w bl.b 0 (bl.cap*sz)∧RJe w I β bl.b sz 0 xs:=by
  rcases b5 with ⟨h0,-⟩ | h0
  ·exfalso
   have:k<xs.length:=(List.getElem?_eq_some_iff.1 hx).1
   omega
  ·exact ⟨h0.1,h0.2⟩
 obtain ⟨g1,g2,g3⟩:=hb5
 have g3':=(zd6 _ _).1 g3
 obtain ⟨v,hv1,hv2,hv3⟩:=(zde _ _).1 (g3' k x hx).2 j _ hj
 refine ⟨v,hv3,?_⟩
 have hrw:∃Fv:List Nat,Fv.Sublist (φ S)∧RW w (.sl s ys) v Fv:=by
  obtain ⟨bs',t1,t2,t3⟩:=hv2
  rw [s1] at t1;cases t1
  have hnil:∀a,v=.slice a 0 0→ys=[]→RW w (.sl s ys) v []:=by
   rintro a rfl rfl
   rw [RW]
   exact ⟨a,0,rfl,by simp,.inl ⟨rfl,rfl,rfl⟩⟩
  rcases s6 with ⟨c0,hF0⟩ | ⟨F',f1,f2,f3⟩
  ·have hys : ys = [] := by
    have:ys.length=0:=by omega
    simpa using this
   refine ⟨[],List.nil_sublist _,?_⟩
   rcases t3 with h3 | ⟨-,a,h3⟩
   ·exact hnil _ (h3.trans (by rw [hys,c0];rfl)) hys
   ·exact hnil a h3 hys
  ·rcases t3 with h3 | ⟨c0,a,h3⟩
   ·refine ⟨φ S,List.Sublist.refl _,?_⟩
    rw [RW]
    exact ⟨_,bs.cap,h3,s4,.inr ⟨bs.b,F',by simp [s3],f1,f2,f3⟩⟩
   ·have hys : ys = [] := by
     have:ys.length=0:=by omega
     simpa using this
    exact ⟨[],List.nil_sublist _,hnil a h3 hys⟩
 obtain ⟨Fv,hFs,hFr⟩:=hrw
 have hnv:Fv.Nodup:=s5.sublist hFs
 have hnd:(F1++(Fv++F2)).Nodup:=by
  rw [hF] at p1
  obtain ⟨d1,d2,d3⟩:=List.nodup_append.1 p1
  have hx1:∀b∈Fv,∀b'∈F1++F2,b≠b':=by
   rintro b hb b' hb' rfl
   exact hC.sep S pk (Ne.symm hpS) b (hFs.subset hb) (by rw [hF];exact hb')
  refine List.nodup_append.2 ⟨d1,List.nodup_append.2 ⟨hnv,d2,λa ha b hb=>hx1 a ha b (List.mem_append.2 (.inr hb))⟩,λa ha b hb=>?_⟩
  rcases List.mem_append.1 hb with hb | hb
  ·exact λe=>hx1 b hb a (List.mem_append.2 (.inl ha)) e.symm
  ·exact d3 a ha b hb
 refine ⟨I,β,upd (upd φ S []) pk (F1++(Fv++F2)),?_⟩
 have hm:∀m b,b∈upd (upd φ S []) pk (F1++(Fv++F2)) m→(m=pk∧(b∈φ pk∨b∈φ S))∨(m≠pk∧m≠S∧b∈φ m):=by
  intro m b hb
  by_cases e1:m=pk
  ·subst e1;rw [zbg] at hb
   refine .inl ⟨rfl,?_⟩
   rw [hF]
   rcases List.mem_append.1 hb with h | h
   ·exact .inl (by simp [h])
   ·rcases List.mem_append.1 h with h | h
    ·exact .inr (hFs.subset h)
    ·exact .inl (by simp [h])
  ·rw [zba _ _ e1] at hb
   by_cases e2:m=S
   ·subst e2;simp [zbg] at hb
   ·rw [zba _ _ e2] at hb;exact .inr ⟨e1,e2,hb⟩
 have hdom:∀m,upd (upd (upd st.ob S (some OB.dead)) pk (some (OB.park (ps1++(.sl s ys,v) :: ps2)))) n (some (OB.win sz (xs.set k (x.set j (.g v))))) m=none→m≠n∧m≠pk∧m≠S∧st.ob m=none:=by
  intro m ho
  by_cases e1:m=n
  ·subst e1;simp [zbg] at ho
  ·rw [zba _ _ e1] at ho
   by_cases e2:m=pk
   ·subst e2;simp [zbg] at ho
   ·rw [zba _ _ e2] at ho
    by_cases e3:m=S
    ·subst e3;simp [zbg] at ho
    ·rw [zba _ _ e3] at ho;exact ⟨e1,e2,e3,ho⟩
 refine hC.move (λ_=>False) (Evo.refl _ w) (λ_ hf=>hf.elim) (λ_ hb=>hb) (λ_ hb=>.inl hb) (λ_ _ h=>h) ?_ ?_ ?_ ?_ ?_ ?_ ?_ ?_
 ·intro m o ho
  by_cases e1:m=n
  ·subst e1
   simp only [zbg,Option.some.injEq] at ho
   subst ho
   right
   rw [zba _ _ hnp,zba _ _ hnS]
   refine ⟨bl,b1,b2,b3,by simpa using b4,.inr ⟨g1,g2,?_⟩⟩
   rw [zd6]
   intro i x' hx'
   rw [List.getElem?_set] at hx'
   by_cases hk:k=i
   ·subst hk
    obtain ⟨f1,f2⟩:=g3' k x hx
    rw [if_pos rfl] at hx'
    split at hx'
    ·cases hx'
     refine ⟨by simpa using f1,?_⟩
     rw [zde] at f2 ⊢
     intro jj d hd
     rw [List.getElem?_set] at hd
     by_cases hjj:j=jj
     ·subst hjj
      rw [if_pos rfl] at hd
      split at hd
      ·cases hd
       exact ⟨v,hv1,rfl,hv3⟩
      ·cases hd
     ·rw [if_neg hjj] at hd
      exact f2 jj d hd
    ·cases hx'
   ·rw [if_neg hk] at hx'
    exact g3' i x' hx'
  ·rw [zba _ _ e1] at ho
   by_cases e2:m=pk
   ·subst e2
    simp only [zbg,Option.some.injEq] at ho
    subst ho
    exact .inr (by rw [zbg];exact ⟨hnd,(zje _ _ _).2 ⟨F1,Fv++F2,rfl,q1,Fv,F2,rfl,hFr,q2⟩⟩)
   ·rw [zba _ _ e2] at ho
    by_cases e3:m=S
    ·subst e3
     simp only [zbg,Option.some.injEq] at ho
     subst ho
     exact .inr (by rw [zba _ _ e2,zbg];rfl)
    ·rw [zba _ _ e3] at ho
     exact .inl ⟨ho,by rw [zba _ _ e2,zba _ _ e3],λ_ _ hf=>hf⟩
 ·intro m ho
  exact hC.dom m (hdom m ho).2.2.2
 ·intro m ho
  obtain ⟨e1,e2,e3,e4⟩:=hdom m ho
  rw [zba _ _ e2,zba _ _ e3];exact hC.fdom m e4
 ·intro m m' hmm b hb hb'
  rcases hm m b hb with ⟨rfl,g⟩ | ⟨e1,e2,g⟩
  ·rcases hm m' b hb' with ⟨rfl,-⟩ | ⟨e3,e4,g'⟩
   ·exact hmm rfl
   ·rcases g with g | g
    ·exact hC.sep m m' hmm b g g'
    ·exact hC.sep S m' (Ne.symm e4) b g g'
  ·rcases hm m' b hb' with ⟨rfl,g'⟩ | ⟨e3,e4,g'⟩
   ·rcases g' with g' | g'
    ·exact hC.sep m m' hmm b g g'
    ·exact hC.sep m S e2 b g g'
   ·exact hC.sep m m' hmm b g g'
 ·intro m b hb
  rcases hm m b hb with ⟨-,g | g⟩ | ⟨-,-,g⟩
  ·exact hC.nimm pk b g
  ·exact hC.nimm S b g
  ·exact hC.nimm m b g
 ·intro m b hb
  rcases hm m b hb with ⟨-,g | g⟩ | ⟨-,-,g⟩
  ·exact hC.flt pk b g
  ·exact hC.flt S b g
  ·exact hC.flt m b g
 ·intro m o ho hwr b hb
  rcases hm m b hb with ⟨-,g | g⟩ | ⟨e1,e2,g⟩
  ·exact hC.wok pk _ hp rfl b g
  ·exact hC.wok S _ hS rfl b g
  ·by_cases e3:m=n
   ·subst e3;exact hC.wok m _ hn rfl b g
   ·rw [zba _ _ e3,zba _ _ e1,zba _ _ e2] at ho
    exact hC.wok m o ho hwr b g
 ·intro m s' ys' ho b hb
  by_cases e3:m=n
  ·subst e3;simp [zbg] at ho
  ·rw [zba _ _ e3] at ho
   by_cases e1:m=pk
   ·subst e1;simp [zbg] at ho
   ·rw [zba _ _ e1] at ho
    by_cases e2:m=S
    ·subst e2;simp [zbg] at ho
    ·rw [zba _ _ e2] at ho
     rcases hm m b hb with ⟨e,-⟩ | ⟨-,-,g⟩
     ·exact (e1 e).elim
     ·exact hC.fnew m s' ys' ho b g
end
end Go.Proofs.YtodmafgmdlkhoaaGreat.Vs
end
section
open Go Go.Proofs Go.Sort
namespace Go.Proofs.YtodmafgmdlkhoaaGreat.Vs
set_option linter.all false
set_option linter.unusedSimpArgs false
set_option linter.unusedVariables false
theorem zzc{W w':World}(h:Evo (λ_=>False) W w'):∃q os',w'=grow (W.drewN q) os':=by
 obtain ⟨h1,h2,h3,h4,h5,h6⟩:=h
 refine ⟨w'.drawn-W.drawn,w'.heap.extract W.heap.size w'.heap.size,?_⟩
 obtain ⟨heap,tape,drawn,os,out⟩:=w'
 simp only at h1 h2 h3 h4 h5 h6
 subst h1 h2 h3
 simp only [grow,World.drewN,World.mk.injEq,and_true,true_and]
 refine ⟨?_,by omega⟩
 refine Array.ext (by simp;omega) λi hi1 hi2=>?_
 by_cases e:i<W.heap.size
 ·rw [Array.getElem_append_left e]
  have:=h5 i e (λh=>h)
  rw [Array.getElem?_eq_getElem hi1,Array.getElem?_eq_getElem e] at this
  exact Option.some.inj this
 ·rw [Array.getElem_append_right (by omega)]
  simp only [Array.getElem_extract]
  congr 1
  omega
section
variable {α:Type}[Inhabited α]
def gCells(enc:α→List Value)(x:α):List AV:=(enc x).map AV.g
theorem RWc_g{w:World}{b:Nat}:∀(vs:List Value) (o:Nat) (F:List Nat),(∀v∈vs,v.oneCell'=true)→(RWc w b o (vs.map AV.g) F↔F=[]∧∀c,(h:c<vs.length)→w.cell? ⟨b,o+c,none⟩=some vs[c])
 | [],o,F,_=>by simp [RWc]
 | v :: vs,o,F,h1=>by
  have ih:=λF=>RWc_g (w:=w) (b:=b) vs (o+1) F λv hv=>h1 v (List.mem_cons_of_mem _ hv)
  simp only [List.map_cons,RWc,RW,ih]
  constructor
  ·rintro ⟨F1,F2,rfl,⟨x,hx,rfl,-,rfl⟩,rfl,h2⟩
   refine ⟨rfl,λj hj=>?_⟩
   cases j with
   | zero=>simpa using hx
   | succ j =>
    have:=h2 j (by simpa using hj)
    rw [show o+(j+1)=o+1+j by omega]
    simpa using this
  ·rintro ⟨rfl,h⟩
   refine ⟨[],[],rfl,⟨v,by have:=h 0 (by simp);rw [List.getElem_cons_zero] at this;simpa using this,rfl,h1 v List.mem_cons_self,rfl⟩,rfl,λj hj=>?_⟩
   have:=h (j+1) (by simpa using hj)
   rw [show o+(j+1)=o+1+j by omega] at this
   simpa using this
theorem RWe_g{w:World}{b k:Nat}{enc:α→List Value}(hk:∀x,(enc x).length=k)(h1:∀x,∀v∈enc x,v.oneCell'=true):∀(l:List α) (o:Nat) (F:List Nat),RWe w b k o (l.map (gCells enc)) F↔F=[]∧∀j,(hj:j<l.length)→∀c,(hc:c<k)→w.cell? ⟨b,o+(j*k+c),none⟩=some ((enc l[j])[c]'(by rw [hk];exact hc))
 | [],o,F=>by simp [RWe]
 | x :: l,o,F=>by
  have ih:=λF=>RWe_g (w:=w) (b:=b) hk h1 l (o+k) F
  simp only [List.map_cons,RWe,ih,gCells,RWc_g _ _ _ (h1 x),List.length_map,hk,true_and]
  constructor
  ·rintro ⟨F1,F2,rfl,⟨rfl,h2⟩,rfl,h3⟩
   refine ⟨rfl,λj hj c hc=>?_⟩
   cases j with
   | zero=>simpa using h2 c (by rw [hk];exact hc)
   | succ j =>
    have:=h3 j (by simpa using hj) c hc
    rw [show o+((j+1)*k+c)=o+k+(j*k+c) by rw [Nat.add_mul];omega]
    simpa using this
  ·rintro ⟨rfl,h⟩
   refine ⟨[],[],rfl,⟨rfl,λc hc=>?_⟩,rfl,λj hj c hc=>?_⟩
   ·have:=h 0 (by simp) c hc
    simpa using this
   ·have:=h (j+1) (by simpa using hj) c hc
    rw [show o+((j+1)*k+c)=o+k+(j*k+c) by rw [Nat.add_mul];omega] at this
    simpa using this
theorem zs6{w:World}{b k:Nat}{enc:α→List Value}(hk:∀x,(enc x).length=k){l:List α}(h:∀j,(hj:j<l.length)→∀c,(hc:c<k)→w.cell? ⟨b,0+(j*k+c),none⟩=some ((enc l[j])[c]'(by rw [hk];exact hc)))(hf:∀o,w.frozen? ⟨b,o,none⟩=false):HoldsK enc k w b 0 l.toArray:=by
 intro t ht
 rw [size_flatK] at ht
 refine ⟨?_,hf _⟩
 have ht':t<l.length*k:=by simpa using ht
 have hk0:0<k:=Nat.pos_of_ne_zero λe=>by subst e;simp at ht'
 have hj:t / k<l.length:=Nat.div_lt_of_lt_mul (by rw [Nat.mul_comm];exact ht')
 have hc:t % k<k:=Nat.mod_lt _ hk0
 rw [get_flatK _ _ _ _ (by simpa using ht')]
 have:=h (t / k) hj (t % k) hc
 have e:t / k*k+t % k=t:=by rw [Nat.mul_comm];exact Nat.div_add_mod t k
 rw [e] at this
 rw [this]
 have hj2:t / k<l.toArray.size:=by simpa using hj
 have e2:l.toArray[t / k]! = l[t / k]:=by rw [getElem!_pos l.toArray (t / k) hj2];simp
 show some _=some (id _)
 have hc2:t % k<(enc l[t / k]).length:=by rw [hk];exact hc
 rw [e2,getElem!_pos (enc l[t / k]) (t % k) hc2]
 rfl
theorem cmpLays_of{P:Program}{g:FuncId}{k:Nat}{enc:α→List Value}{cf:α→α→Int}(hcmp:∀x y,PCall P g [.agg (gCells enc x),.agg (gCells enc y)] (.g (.int .i64 (cf x y))))(blk off size:Nat)(w:World):CmpLays P g #[] enc k cf blk off size w:=by
 intro m os dk hsz x y
 obtain ⟨-,hG⟩:=hcmp x y
 have hr:∀(W:World) (z:α),Rv2 W (λ_=>False) (λ_=>none) (.agg (gCells enc z)) (.agg (enc z).toArray):=λW z=>by
  refine ⟨enc z,rfl,?_⟩
  unfold gCells
  induction enc z with
  | nil=>rfl
  | cons v vs ih=>exact ⟨v,vs,rfl,rfl,ih⟩
 have:=hG (sortWorldK enc k w blk off m dk os) (λ_=>False) (λ_=>none) [.agg (enc x).toArray,.agg (enc y).toArray] (by simp) ⟨_,_,rfl,hr _ x,_,_,rfl,hr _ y,rfl⟩ (by simp) (by simp) (by simp) (by simp) (by simp)
 refine Calls.mono this ?_
 rintro e w' ⟨v,I',rfl,hE,-,-,hv,-⟩
 have hv':v=.int .i64 (cf x y):=hv
 subst hv'
 exact ⟨rfl,zzc (hE.mono λb _ h=>by obtain ⟨i,bl,hi,-⟩:=h;simp at hi)⟩
theorem zwj{P:Program}{g:FuncId}{k:Nat}{enc:α→List Value}{cf:α→α→Int}{cs:List AV}(hcs:cs.all plain1=true)(hcmp:∀x y,GCall P g [.agg (gCells enc x),.agg (gCells enc y),.ptr 0 0] [cs] [] (.g (.int .i64 (cf x y))) [])(blk off size:Nat)(w:World)(I:Nat→Prop)(bl:Bl)(hI:∀b,I b→b<w.heap.size∧b≠blk)(hb:¬I bl.b)(hbs:bl.b<w.heap.size)(hne:bl.b≠blk)(hblk:blk<w.heap.size)(hc:Rcs w I (λ_=>none) bl.b bl.o cs):CmpLays P g #[.pointer (some ⟨bl.b,bl.o+0,none⟩)] enc k cf blk off size w:=by
 intro m os dk hsz x y
 obtain ⟨-,hG⟩:=hcmp x y
 have hheap:∀b,b<w.heap.size→b≠blk→(sortWorldK enc k w blk off m dk os).heap[b]? = w.heap[b]?:=by
  intro b hb hn
  unfold sortWorldK
  rw [heap_grow_old _ _ (by simpa [putRowK,putRow,mapBlock,Sort.ahead] using hb)]
  simp [putRowK,putRow,mapBlock,Sort.ahead,Array.getElem?_modify,hn.symm]
 have hsize:w.heap.size≤(sortWorldK enc k w blk off m dk os).heap.size:=size_sortWorldK_c enc k w blk off m dk os
 generalize hW:sortWorldK enc k w blk off m dk os=W at *
 have hr:∀(z:α) (β:Beta),Rv2 W I β (.agg (gCells enc z)) (.agg (enc z).toArray):=λz β=>by
  refine ⟨enc z,rfl,?_⟩
  unfold gCells
  induction enc z with
  | nil=>rfl
  | cons v vs ih=>exact ⟨v,vs,rfl,rfl,ih⟩
 have hRcs:∀(cs:List AV) (o:Nat) (β:Beta),cs.all plain1=true→Rcs w I (λ_=>none) bl.b o cs→Rcs W I β bl.b o cs:=by
  intro cs
  induction cs with
  | nil=>intro o β _ _;trivial
  | cons c cs ih =>
   intro o β hp h
   simp only [List.all_cons,Bool.and_eq_true] at hp
   obtain ⟨⟨v,hv,h1⟩,h2⟩:=h
   refine ⟨⟨v,?_,?_⟩,ih (o+1) β hp.2 h2⟩
   ·rw [←hv]
    simp [World.cell?,hheap bl.b hbs hne]
   ·have h3:Rv1 W I (λ_=>none) c v:=zc1 (λ_ h=>h) (λb hb=>hheap b (hI b hb).1 (hI b hb).2) (λn bl h=>by cases h) c v h1
    cases c<;>first | exact h3 | simp [plain1] at hp
 let βc:Beta:=λn=>if n=0 then some bl else none
 have:=hG W I βc [.agg (enc x).toArray,.agg (enc y).toArray,.pointer (some ⟨bl.b,bl.o+0,none⟩)] (λb h=>Nat.lt_of_lt_of_le (hI b h).1 hsize) ⟨_,_,rfl,hr x _,_,_,rfl,hr y _,_,_,rfl,⟨bl,rfl,rfl⟩,rfl⟩ (by simp)
  (λn hn=>by show (if n=0 then some bl else none)=none;rw [if_neg (λe=>hn (.inl (by subst e;simp)))])
  (λi cs' h=>by
   cases i with
   | zero =>
    simp only [List.getElem?_cons_zero,Option.some.injEq] at h
    subst h
    exact ⟨bl,rfl,hb,Nat.lt_of_lt_of_le hbs hsize,hRcs _ _ _ hcs hc⟩
   | succ i=>simp at h)
  (by simp)
  (λn m' b1 b2 hnm h1 h2=>by
   have e1:n=0:=by
    refine Classical.byContradiction λe=>?_
    have:βc n=none:=if_neg e
    rw [this] at h1;cases h1
   have e2:m'=0:=by
    refine Classical.byContradiction λe=>?_
    have:βc m'=none:=if_neg e
    rw [this] at h2;cases h2
   exact absurd (e1.trans e2.symm) hnm)
 refine Calls.mono this ?_
 rintro e w' ⟨v,I',rfl,hE,-,-,hv,-⟩
 have hv':v=.int .i64 (cf x y):=hv
 subst hv'
 exact ⟨rfl,zzc (hE.mono λb _ h=>by obtain ⟨i,bl,hi,-⟩:=h;simp at hi)⟩
def srt(cf:α→α→Int)(l:List α):List α:=l.mergeSort λx y=>!(ltOf cf) y x
theorem znl(cf:α→α→Int)(l:List α):(srt cf l).length=l.length:=List.length_mergeSort _
theorem zk0(enc:α→List Value)(k:Nat)(w:World)(blk n:Nat)(d:Array α)(os:Array Obj)(b:Nat)(hb:b<w.heap.size)(hn:b≠blk):(sortWorldK enc k w blk 0 n d os).heap[b]? = w.heap[b]?:=by
 unfold sortWorldK
 rw [heap_grow_old _ _ (by simpa [putRowK,putRow,mapBlock,Sort.ahead] using hb)]
 simp [putRowK,putRow,mapBlock,Sort.ahead,Array.getElem?_modify,hn.symm]
theorem znm{enc:α→List Value}{k:Nat}{w:World}{blk n:Nat}{d:Array α}{os:Array Obj}{arr:Array Value}{ty:TypeId}(hb:blk<w.heap.size)(h:w.heap[blk]? = some (.cells arr ty (0,0))):(sortWorldK enc k w blk 0 n d os).heap[blk]? = some (.cells (putCells id 0 (flatK enc k d) arr) ty (0,0)):=by
 unfold sortWorldK
 rw [heap_grow_old _ _ (by simpa [putRowK,putRow,mapBlock,Sort.ahead] using hb)]
 simp [putRowK,putRow,mapBlock,Sort.ahead,Array.getElem?_modify,h,onCells]
theorem zj0(enc:α→List Value)(k:Nat)(w:World)(blk n:Nat)(d:Array α)(os:Array Obj):Evo (λb=>b=blk) w (sortWorldK enc k w blk 0 n d os):=by
 refine ⟨rfl,rfl,rfl,?_,λb hb hn=>zk0 enc k w blk n d os b hb hn,?_⟩
 ·simp [sortWorldK,putRowK,putRow,mapBlock,Sort.ahead,grow]
 ·simp [sortWorldK,putRowK,putRow,mapBlock,Sort.ahead,grow]
theorem znn{enc:α→List Value}{k:Nat}(hk:∀x,(enc x).length=k){w:World}{blk n:Nat}{l:List α}{os:Array Obj}{arr:Array Value}{ty:TypeId}(hb:blk<w.heap.size)(h:w.heap[blk]? = some (.cells arr ty (0,0)))(hs:l.length*k≤arr.size)(j:Nat)(hj:j<l.length)(c:Nat)(hc:c<k):(sortWorldK enc k w blk 0 n l.toArray os).cell? ⟨blk,0+(j*k+c),none⟩=some ((enc l[j])[c]'(by rw [hk];exact hc)):=by
 have h2:=znm (enc:=enc) (k:=k) (n:=n) (d:=l.toArray) (os:=os) hb h
 have hlt:j*k+c<l.length*k:=by
  have:(j+1)*k≤l.length*k:=Nat.mul_le_mul_right _ (by omega)
  rw [Nat.add_mul] at this
  omega
 have hd:(j*k+c) / k=j:=by
  rw [Nat.mul_comm,Nat.mul_add_div (by omega),Nat.div_eq_of_lt hc,Nat.add_zero]
 have hm:(j*k+c) % k=c:=by
  rw [Nat.mul_comm,Nat.mul_add_mod,Nat.mod_eq_of_lt hc]
 have hg:=get_flatK enc k l.toArray (j*k+c) (by simpa using hlt)
 rw [hd,hm] at hg
 have hj2:j<l.toArray.size:=by simpa using hj
 have e2:l.toArray[j]! = l[j]:=by rw [getElem!_pos l.toArray j hj2];simp
 have hc2:c<(enc l[j]).length:=by rw [hk];exact hc
 rw [e2,getElem!_pos (enc l[j]) c hc2] at hg
 have hlt2:j*k+c<arr.size:=by omega
 simp only [World.cell?,h2,Nat.zero_add]
 rw [getElem!_pos _ _ (by simpa using hlt)] at hg
 simp [putCells,hlt2,hlt,hg]
theorem sortFX_of {P : Program} {f g : FuncId} {k : Nat} {enc : α → List Value} (hk : ∀ x, (enc x).length = k) (h1 : ∀ x, ∀ v ∈ enc x, v.oneCell' = true) {cf : α → α → Int} (hf : ∃ fn, P.funcs[f]? = some fn ∧ (fn.name == "runtime.NumGoroutine") = false ∧ fn.body.isNone = false)
 (hc:∀(cb:Array Value) (blk cap:Nat) (d:Array α) (w:World),CmpLays P g cb enc k cf blk 0 d.size w→HoldsK enc k w blk 0 d→blk<w.heap.size→d.size<4611686018427387904→Calls P f #[.slice (some ⟨blk,0,none⟩) d.size cap,.func (.func g) #[] cb] w λe w'=>e=.returned (.tuple #[])∧∃n os,w'=sortWorldK enc k w blk 0 n (d.toList.mergeSort λx y=>!(ltOf cf) y x).toArray os)
 (h0:∀(p:Option Addr) (cap:Nat) (fv:Value) (w:World),Calls P f #[.slice p 0 cap,fv] w λe w'=>e=.returned (.tuple #[])∧w'=w)
 (hcmp:∀x y,PCall P g [.agg (gCells enc x),.agg (gCells enc y)] (.g (.int .i64 (cf x y)))) (l:List α) (hl:l.length≤1048576) :
 XCall P f [.arr 8 0 l.length,.fn g [] []] [.own k (l.map (gCells enc))] (.tup []) [.own k ((srt cf l).map (gCells enc))] []:=by
 refine ⟨hf,rfl,by simp,by simp [OB.xk],?_⟩
 intro w I β χ vs hI hargs hn ho hsep hχ
 have h8:∀xs:List (List AV),postOb [.own k xs] [] 8=some (.own k xs):=λxs=>by simp [postOb]
 have hother:∀(xs ys:List (List AV)) n,n≠8→postOb [.own k xs] [] n=postOb [.own k ys] [] n:=by
  intro xs ys n hne
  unfold postOb
  split
  ·split
   ·rfl
   ·rw [List.getElem?_eq_none (by simp;omega),List.getElem?_eq_none (by simp;omega)]
  ·simp
 obtain ⟨bl,hb,hsz,hbo,hle,hnd,hF⟩:=ho 8 _ (h8 _)
 obtain ⟨v,vs',rfl,ha,fv,vs'',rfl,hfv,rfl⟩:=hargs
 obtain ⟨bl',hb',hle',hv⟩:=ha
 rw [hb] at hb'
 obtain rfl:=Option.some.inj hb'
 obtain ⟨fs,us,rfl,rfl,rfl⟩:=hfv
 by_cases hnil:l=[]
 ·subst hnil
  have hv':∃p c,v=.slice p 0 c:=by
   rcases hv with rfl | ⟨-,a,rfl⟩
   ·exact ⟨_,_,rfl⟩
   ·exact ⟨_,_,rfl⟩
  obtain ⟨p,c,rfl⟩:=hv'
  refine Calls.mono (h0 p c _ w) ?_
  rintro e w' ⟨rfl,rfl⟩
  have e:srt cf ([]:List α)=[]:=by unfold srt;simp
  rw [e]
  exact ⟨_,I,β,χ,rfl,Evo.refl _ _,λ_ h=>h,λ_ h=>.inl h,⟨[],rfl,rfl⟩,λ_ _ h=>h,hn,ho,hsep,λn b h=>⟨(hχ n b h).1,(hχ n b h).2,.inl ⟨n,h⟩⟩⟩
 ·have hpos:0<l.length:=List.length_pos_iff.2 hnil
  simp only [List.length_map] at hle
  have hcap:bl.cap≠0:=by omega
  rcases hF with ⟨h,-⟩ | ⟨F',hχ8,⟨arr,ty,hheap,hsize⟩,hJ⟩
  ·exact absurd h hcap
  rcases hv with rfl | ⟨h,-⟩
  case inr=>exact absurd h.symm hcap
  have hbs:bl.b<w.heap.size:=(hχ 8 bl.b (by rw [hχ8];simp)).2
  have hbI:¬I bl.b:=(hχ 8 bl.b (by rw [hχ8];simp)).1
  rw [RWe_g hk h1] at hJ
  obtain ⟨rfl,hJ⟩:=hJ
  have hH:HoldsK enc k w bl.b 0 l.toArray:=zs6 hk hJ λo=>by simp [World.frozen?,hheap]
  have hcl0:=cmpLays_of (k:=k) hcmp bl.b 0 l.toArray.size w
  have hcl:=hc #[] bl.b bl.cap l.toArray w hcl0 hH hbs (by simp;omega)
  have hargE:(⟨[Value.slice (some ⟨bl.b,bl.o+0*bl.sz,none⟩) l.length (bl.cap-0),Value.func (.func g) ⟨[]⟩ ⟨[]⟩]⟩:Array Value) = #[.slice (some ⟨bl.b,0,none⟩) l.toArray.size bl.cap,.func (.func g) #[] #[]]:=by simp [hbo]
  rw [hargE]
  refine Calls.mono hcl ?_
  rintro e w' ⟨rfl,n,os,rfl⟩
  rw [show (l.toArray.toList.mergeSort λx y=>!(ltOf cf) y x)=srt cf l from rfl]
  have hSl:=znl cf l
  have hsz2:(srt cf l).length*k≤arr.size:=by
   rw [hSl]
   have:=Nat.mul_le_mul_right k hle
   omega
  refine ⟨_,I,β,χ,rfl,(zj0 enc k w bl.b n _ os).mono λb _ h=>⟨8,by rw [hχ8,h];simp⟩,λ_ h=>h,λ_ h=>.inl h,⟨[],rfl,rfl⟩,λ_ _ h=>h,?_,?_,hsep,?_⟩
  ·intro m h
   by_cases hm:m=8
   ·subst hm;rw [h8] at h;cases h
   ·exact hn m (by rw [hother _ _ m hm] at h;exact h)
  ·intro m o h
   by_cases hm:m=8
   ·subst hm
    rw [h8] at h
    obtain rfl:=Option.some.inj h
    refine ⟨bl,hb,hsz,hbo,by simpa [hSl] using hle,hnd,.inr ⟨[],hχ8,⟨_,_,znm hbs hheap,?_⟩,?_⟩⟩
    ·simpa [putCells] using hsize
    ·rw [RWe_g hk h1]
     exact ⟨rfl,λj hj c hc=>znn hk hbs hheap hsz2 j hj c hc⟩
   ·have h3:=h
    unfold postOb at h3
    split at h3
    ·split at h3
     ·cases h3
     ·rw [List.getElem?_eq_none (by simp;omega)] at h3;cases h3
    ·simp at h3
  ·intro m b h
   refine ⟨(hχ m b h).1,?_,.inl ⟨m,h⟩⟩
   have:=(hχ m b h).2
   have h2:=(zj0 enc k w bl.b n (srt cf l).toArray os).size
   omega
theorem sortFX1_of {P : Program} {f g : FuncId} {k : Nat} {enc : α → List Value} (hk : ∀ x, (enc x).length = k) (h1 : ∀ x, ∀ v ∈ enc x, v.oneCell' = true) {cf : α → α → Int} (hf : ∃ fn, P.funcs[f]? = some fn ∧ (fn.name == "runtime.NumGoroutine") = false ∧ fn.body.isNone = false)
 (hc:∀(cb:Array Value) (blk cap:Nat) (d:Array α) (w:World),CmpLays P g cb enc k cf blk 0 d.size w→HoldsK enc k w blk 0 d→blk<w.heap.size→d.size<4611686018427387904→Calls P f #[.slice (some ⟨blk,0,none⟩) d.size cap,.func (.func g) #[] cb] w λe w'=>e=.returned (.tuple #[])∧∃n os,w'=sortWorldK enc k w blk 0 n (d.toList.mergeSort λx y=>!(ltOf cf) y x).toArray os)
 (h0:∀(p:Option Addr) (cap:Nat) (fv:Value) (w:World),Calls P f #[.slice p 0 cap,fv] w λe w'=>e=.returned (.tuple #[])∧w'=w)
 {cs:List AV} (hcs:cs.all plain1=true) (hcmp:∀x y,GCall P g [.agg (gCells enc x),.agg (gCells enc y),.ptr 0 0] [cs] [] (.g (.int .i64 (cf x y))) []) (l:List α) (hl:l.length≤1048576) :
 XCall P f [.arr 9 0 l.length,.fn g [] [.ptr 8 0]] [.cells cs,.own k (l.map (gCells enc))] (.tup []) [.cells cs,.own k ((srt cf l).map (gCells enc))] []:=by
 refine ⟨hf,rfl,by simp,by simp [OB.xk],?_⟩
 intro w I β χ vs hI hargs hn ho hsep hχ
 have h8:∀xs:List (List AV),postOb [.cells cs,.own k xs] [] 9=some (.own k xs):=λxs=>by simp [postOb]
 have hother:∀(xs ys:List (List AV)) n,n≠9→postOb [.cells cs,.own k xs] [] n=postOb [.cells cs,.own k ys] [] n:=by
  intro xs ys n hne
  unfold postOb
  split
  ·split
   ·rfl
   ·rename_i h1 h2
    obtain ⟨j,hj⟩:∃j,n-8=j:=⟨_,rfl⟩
    match j,hj with
    | 0,hj=>rw [hj];rfl
    | 1,hj=>omega
    | j+2,hj=>rw [hj];simp
  ·simp
 obtain ⟨bl,hb,hsz,hbo,hle,hnd,hF⟩:=ho 9 _ (h8 _)
 obtain ⟨v,vs',rfl,ha,fv,vs'',rfl,hfv,rfl⟩:=hargs
 obtain ⟨bl',hb',hle',hv⟩:=ha
 rw [hb] at hb'
 obtain rfl:=Option.some.inj hb'
 obtain ⟨fs,us,rfl,rfl,⟨u0,us0,rfl,⟨bc',hbc',rfl⟩,rfl⟩⟩:=hfv
 by_cases hnil:l=[]
 ·subst hnil
  have hv':∃p c,v=.slice p 0 c:=by
   rcases hv with rfl | ⟨-,a,rfl⟩
   ·exact ⟨_,_,rfl⟩
   ·exact ⟨_,_,rfl⟩
  obtain ⟨p,c,rfl⟩:=hv'
  refine Calls.mono (h0 p c _ w) ?_
  rintro e w' ⟨rfl,rfl⟩
  have e:srt cf ([]:List α)=[]:=by unfold srt;simp
  rw [e]
  exact ⟨_,I,β,χ,rfl,Evo.refl _ _,λ_ h=>h,λ_ h=>.inl h,⟨[],rfl,rfl⟩,λ_ _ h=>h,hn,ho,hsep,λn b h=>⟨(hχ n b h).1,(hχ n b h).2,.inl ⟨n,h⟩⟩⟩
 ·have hpos:0<l.length:=List.length_pos_iff.2 hnil
  simp only [List.length_map] at hle
  have hcap:bl.cap≠0:=by omega
  rcases hF with ⟨h,-⟩ | ⟨F',hχ8,⟨arr,ty,hheap,hsize⟩,hJ⟩
  ·exact absurd h hcap
  rcases hv with rfl | ⟨h,-⟩
  case inr=>exact absurd h.symm hcap
  have hbs:bl.b<w.heap.size:=(hχ 9 bl.b (by rw [hχ8];simp)).2
  have hbI:¬I bl.b:=(hχ 9 bl.b (by rw [hχ8];simp)).1
  rw [RWe_g hk h1] at hJ
  obtain ⟨rfl,hJ⟩:=hJ
  have hH:HoldsK enc k w bl.b 0 l.toArray:=zs6 hk hJ λo=>by simp [World.frozen?,hheap]
  obtain ⟨bc,hbc,hFc,hOw,hRc⟩:=ho 8 (.cells cs) (by simp [postOb])
  rw [hbc] at hbc'
  obtain rfl:=Option.some.inj hbc'
  have hbcs:=(hχ 8 bc.b (by rw [hFc];simp)).2
  have hbcI:=(hχ 8 bc.b (by rw [hFc];simp)).1
  have hbne:bc.b≠bl.b:=λe=>hsep 8 9 (by decide) bc.b (by rw [hFc];simp) (by rw [hχ8,e];simp)
  have hRn:∀(cs:List AV) (o:Nat),cs.all plain1=true→Rcs w I β bc.b o cs→Rcs w I (λ_=>none) bc.b o cs:=by
   intro cs
   induction cs with
   | nil=>intro o _ _;trivial
   | cons c cs ih =>
    intro o hp h
    simp only [List.all_cons,Bool.and_eq_true] at hp
    obtain ⟨⟨v,hv,h1⟩,h2⟩:=h
    refine ⟨⟨v,hv,?_⟩,ih (o+1) hp.2 h2⟩
    cases c<;>first | exact h1 | simp [plain1] at hp
  have hcl0:=zwj (k:=k) hcs hcmp bl.b 0 l.toArray.size w I bc (λb hb=>⟨hI b hb,λe=>hbI (e ▸ hb)⟩) hbcI hbcs hbne hbs (hRn cs _ hcs hRc)
  have hcl:=hc #[.pointer (some ⟨bc.b,bc.o+0,none⟩)] bl.b bl.cap l.toArray w hcl0 hH hbs (by simp;omega)
  have hargE:(⟨[Value.slice (some ⟨bl.b,bl.o+0*bl.sz,none⟩) l.length (bl.cap-0),Value.func (.func g) ⟨[]⟩ ⟨[.pointer (some ⟨bc.b,bc.o+0,none⟩)]⟩]⟩:Array Value) = #[.slice (some ⟨bl.b,0,none⟩) l.toArray.size bl.cap,.func (.func g) #[] #[.pointer (some ⟨bc.b,bc.o+0,none⟩)]]:=by simp [hbo]
  rw [hargE]
  refine Calls.mono hcl ?_
  rintro e w' ⟨rfl,n,os,rfl⟩
  rw [show (l.toArray.toList.mergeSort λx y=>!(ltOf cf) y x)=srt cf l from rfl]
  have hSl:=znl cf l
  have hsz2:(srt cf l).length*k≤arr.size:=by
   rw [hSl]
   have:=Nat.mul_le_mul_right k hle
   omega
  refine ⟨_,I,β,χ,rfl,(zj0 enc k w bl.b n _ os).mono λb _ h=>⟨9,by rw [hχ8,h];simp⟩,λ_ h=>h,λ_ h=>.inl h,⟨[],rfl,rfl⟩,λ_ _ h=>h,?_,?_,hsep,?_⟩
  ·intro m h
   by_cases hm:m=9
   ·subst hm;rw [h8] at h;cases h
   ·exact hn m (by rw [hother _ _ m hm] at h;exact h)
  ·intro m o h
   by_cases hm:m=9
   ·subst hm
    rw [h8] at h
    obtain rfl:=Option.some.inj h
    refine ⟨bl,hb,hsz,hbo,by simpa [hSl] using hle,hnd,.inr ⟨[],hχ8,⟨_,_,znm hbs hheap,?_⟩,?_⟩⟩
    ·simpa [putCells] using hsize
    ·rw [RWe_g hk h1]
     exact ⟨rfl,λj hj c hc=>znn hk hbs hheap hsz2 j hj c hc⟩
   ·have h2 : m = 8 := by
     refine Classical.byContradiction λe=>?_
     unfold postOb at h
     split at h
     ·split at h
      ·cases h
      ·rw [List.getElem?_eq_none (by simp;omega)] at h;cases h
     ·simp at h
    subst h2
    have h3:o=.cells cs:=by simpa [postOb] using h.symm
    subst h3
    obtain ⟨bc,hbc,hFc,hOw,hRc⟩:=ho 8 (.cells cs) (by simp [postOb])
    have hbcs:=(hχ 8 bc.b (by rw [hFc];simp)).2
    have hbne:bc.b≠bl.b:=λe=>hsep 8 9 (by decide) bc.b (by rw [hFc];simp) (by rw [hχ8,e];simp)
    have hh:=zk0 enc k w bl.b n (srt cf l).toArray os bc.b hbcs hbne
    refine ⟨bc,hbc,hFc,zh8 hh hOw,?_⟩
    have key:∀(cs:List AV) (o:Nat),cs.all plain1=true→Rcs w I β bc.b o cs→Rcs (sortWorldK enc k w bl.b 0 n (srt cf l).toArray os) I β bc.b o cs:=by
     intro cs
     induction cs with
     | nil=>intro o _ _;trivial
     | cons c cs ih =>
      intro o hp h
      simp only [List.all_cons,Bool.and_eq_true] at hp
      obtain ⟨⟨v,hv,h1⟩,h2⟩:=h
      refine ⟨⟨v,?_,zc1 (λ_ h=>h) (λb hb=>zk0 enc k w bl.b n (srt cf l).toArray os b (hI b hb) (λe=>hbI (e ▸ hb))) (λn bl h=>h) c v h1⟩,ih (o+1) hp.2 h2⟩
      rw [←hv]
      simp [World.cell?,hh]
    exact key cs _ hcs hRc
  ·intro m b h
   refine ⟨(hχ m b h).1,?_,.inl ⟨m,h⟩⟩
   have:=(hχ m b h).2
   have h2:=(zj0 enc k w bl.b n (srt cf l).toArray os).size
   omega
end
end Go.Proofs.YtodmafgmdlkhoaaGreat.Vs
end
