import Derived.Test.YtodmafgmdlkhoaaGreatSM3
import Derived.Test.YtodmafgmdlkhoaaGreatSM1
import Derived.Shelf.SlLaysF0
import Derived.Test.YtodmafgmdlkhoaaGreatVs10
section
open Go Go.Proofs Go.Proofs.YtodmafgmdlkhoaaGreat.Vs
namespace Go.Proofs.YtodmafgmdlkhoaaGreat.Vs
set_option linter.all false
set_option linter.unusedSimpArgs false
set_option linter.unusedVariables false
/-! the parts -/
theorem zj5{l:List DtInst}{a b c:DtId}(h1:Rch l a b)(h2:Rch l b c):Rch l a c:=by
 induction h2 with
 | base h=>exact .step h1 h
 | step _ h ih=>exact .step ih h
theorem zk2{l:List DtInst}(h:InstsP l)(id:DtId):RdyP l id↔(instAt l id).fStatus=3∧∀x,Rch l id x→(instAt l x).fStatus=3:=by
 rw [zzg h]
 have hs:=(zc3 h id).2
 constructor
 ·intro h1
  have h2:∀x∈reachL l id++[id],(instAt l x).fStatus=3:=λx hx=>by
   obtain ⟨k,hk⟩:=List.getElem?_of_mem hx
   exact h1 k x hk
  exact ⟨h2 id (by simp),λx hx=>h2 x (List.mem_append_left _ ((hs x).2 hx))⟩
 ·rintro ⟨h1,h2⟩ j x hx
  rcases List.mem_append.1 (List.mem_of_getElem? hx) with hm | hm
  ·exact h2 x ((hs x).1 hm)
  ·rw [List.mem_singleton] at hm;subst hm;exact h1
theorem rdy_rch{l:List DtInst}(h:InstsP l){a b:DtId}(ha:RdyP l a)(hab:Rch l a b):RdyP l b:=by
 rw [zk2 h] at ha ⊢
 exact ⟨ha.2 b hab,λx hx=>ha.2 x (zj5 hab hx)⟩
def Same(l:List DtInst)(a b:DtId):Prop:=b=a∨(Rch l a b∧Rch l b a)
theorem same_rfl(l:List DtInst)(a:DtId):Same l a a:=.inl rfl
theorem ztd{l:List DtInst}{a b:DtId}(h:Same l a b):Same l b a:=by
 rcases h with rfl | ⟨h1,h2⟩
 ·exact .inl rfl
 ·exact .inr ⟨h2,h1⟩
theorem zk3{l:List DtInst}{a b c:DtId}(h:Same l a b)(k:Same l b c):Same l a c:=by
 rcases h with rfl | ⟨h1,h2⟩
 ·exact k
 ·rcases k with rfl | ⟨k1,k2⟩
  ·exact .inr ⟨h1,h2⟩
  ·exact .inr ⟨zj5 h1 k1,zj5 k2 h2⟩
theorem zl8{l:List DtInst}(h:InstsP l){a b:DtId}(ha:RdyP l a)(hab:Same l a b):RdyP l b:=by
 rcases hab with rfl | ⟨h1,-⟩
 ·exact ha
 ·exact rdy_rch h ha h1
noncomputable def seqL(l:List DtInst)(x:DtId):Int:=(instAt l x).fSeq
def sLt(l:List DtInst)(a b:DtId):Prop:=seqL l a<seqL l b∨(seqL l a=seqL l b∧idLt a b)
theorem znq(l:List DtInst)(a:DtId):¬sLt l a a:=by
 rintro (h | ⟨-,h⟩)
 ·omega
 ·exact zgb _ h
theorem zhe{l:List DtInst}{a b c:DtId}(h1:sLt l a b)(h2:sLt l b c):sLt l a c:=by
 rcases h1 with h1 | ⟨h1,k1⟩<;>rcases h2 with h2 | ⟨h2,k2⟩
 ·exact .inl (by omega)
 ·exact .inl (by omega)
 ·exact .inl (by omega)
 ·exact .inr ⟨by omega,zdc k1 k2⟩
theorem zw3{l:List DtInst}{a b:DtId}(h:¬sLt l a b)(hne:a≠b):sLt l b a:=by
 unfold sLt at *
 have h1:¬seqL l a<seqL l b:=λk=>h (.inl k)
 by_cases e:seqL l a=seqL l b
 ·exact .inr ⟨e.symm,zhx (λk=>h (.inr ⟨e,k⟩)) hne⟩
 ·exact .inl (by omega)
noncomputable def cmpS(l:List DtInst)(a b:DtId):Int:=bif decide (seqL l a=seqL l b) then cmpI a b else seqL l a-seqL l b
theorem zw4(l:List DtInst)(a b:DtId):cmpS l a b<0↔sLt l a b:=by
 unfold cmpS sLt
 by_cases e:seqL l a=seqL l b
 ·rw [decide_eq_true e,cond_true,zco]
  constructor
  ·exact λh=>.inr ⟨e,h⟩
  ·rintro (h | h)
   ·omega
   ·exact h.2
 ·rw [decide_eq_false e,cond_false]
  constructor
  ·exact λh=>.inl (by omega)
  ·rintro (h | h)
   ·omega
   ·exact absurd h.1 e
theorem pw_ext{lt:DtId→DtId→Prop}(irr:∀a,¬lt a a)(tr:∀ {a b c},lt a b→lt b c→lt a c):∀(a b:List DtId),a.Pairwise lt→b.Pairwise lt→(∀x,x∈a↔x∈b)→a=b
 | [],[],_,_,_=>rfl
 | [],y :: b,_,_,h=>absurd ((h y).2 List.mem_cons_self) (by simp)
 | x :: a,[],_,_,h=>absurd ((h x).1 List.mem_cons_self) (by simp)
 | x :: a,y :: b,ha,hb,h=>by
  obtain ⟨ha1,ha2⟩:=List.pairwise_cons.1 ha
  obtain ⟨hb1,hb2⟩:=List.pairwise_cons.1 hb
  have e:x=y:=by
   rcases List.mem_cons.1 ((h x).1 List.mem_cons_self) with e | hx
   ·exact e
   ·rcases List.mem_cons.1 ((h y).2 List.mem_cons_self) with e | hy
    ·exact e.symm
    ·exact absurd (tr (hb1 x hx) (ha1 y hy)) (irr _)
  subst e
  congr 1
  refine pw_ext irr tr a b ha2 hb2 λz=>?_
  constructor
  ·intro hz
   rcases List.mem_cons.1 ((h z).1 (List.mem_cons_of_mem _ hz)) with rfl | hz2
   ·exact absurd (ha1 z hz) (irr _)
   ·exact hz2
  ·intro hz
   rcases List.mem_cons.1 ((h z).2 (List.mem_cons_of_mem _ hz)) with rfl | hz2
   ·exact absurd (hb1 z hz) (irr _)
   ·exact hz2
theorem srt_memG{cmp:DtId→DtId→Int}{l:List DtId}(x:DtId):x∈srt cmp l↔x∈l:=List.mem_mergeSort
theorem srt_pwG{cmp:DtId→DtId→Int}{lt:DtId→DtId→Prop}(hc:∀a b,cmp a b<0↔lt a b)(irr:∀a,¬lt a a)(tr:∀ {a b c},lt a b→lt b c→lt a c)(tot:∀ {a b},¬lt a b→a≠b→lt b a){l:List DtId}(hn:l.Nodup):(srt cmp l).Pairwise lt:=by
 have hl:∀a b,ltOf cmp a b=decB (lt a b):=λa b=>by
  rw [Bool.eq_iff_iff,zbb,←hc]
  unfold ltOf
  simp
 have h1:(srt cmp l).Pairwise λa b=>(!(ltOf cmp) b a)=true:=by
  refine List.pairwise_mergeSort (λa b c hab hbc=>?_) (λa b=>?_) l
  ·rw [Bool.not_eq_true',hl,zbf] at hab hbc ⊢
   intro hca
   by_cases e:b=a
   ·subst e;exact hbc hca
   ·exact hbc (tr hca (tot hab e))
  ·rw [Bool.or_eq_true,Bool.not_eq_true',Bool.not_eq_true',hl,hl,zbf,zbf]
   by_cases h:lt b a
   ·exact .inr λh2=>irr _ (tr h h2)
   ·exact .inl h
 have h2:(srt cmp l).Nodup:=(List.mergeSort_perm _ _).nodup_iff.2 hn
 refine List.Pairwise.imp₂ (λa b h3 h4=>?_) h1 h2
 rw [Bool.not_eq_true',hl,zbf] at h3
 exact tot h3 (λe=>h4 e.symm)
noncomputable def out0(l:List DtInst)(id:DtId):List DtId:=id :: (reachL l id).filter λd=>!(eqB d id)&&decB (id∈reachL l d)
theorem out0_mem{l:List DtInst}(h:InstsP l)(id x:DtId):x∈out0 l id↔Same l id x:=by
 unfold out0 Same
 rw [List.mem_cons,List.mem_filter,(zc3 h id).2,Bool.and_eq_true,Bool.not_eq_true',zbd,zbb,(zc3 h x).2]
 constructor
 ·rintro (h1 | ⟨h1,h2,h3⟩)
  ·exact .inl h1
  ·exact .inr ⟨h1,h3⟩
 ·rintro (h1 | ⟨h1,h3⟩)
  ·exact .inl h1
  ·by_cases e:x=id
   ·exact .inl e
   ·exact .inr ⟨h1,e,h3⟩
theorem out0_nd{l:List DtInst}(h:InstsP l)(id:DtId):(out0 l id).Nodup:=by
 unfold out0
 refine List.nodup_cons.2 ⟨λhm=>?_,(zle (zc3 h id).1).sublist List.filter_sublist⟩
 rw [List.mem_filter,zl1] at hm
 simp at hm
noncomputable def partL(l:List DtInst)(id:DtId):List DtId:=srt (cmpS l) (out0 l id)
theorem zc9{l:List DtInst}(h:InstsP l)(id x:DtId):x∈partL l id↔Same l id x:=by
 unfold partL;rw [srt_memG,out0_mem h]
theorem zrh{l:List DtInst}(h:InstsP l)(id:DtId):(partL l id).Pairwise (sLt l):=srt_pwG (zw4 l) (znq l) zhe zw3 (out0_nd h id)
theorem zzi{l:List DtInst}(h:InstsP l){id:DtId}{o:List DtId}(hp:o.Pairwise (sLt l))(hm:∀x,x∈o↔Same l id x):o=partL l id :=
 pw_ext (znq l) zhe _ _ hp (zrh h id) λx=>by rw [hm,zc9 h]
theorem zri{l:List DtInst}(h:InstsP l){a b:DtId}(hab:Same l a b):partL l a=partL l b :=
 zzi h (zrh h a) λx=>by
  rw [zc9 h]
  exact ⟨zk3 (ztd hab),zk3 hab⟩
theorem zzj{l:List DtInst}(h:InstsP l)(id:DtId):(partL l id).Nodup:=(zrh h id).imp λ{a b} h e=>by subst e;exact znq _ _ h
theorem zpx{l:List DtInst}(h:InstsP l)(id:DtId):id∈partL l id:=(zc9 h id id).2 (same_rfl l id)
theorem zhf{l:List DtInst}(h:InstsP l){id:DtId}(hi:IdP id):(partL l id).length≤18:=by
 refine zjf (zzj h id) λx hx=>?_
 rcases (zc9 h id x).1 hx with rfl | ⟨h1,-⟩
 ·exact hi
 ·exact zwx h h1
theorem zpy{l:List DtInst}(h:InstsP l){a:DtId}(ha:RdyP l a):IdP a∧∃x∈l,x.fId=a:=by
 have h1:=((zk2 h a).1 ha).1
 rcases zhd l a with ⟨hm,he⟩ | e
 ·have:=(zfb h hm).1
  rw [he] at this
  exact ⟨this,_,hm,he⟩
 ·rw [e] at h1;simp [zeroInst] at h1
theorem lid_len{l:List DtInst}(h:InstsP l):l.length≤18:=by
 have:=zjf (zle (zhz h)) λx hx=>by
  obtain ⟨y,hy,rfl⟩:=List.mem_map.1 hx
  exact (zfb h hy).1
 simpa using this
def FreeP(l:List DtInst)(p t:List DtId):Prop:=∀x∈p,∀d∈depsL l x,d∈p∨d∈t
noncomputable def leftF(l:List DtInst)(acc:List (List DtId))(x:DtInst):List (List DtId):=bif decB (RdyP l x.fId)&&decB (partL l x.fId∉acc) then acc++[partL l x.fId] else acc
noncomputable def leftT(l:List DtInst)(i:Nat):List (List DtId):=(l.take i).foldl (leftF l) []
noncomputable def leftA(l:List DtInst):List (List DtId):=l.foldl (leftF l) []
theorem zk4(l:List DtInst):leftT l 0=[]:=by unfold leftT;simp
theorem leftT_s(l:List DtInst)(i:Nat)(h:i<l.length):leftT l (i+1)=leftF l (leftT l i) l[i]:=by
 unfold leftT
 rw [List.take_succ_eq_append_getElem h,List.foldl_append]
 rfl
theorem leftT_e(l:List DtInst)(i:Nat)(h:l.length≤i):leftT l i=leftA l:=by unfold leftT leftA;rw [List.take_of_length_le h]
theorem leftF_inv{l:List DtInst}(h:InstsP l){acc:List (List DtId)}(x:DtInst)(ha:(∀p∈acc,∃a,RdyP l a∧p=partL l a)∧acc.Nodup):(∀p∈leftF l acc x,∃a,RdyP l a∧p=partL l a)∧(leftF l acc x).Nodup:=by
 unfold leftF
 cases hb:decB (RdyP l x.fId)&&decB (partL l x.fId∉acc) with
 | false=>exact ha
 | true =>
  rw [Bool.and_eq_true,zbb,zbb] at hb
  rw [cond_true]
  refine ⟨λp hp=>?_,List.nodup_append.2 ⟨ha.2,by simp,λa ha b hb2=>?_⟩⟩
  ·rcases List.mem_append.1 hp with hp | hp
   ·exact ha.1 p hp
   ·rw [List.mem_singleton] at hp;exact ⟨_,hb.1,hp⟩
  ·rw [List.mem_singleton] at hb2;rintro rfl;exact hb.2 (hb2 ▸ ha)
theorem zte{l:List DtInst}(h:InstsP l):∀(m:List DtInst) (acc:List (List DtId)),((∀p∈acc,∃a,RdyP l a∧p=partL l a)∧acc.Nodup)→(∀p∈m.foldl (leftF l) acc,∃a,RdyP l a∧p=partL l a)∧(m.foldl (leftF l) acc).Nodup∧(m.foldl (leftF l) acc).length≤acc.length+m.length
 | [],acc,ha=>⟨ha.1,ha.2,by simp⟩
 | x :: m,acc,ha=>by
  have h1:=zte h m _ (leftF_inv h x ha)
  have h2:(leftF l acc x).length≤acc.length+1:=by
   unfold leftF
   cases decB (RdyP l x.fId)&&decB (partL l x.fId∉acc)<;>simp
  refine ⟨h1.1,h1.2.1,?_⟩
  have:=h1.2.2
  simp only [List.foldl_cons,List.length_cons] at this ⊢
  omega
theorem zj6{l:List DtInst}(h:InstsP l)(i:Nat):(∀p∈leftT l i,∃a,RdyP l a∧p=partL l a)∧(leftT l i).Nodup∧(leftT l i).length≤18:=by
 have h1:=zte h (l.take i) [] ⟨by simp,by simp⟩
 refine ⟨h1.1,h1.2.1,?_⟩
 have h2:=h1.2.2
 have h3:=lid_len h
 rw [List.length_take] at h2
 simp only [List.length_nil] at h2
 unfold leftT
 omega
theorem zhg{l:List DtInst}(h:InstsP l):(∀p∈leftA l,∃a,RdyP l a∧p=partL l a)∧(leftA l).Nodup∧(leftA l).length≤18:=by
 have:=zj6 h l.length
 rwa [leftT_e l _ (Nat.le_refl _)] at this
theorem ztf{l:List DtInst}(h:InstsP l){acc:List (List DtId)}(ha:∀p∈acc,∃a,RdyP l a∧p=partL l a)(x:DtId):(∃p∈acc,x∈p)↔partL l x∈acc:=by
 constructor
 ·rintro ⟨p,hp,hx⟩
  obtain ⟨a,-,rfl⟩:=ha p hp
  rw [←zri h ((zc9 h a x).1 hx)]
  exact hp
 ·exact λhm=>⟨_,hm,zpx h x⟩
theorem flat_iff{l:List DtInst}(h:InstsP l){acc:List (List DtId)}(ha:∀p∈acc,∃a,RdyP l a∧p=partL l a)(x:DtId):x∈acc.flatten↔partL l x∈acc:=by
 rw [List.mem_flatten,←ztf h ha]
theorem zpz(l:List DtInst)(q:List DtId→Bool):∀(m:List DtInst) (acc:List (List DtId)),(m.foldl (leftF l) acc).find? q=(acc++(m.filter λx=>decB (RdyP l x.fId)).map λx=>partL l x.fId).find? q
 | [],acc=>by simp
 | x :: m,acc=>by
  rw [List.foldl_cons,zpz l q m,List.filter_cons]
  unfold leftF
  cases hr:decB (RdyP l x.fId) with
  | false=>simp
  | true =>
   simp only [if_true,Bool.true_and,List.map_cons]
   cases hk:decB (partL l x.fId∉acc) with
   | true=>simp
   | false =>
    rw [zbf,Classical.not_not] at hk
    rw [cond_false,List.find?_append,List.find?_append,List.find?_cons]
    cases hf:acc.find? q with
    | some y=>simp
    | none =>
     have:=List.find?_eq_none.1 hf _ hk
     have:q (partL l x.fId)=false:=by simpa using this
     rw [this]
noncomputable def nextP(l:List DtInst)(out:List (List DtId)):Option (List DtId):=(leftA l).find? λp=>decB (p∉out)&&decB (FreeP l p out.flatten)
def OutOk(l:List DtInst)(out:List (List DtId)):Prop:=(∀p∈out,p∈leftA l)∧out.Nodup
theorem zgn{l:List DtInst}(h:InstsP l){out:List (List DtId)}(ho:OutOk l out):∀p∈out,∃a,RdyP l a∧p=partL l a:=λp hp=>(zhg h).1 p (ho.1 p hp)
def CandP(l:List DtInst)(told:List DtId)(x:DtId):Prop:=x∉told∧RdyP l x∧FreeP l (partL l x) told
theorem zw5{l:List DtInst}(h:InstsP l){out:List (List DtId)}(ho:OutOk l out):nextP l out=(l.find? λx=>decB (CandP l out.flatten x.fId)).map λx=>partL l x.fId:=by
 unfold nextP leftA
 rw [zpz,List.nil_append,List.find?_map]
 congr 1
 rw [List.find?_filter]
 congr 1
 funext x
 have hf:=flat_iff h (zgn h ho) x.fId
 unfold CandP
 rw [Bool.eq_iff_iff]
 simp only [Function.comp,Bool.and_eq_true,zbb,decide_eq_true_eq,hf]
 exact ⟨λ⟨h1,h2,h3⟩=>⟨h2,h1,h3⟩,λ⟨h2,h1,h3⟩=>⟨h1,h2,h3⟩⟩
theorem nextP_hit{l:List DtInst}(h:InstsP l){out:List (List DtId)}(ho:OutOk l out){i:Nat}(hi:i<l.length)(hpre:∀(j:Nat) x,j<i→l[j]? = some x→¬CandP l out.flatten x.fId)(hc:CandP l out.flatten l[i].fId):nextP l out=some (partL l l[i].fId):=by
 rw [zw5 h ho,show (l.find? λx=>decB (CandP l out.flatten x.fId))=some l[i] from ?_]
 ·rfl
 rw [List.find?_eq_some_iff_getElem]
 refine ⟨zcb hc,i,hi,rfl,λj hj=>?_⟩
 rw [Bool.not_eq_true',zbf]
 exact hpre j _ hj (List.getElem?_eq_getElem (by omega))
theorem zp0{l:List DtInst}(h:InstsP l){out:List (List DtId)}(ho:OutOk l out)(hpre:∀(j:Nat) x,j<l.length→l[j]? = some x→¬CandP l out.flatten x.fId):nextP l out=none:=by
 rw [zw5 h ho,show (l.find? λx=>decB (CandP l out.flatten x.fId))=none from ?_]
 ·rfl
 rw [List.find?_eq_none]
 intro x hx
 obtain ⟨j,hj⟩:=List.getElem?_of_mem hx
 rw [zbb]
 exact hpre j x (List.getElem?_eq_some_iff.1 hj).1 hj
noncomputable def leftR(l:List DtInst)(out:List (List DtId)):List (List DtId):=(leftA l).filter λp=>decB (p∉out)
theorem zk5(l:List DtInst):leftR l []=leftA l:=by
 unfold leftR
 refine List.filter_eq_self.2 λa _=>zcb (by simp)
theorem leftR_nd{l:List DtInst}(h:InstsP l)(out:List (List DtId)):(leftR l out).Nodup:=(zhg h).2.1.sublist List.filter_sublist
theorem zj7{l:List DtInst}{out:List (List DtId)}{p:List DtId}(hp:p∈leftR l out):p∈leftA l∧p∉out:=by
 unfold leftR at hp
 rw [List.mem_filter,zbb] at hp
 exact hp
theorem nd_del:∀(L:List (List DtId)) (k:Nat) (hk:k<L.length),L.Nodup→L.filter (λx=>decB (x≠L[k]))=L.take k++L.drop (k+1)
 | [],k,hk,_=>by simp at hk
 | a :: L,0,_,hn=>by
  obtain ⟨h1,h2⟩:=List.nodup_cons.1 hn
  simp only [List.getElem_cons_zero,List.take_zero,List.nil_append,List.drop_succ_cons,List.drop_zero]
  rw [List.filter_cons_of_neg (by rw [zbb];simp)]
  exact List.filter_eq_self.2 λx hx=>zcb λe=>h1 (e ▸ hx)
 | a :: L,k+1,hk,hn=>by
  obtain ⟨h1,h2⟩:=List.nodup_cons.1 hn
  have hk2:k<L.length:=by simpa using hk
  simp only [List.getElem_cons_succ,List.take_succ_cons,List.drop_succ_cons,List.cons_append]
  rw [List.filter_cons_of_pos (p:=λx=>decB (x≠L[k])) (zcb λe=>h1 (by rw [e];exact List.getElem_mem _)),nd_del L k hk2 h2]
theorem znr{l:List DtInst}(h:InstsP l){out:List (List DtId)}{k:Nat}(hk:k<(leftR l out).length):leftR l (out++[(leftR l out)[k]])=(leftR l out).take k++(leftR l out).drop (k+1):=by
 rw [←nd_del _ k hk (leftR_nd h out)]
 generalize hp:(leftR l out)[k]=p
 unfold leftR
 rw [List.filter_filter]
 congr 1
 funext x
 rw [Bool.eq_iff_iff,Bool.and_eq_true,zbb,zbb,zbb,List.mem_append,List.mem_singleton]
 exact ⟨λh1=>⟨λe=>h1 (.inr e),λe=>h1 (.inl e)⟩,λh1 h2=>h2.elim h1.2 h1.1⟩
theorem zrj(l:List DtInst)(out:List (List DtId)):nextP l out=(leftR l out).find? λp=>decB (FreeP l p out.flatten):=by
 unfold nextP leftR
 rw [List.find?_filter]
 congr 1
 funext p
 simp
theorem nextP_at{l:List DtInst}{out:List (List DtId)}{k:Nat}(hk:k<(leftR l out).length)(hpre:∀(j:Nat) x,j<k→(leftR l out)[j]? = some x→decB (FreeP l x out.flatten)=false)(hc:decB (FreeP l (leftR l out)[k] out.flatten)=true):nextP l out=some (leftR l out)[k]:=by
 rw [zrj,List.find?_eq_some_iff_getElem]
 refine ⟨hc,k,hk,rfl,λj hj=>?_⟩
 rw [Bool.not_eq_true']
 exact hpre j _ hj (List.getElem?_eq_getElem (by omega))
theorem nextP_no{l:List DtInst}{out:List (List DtId)}(hpre:∀(j:Nat) x,(leftR l out)[j]? = some x→decB (FreeP l x out.flatten)=false):nextP l out=none:=by
 rw [zrj,List.find?_eq_none]
 intro x hx
 obtain ⟨j,hj⟩:=List.getElem?_of_mem hx
 rw [hpre j x hj]
 simp
theorem zj8(l:List DtInst)(out:List (List DtId)):(idxZ (λp=>decB (FreeP l p out.flatten)) (leftR l out)<0∧nextP l out=none)∨∃k,∃hk:k<(leftR l out).length,idxZ (λp=>decB (FreeP l p out.flatten)) (leftR l out)=k∧nextP l out=some (leftR l out)[k]:=by
 unfold idxZ
 cases hf:(leftR l out).findIdx? (λp=>decB (FreeP l p out.flatten)) with
 | none =>
  rw [List.findIdx?_eq_none_iff] at hf
  exact .inl ⟨by simp,nextP_no λj x hx=>hf x (List.mem_of_getElem? hx)⟩
 | some k =>
  obtain ⟨h1,h2,h3⟩:=List.findIdx?_eq_some_iff_getElem.1 hf
  refine .inr ⟨k,h1,rfl,nextP_at h1 (λj x hj hx=>?_) h2⟩
  obtain ⟨hk,rfl⟩:=List.getElem?_eq_some_iff.1 hx
  simpa using h3 j hj
noncomputable def goS(l:List DtInst):Nat→List (List DtId)→List (List DtId)
 | 0,out=>out
 | n+1,out=>match nextP l out with
  | none=>out
  | some p=>goS l n (out++[p])
noncomputable def partsL(l:List DtInst):List (List DtId):=goS l ((leftA l).length+1) []
def PInv(l:List DtInst)(out:List (List DtId)):Prop:=OutOk l out∧goS l ((leftR l out).length+1) out=partsL l
theorem pinv_0(l:List DtInst):PInv l []:=⟨⟨by simp,by simp⟩,by rw [zk5];rfl⟩
theorem zns{l:List DtInst}{out:List (List DtId)}{p:List DtId}(hn:nextP l out=some p):∃k,∃hk:k<(leftR l out).length,(leftR l out)[k]=p:=by
 rw [zrj] at hn
 obtain ⟨k,hk,h2⟩:=List.getElem_of_mem (List.mem_of_find?_eq_some hn)
 exact ⟨k,hk,h2⟩
theorem pinv_s{l:List DtInst}(h:InstsP l){out:List (List DtId)}(hi:PInv l out){p:List DtId}(hn:nextP l out=some p):PInv l (out++[p])∧(leftR l (out++[p])).length+1=(leftR l out).length:=by
 obtain ⟨k,hk,rfl⟩:=zns hn
 have hm:=zj7 (List.getElem_mem hk)
 have hl:(leftR l (out++[(leftR l out)[k]])).length+1=(leftR l out).length:=by
  rw [znr h hk];simp;omega
 refine ⟨⟨⟨λq hq=>?_,List.nodup_append.2 ⟨hi.1.2,by simp,λa ha b hb=>?_⟩⟩,?_⟩,hl⟩
 ·rcases List.mem_append.1 hq with hq | hq
  ·exact hi.1.1 q hq
  ·rw [List.mem_singleton] at hq;exact hq ▸ hm.1
 ·rw [List.mem_singleton] at hb;rintro rfl;exact hm.2 (hb ▸ ha)
 ·rw [hl,←hi.2]
  conv=>rhs;rw [goS,hn]
theorem zlg{l:List DtInst}{out:List (List DtId)}(hi:PInv l out)(hn:nextP l out=none):partsL l=out:=by
 rw [←hi.2,goS,hn]
theorem zl9{l:List DtInst}(h:InstsP l){out:List (List DtId)}(hi:OutOk l out):out.length≤18∧(∀p∈out,p.length≤18)∧out.flatten.length≤324:=by
 have h1:out.length≤(leftA l).length:=by
  have key:∀(a b:List (List DtId)),a.Nodup→(∀x∈a,x∈b)→a.length≤b.length:=by
   intro a
   induction a with
   | nil=>intro b _ _;simp
   | cons z a ih =>
    intro b hn hs
    obtain ⟨h1,h2⟩:=List.nodup_cons.1 hn
    obtain ⟨s,t,rfl⟩:=List.append_of_mem (hs z List.mem_cons_self)
    have:=ih (s++t) h2 λx hx=>by
     have:=hs x (List.mem_cons_of_mem _ hx)
     simp only [List.mem_append,List.mem_cons] at this ⊢
     rcases this with h | rfl | h
     ·exact .inl h
     ·exact absurd hx h1
     ·exact .inr h
    simp at this ⊢
    omega
  exact key out _ hi.2 hi.1
 have h2:=(zhg h).2.2
 have h3:∀p∈out,p.length≤18:=λp hp=>by
  obtain ⟨a,ha,rfl⟩:=zgn h hi p hp
  exact zhf h (zpy h ha).1
 have h4:∀(o:List (List DtId)),(∀p∈o,p.length≤18)→o.flatten.length≤18*o.length:=by
  intro o
  induction o with
  | nil=>intro _;simp
  | cons p o ih =>
   intro ho
   have:=ih λq hq=>ho q (List.mem_cons_of_mem _ hq)
   have:=ho p List.mem_cons_self
   simp only [List.flatten_cons,List.length_append,List.length_cons]
   omega
 have:=h4 out h3
 exact ⟨by omega,h3,by omega⟩
theorem zgo{l:List DtInst}(h:InstsP l):OutOk l (partsL l):=by
 have key:∀(n:Nat) (out:List (List DtId)),OutOk l out→OutOk l (goS l n out):=by
  intro n
  induction n with
  | zero=>intro out ho;exact ho
  | succ n ih =>
   intro out ho
   rw [goS]
   split
   ·exact ho
   ·rename_i p hp
    refine ih _ ?_
    obtain ⟨k,hk,rfl⟩:=zns hp
    have hm:=zj7 (List.getElem_mem hk)
    refine ⟨λq hq=>?_,List.nodup_append.2 ⟨ho.2,by simp,λa ha b hb=>?_⟩⟩
    ·rcases List.mem_append.1 hq with hq | hq
     ·exact ho.1 q hq
     ·rw [List.mem_singleton] at hq;exact hq ▸ hm.1
    ·rw [List.mem_singleton] at hb;rintro rfl;exact hm.2 (hb ▸ ha)
 exact key _ _ ⟨by simp,by simp⟩
theorem zw6{l:List DtInst}(h:InstsP l){p:List DtId}(hp:∃a,RdyP l a∧p=partL l a):∀x∈p,RdyP l x∧(instAt l x).fStatus=3:=by
 obtain ⟨a,ha,rfl⟩:=hp
 intro x hx
 have:=zl8 h ha ((zc9 h a x).1 hx)
 exact ⟨this,((zk2 h x).1 this).1⟩
end Go.Proofs.YtodmafgmdlkhoaaGreat.Vs
end
section
open Go Go.Proofs Go.Proofs.YtodmafgmdlkhoaaGreat.Vs
namespace Go.Proofs.YtodmafgmdlkhoaaGreat.Vs
set_option linter.all false
set_option linter.unusedSimpArgs false
set_option linter.unusedVariables false
set_option maxRecDepth 100000
noncomputable def waitL(l:List DtInst):List DtId:=(l.filter λx=>decide (x.fStatus=3) && ! decB (RdyP l x.fId)).map (·.fId)
noncomputable def waT(l:List DtInst)(i:Nat):List DtId:=((l.take i).filter λx=>decide (x.fStatus=3) && ! decB (RdyP l x.fId)).map (·.fId)
theorem zgp(l:List DtInst):waT l 0=[]:=by unfold waT;simp
theorem waT_e(l:List DtInst)(i:Nat)(h:l.length≤i):waT l i=waitL l:=by unfold waT waitL;rw [List.take_of_length_le h]
theorem zw7(l:List DtInst)(i:Nat)(h:i≤l.length):(waT l i).length≤i:=by
 unfold waT
 rw [List.length_map]
 exact Nat.le_trans (List.length_filter_le _ _) (by rw [List.length_take];omega)
theorem waT_s(l:List DtInst)(i:Nat)(h:i<l.length):(l[i].fStatus=3∧¬RdyP l l[i].fId→waT l (i+1)=waT l i++[l[i].fId])∧(¬(l[i].fStatus=3∧¬RdyP l l[i].fId)→waT l (i+1)=waT l i):=by
 unfold waT
 rw [List.take_succ_eq_append_getElem h,List.filter_append,List.map_append]
 constructor
 ·rintro ⟨h1,h2⟩
  rw [List.filter_cons_of_pos (by rw [zce h2];simp [h1])]
  rfl
 ·intro hn
  rw [List.filter_cons_of_neg (by
   intro hh
   rw [Bool.and_eq_true,decide_eq_true_eq,Bool.not_eq_true',zbf] at hh
   exact hn hh)]
  simp
def zG9:=And.intro @zb4 (And.intro @gE (And.intro @tP (And.intro @tkm (And.intro @zbh (And.intro @zbb @zbf)))))
def zG10:=And.intro @zbb (And.intro @zbf (And.intro @zco @zcu))
theorem zw8(l:List DtInst)(hs:szS DtInst.sz l≤1048576):PCall Tryz.prog 18 [.sl 16 (l.map DtInst.cells)] (.sl 2 ((bif decB (InstsP l) then waitL l else []).map DtId.cells)):=by
 obtain ⟨hn,-⟩:=zwt l hs
 by_cases hp:InstsP l
 ·have hpb:=zcb hp
  refine zbo Tryz.func18 (by rfl) (by rfl) (by rw [Tryz.ntmps18];exact Nat.le_of_ble_eq_true rfl) rfl (by decide) ?_
  rw [Tryz.ntmps18]
  refine AW_k [(0,_)] ⟨rfl,trivial⟩ ?_
  refine AW_r rfl rfl λK hK=>?_
  simp (disch:=omega) [zG9,DtInst.cells,DtCmd.cells,DtId.cells,aNews,aAppend,aBuildSlice,chunks]
  repeat' first|(refine ⟨by omega,?_⟩)|(intro _)
  refine hK _ ?_;clear hK K
  refine AW_r rfl rfl λK hK=>?_
  simp (disch:=omega) [zG9,DtInst.cells,DtCmd.cells,DtId.cells,aNews,aAppend,aBuildSlice,chunks]
  repeat' first|(refine ⟨by omega,?_⟩)|(intro _)
  refine hK _ ?_;clear hK K
  refine zbj ?_
  refine AW_r rfl rfl λK hK=>?_
  simp (disch:=omega) [zG9,DtInst.cells,DtCmd.cells,DtId.cells,aNews,aAppend,aBuildSlice,chunks]
  repeat' first|(refine ⟨by omega,?_⟩)|(intro _)
  refine hK _ ?_;clear hK K
  refine zbl ?_
  refine zby (λmM sS=>∃(i:Nat),mM=l.length-i∧(i≤l.length∧(InstsP l∨i=0))∧sS = { env:=lkE [(0,.sl 16 (l.map DtInst.cells)),(3,.arr 96 0 (waT l i).length),(4,(.g (.int .i64 ((i:Nat)))))],ob:=lk [(96,.flat 2 ((waT l i).map DtId.cells))] }) ?_ ?_
  ·refine ⟨_,LeS.kr [(96,96)] [(0,.sl 16 (l.map DtInst.cells)),(3,.arr 96 0 (waT l (0)).length),(4,(.g (.int .i64 (((0):Nat)))))] [(96,.flat 2 ((waT l (0)).map DtId.cells))] (by simp [KpR,renV2,renV,zbt,zbk,zbp,zb0,DtId.cells,zgp];try (first|(rw [hsx];done)|(rw [hsx];simp;done))) (by simp [KpOR,renO,renV,zbt,zbp,zb0,zca,DtId.cells,zgp];try (first|(rw [hsx];done)|(rw [hsx];simp [DtId.cells];done))) (by rfl) (by rfl) (by simp) (by simp) (by rfl) (by simp [forms]),_,0,rfl,?_,rfl⟩
   ·simp
  ·rintro mM sS ⟨i,rfl,⟨hi,hi0⟩,rfl⟩
   have hwl:=zw7 l i hi
   refine zbj ?_
   refine AW_r rfl rfl λK hK=>?_
   simp (disch:=omega) [zG9,DtInst.cells,DtCmd.cells,DtId.cells,aNews,aAppend,aBuildSlice,chunks]
   repeat' first|(exfalso;omega)|(refine zcg (zbc zbw zbi) (zdv _ (by assumption)) rfl ?_;simp (disch:=omega) [zG9,DtInst.cells,DtCmd.cells,DtId.cells,aNews,aAppend,aBuildSlice,chunks])|(refine ⟨λ_=>?_,λ_=>?_⟩)|(refine ⟨by omega,?_⟩)|(intro _)
   all_goals (refine hK _ ?_;clear hK K)
   all_goals
    refine zbm rfl (λhc1=>?_) (λhc1=>?_)
    ·try simp [zG10,zbe,zbd] at hc1
     all_goals
      have hws:=waT_s l i (by omega)
      refine zbn ?_
      refine zbq ?_
      refine zbj ?_
      refine zbl ?_
      refine AW_r rfl rfl λK hK=>?_
      simp (disch:=omega) [zG9,DtInst.cells,DtCmd.cells,DtId.cells,aNews,aAppend,aBuildSlice,chunks]
      repeat' first|(exfalso;omega)|(refine zcg (zbc zbw (zbc (zbu rfl) zbi)) (zj4 _ _ (by assumption) (by assumption)) rfl ?_;simp (disch:=omega) [zG9,DtInst.cells,DtCmd.cells,DtId.cells,aNews,aAppend,aBuildSlice,chunks])|(refine ⟨λ_=>?_,λ_=>?_⟩)|(refine ⟨by omega,?_⟩)|(intro _)
      all_goals (refine hK _ ?_;clear hK K)
      all_goals
       refine zbm rfl (λhc2=>?_) (λhc2=>?_)
       ·try simp [zG10,zbe,zbd] at hc2
        all_goals
         refine zc8 rfl rfl λK hK=>?_
         simp (disch:=omega) [zG9,DtInst.cells,DtCmd.cells,DtId.cells,aNews,aAppend,aBuildSlice,chunks]
         repeat' first|(exfalso;omega)|(refine ⟨λ_=>?_,λ_=>?_⟩)|(refine ⟨by omega,?_⟩)|(intro _)
         all_goals (refine hK _ ?_;clear hK K)
         all_goals
          refine zbq ?_
          refine zc8 rfl rfl λK hK=>?_
          simp (disch:=omega) [zG9,DtInst.cells,DtCmd.cells,DtId.cells,aNews,aAppend,aBuildSlice,chunks]
          repeat' first|(refine ⟨by omega,?_⟩)|(intro _)
          refine hK _ ?_;clear hK K
          first | have hsx:=hws.1 ⟨by assumption,by assumption⟩ | have hsx:=hws.2 (λhh=>by first | exact hh.2 (by assumption) | exact absurd hh.1 (by assumption))
          refine ⟨_,LeS.kr [(96,640)] [(0,.sl 16 (l.map DtInst.cells)),(3,.arr 96 0 (waT l (i+1)).length),(4,(.g (.int .i64 (((i+1):Nat)))))] [(96,.flat 2 ((waT l (i+1)).map DtId.cells))] (by simp [KpR,renV2,renV,zbt,zbk,zbp,zb0,DtId.cells,zgp];try (first|(rw [hsx];done)|(rw [hsx];simp;done))) (by simp [KpOR,renO,renV,zbt,zbp,zb0,zca,DtId.cells,zgp];try (first|(rw [hsx];done)|(rw [hsx];simp [DtId.cells];done))) (by rfl) (by rfl) (by simp) (by simp) (by rfl) (by simp [forms]),_,?_,i+1,rfl,?_,rfl⟩
          ·omega
          ·exact ⟨by omega,.inl (by assumption)⟩
       ·try simp [zG10,zbe,zbd] at hc2
        all_goals
         refine zbn ?_
         refine zbq ?_
         refine zc8 rfl rfl λK hK=>?_
         simp (disch:=omega) [zG9,DtInst.cells,DtCmd.cells,DtId.cells,aNews,aAppend,aBuildSlice,chunks]
         repeat' first|(exfalso;omega)|(refine ⟨λ_=>?_,λ_=>?_⟩)|(refine ⟨by omega,?_⟩)|(intro _)
         all_goals (refine hK _ ?_;clear hK K)
         all_goals
          first | have hsx:=hws.1 ⟨by assumption,by assumption⟩ | have hsx:=hws.2 (λhh=>by first | exact hh.2 (by assumption) | exact absurd hh.1 (by assumption))
          refine ⟨_,LeS.kr [(96,96)] [(0,.sl 16 (l.map DtInst.cells)),(3,.arr 96 0 (waT l (i+1)).length),(4,(.g (.int .i64 (((i+1):Nat)))))] [(96,.flat 2 ((waT l (i+1)).map DtId.cells))] (by simp [KpR,renV2,renV,zbt,zbk,zbp,zb0,DtId.cells,zgp];try (first|(rw [hsx];done)|(rw [hsx];simp;done))) (by simp [KpOR,renO,renV,zbt,zbp,zb0,zca,DtId.cells,zgp];try (first|(rw [hsx];done)|(rw [hsx];simp [DtId.cells];done))) (by rfl) (by rfl) (by simp) (by simp) (by rfl) (by simp [forms]),_,?_,i+1,rfl,?_,rfl⟩
          ·omega
          ·exact ⟨by omega,.inl (by assumption)⟩
    ·try simp [zG10,zbe,zbd] at hc1
     all_goals
      refine zb3 ?_
      refine zbq ?_
      refine AW_r rfl rfl λK hK=>?_
      simp (disch:=omega) [zG9,DtInst.cells,DtCmd.cells,DtId.cells,aNews,aAppend,aBuildSlice,chunks]
      repeat' first|(exfalso;omega)|(refine ⟨λ_=>?_,λ_=>?_⟩)|(refine ⟨by omega,?_⟩)|(intro _)
      all_goals (refine hK _ ?_;clear hK K)
      all_goals
       refine zbr (zb6 ?_)
       simp (disch:=omega) [zG9,DtInst.cells,DtCmd.cells,DtId.cells,aNews,aAppend,aBuildSlice,chunks,hpb]
       all_goals first|(exfalso;exact absurd hp (by assumption))|(rw [waT_e l i (by omega)];done)|(rw [hi0.resolve_left hp,zgp];done) | trace_state
 ·have hpb:=zce hp
  refine zbo Tryz.func18 (by rfl) (by rfl) (by rw [Tryz.ntmps18];exact Nat.le_of_ble_eq_true rfl) rfl (by decide) ?_
  rw [Tryz.ntmps18]
  refine AW_k [(0,_)] ⟨rfl,trivial⟩ ?_
  refine AW_r rfl rfl λK hK=>?_
  simp (disch:=omega) [zG9,DtInst.cells,DtCmd.cells,DtId.cells,aNews,aAppend,aBuildSlice,chunks]
  repeat' first|(refine ⟨by omega,?_⟩)|(intro _)
  refine hK _ ?_;clear hK K
  refine AW_r rfl rfl λK hK=>?_
  simp (disch:=omega) [zG9,DtInst.cells,DtCmd.cells,DtId.cells,aNews,aAppend,aBuildSlice,chunks]
  repeat' first|(refine ⟨by omega,?_⟩)|(intro _)
  refine hK _ ?_;clear hK K
  refine zbj ?_
  refine AW_r rfl rfl λK hK=>?_
  simp (disch:=omega) [zG9,DtInst.cells,DtCmd.cells,DtId.cells,aNews,aAppend,aBuildSlice,chunks]
  repeat' first|(refine ⟨by omega,?_⟩)|(intro _)
  refine hK _ ?_;clear hK K
  refine zbl ?_
  refine zby (λmM sS=>∃(i:Nat),mM=l.length-i∧(i≤l.length∧(InstsP l∨i=0))∧sS = { env:=lkE [(0,.sl 16 (l.map DtInst.cells)),(3,.arr 96 0 (waT l i).length),(4,(.g (.int .i64 ((i:Nat)))))],ob:=lk [(96,.flat 2 ((waT l i).map DtId.cells))] }) ?_ ?_
  ·refine ⟨_,LeS.kr [(96,96)] [(0,.sl 16 (l.map DtInst.cells)),(3,.arr 96 0 (waT l (0)).length),(4,(.g (.int .i64 (((0):Nat)))))] [(96,.flat 2 ((waT l (0)).map DtId.cells))] (by simp [KpR,renV2,renV,zbt,zbk,zbp,zb0,DtId.cells,zgp];try (first|(rw [hsx];done)|(rw [hsx];simp;done))) (by simp [KpOR,renO,renV,zbt,zbp,zb0,zca,DtId.cells,zgp];try (first|(rw [hsx];done)|(rw [hsx];simp [DtId.cells];done))) (by rfl) (by rfl) (by simp) (by simp) (by rfl) (by simp [forms]),_,0,rfl,?_,rfl⟩
   ·simp
  ·rintro mM sS ⟨i,rfl,⟨hi,hi0⟩,rfl⟩
   have hwl:=zw7 l i hi
   refine zbj ?_
   refine AW_r rfl rfl λK hK=>?_
   simp (disch:=omega) [zG9,DtInst.cells,DtCmd.cells,DtId.cells,aNews,aAppend,aBuildSlice,chunks]
   repeat' first|(exfalso;omega)|(refine zcg (zbc zbw zbi) (zdv _ (by assumption)) rfl ?_;simp (disch:=omega) [zG9,DtInst.cells,DtCmd.cells,DtId.cells,aNews,aAppend,aBuildSlice,chunks])|(refine ⟨λ_=>?_,λ_=>?_⟩)|(refine ⟨by omega,?_⟩)|(intro _)
   all_goals (refine hK _ ?_;clear hK K)
   all_goals
    refine zbm rfl (λhc3=>?_) (λhc3=>?_)
    ·try simp [zG10,zbe,zbd] at hc3
     all_goals
      have hws:=waT_s l i (by omega)
      refine zbn ?_
      refine zbq ?_
      refine zbj ?_
      refine zbl ?_
      refine AW_r rfl rfl λK hK=>?_
      simp (disch:=omega) [zG9,DtInst.cells,DtCmd.cells,DtId.cells,aNews,aAppend,aBuildSlice,chunks]
      repeat' first|(exfalso;omega)|(refine zcg (zbc zbw (zbc (zbu rfl) zbi)) (zj4 _ _ (by assumption) (by assumption)) rfl ?_;simp (disch:=omega) [zG9,DtInst.cells,DtCmd.cells,DtId.cells,aNews,aAppend,aBuildSlice,chunks])|(refine ⟨λ_=>?_,λ_=>?_⟩)|(refine ⟨by omega,?_⟩)|(intro _)
      all_goals (refine hK _ ?_;clear hK K)
      all_goals
       refine zbm rfl (λhc4=>?_) (λhc4=>?_)
       ·try simp [zG10,zbe,zbd] at hc4
        all_goals
         refine zc8 rfl rfl λK hK=>?_
         simp (disch:=omega) [zG9,DtInst.cells,DtCmd.cells,DtId.cells,aNews,aAppend,aBuildSlice,chunks]
         repeat' first|(exfalso;omega)|(refine ⟨λ_=>?_,λ_=>?_⟩)|(refine ⟨by omega,?_⟩)|(intro _)
         all_goals (refine hK _ ?_;clear hK K)
         all_goals
          refine zbq ?_
          refine zc8 rfl rfl λK hK=>?_
          simp (disch:=omega) [zG9,DtInst.cells,DtCmd.cells,DtId.cells,aNews,aAppend,aBuildSlice,chunks]
          repeat' first|(refine ⟨by omega,?_⟩)|(intro _)
          refine hK _ ?_;clear hK K
          first | have hsx:=hws.1 ⟨by assumption,by assumption⟩ | have hsx:=hws.2 (λhh=>by first | exact hh.2 (by assumption) | exact absurd hh.1 (by assumption))
          refine ⟨_,LeS.kr [(96,640)] [(0,.sl 16 (l.map DtInst.cells)),(3,.arr 96 0 (waT l (i+1)).length),(4,(.g (.int .i64 (((i+1):Nat)))))] [(96,.flat 2 ((waT l (i+1)).map DtId.cells))] (by simp [KpR,renV2,renV,zbt,zbk,zbp,zb0,DtId.cells,zgp];try (first|(rw [hsx];done)|(rw [hsx];simp;done))) (by simp [KpOR,renO,renV,zbt,zbp,zb0,zca,DtId.cells,zgp];try (first|(rw [hsx];done)|(rw [hsx];simp [DtId.cells];done))) (by rfl) (by rfl) (by simp) (by simp) (by rfl) (by simp [forms]),_,?_,i+1,rfl,?_,rfl⟩
          ·omega
          ·exact ⟨by omega,.inl (by assumption)⟩
       ·try simp [zG10,zbe,zbd] at hc4
        all_goals
         refine zbn ?_
         refine zbq ?_
         refine zc8 rfl rfl λK hK=>?_
         simp (disch:=omega) [zG9,DtInst.cells,DtCmd.cells,DtId.cells,aNews,aAppend,aBuildSlice,chunks]
         repeat' first|(exfalso;omega)|(refine ⟨λ_=>?_,λ_=>?_⟩)|(refine ⟨by omega,?_⟩)|(intro _)
         all_goals (refine hK _ ?_;clear hK K)
         all_goals
          first | have hsx:=hws.1 ⟨by assumption,by assumption⟩ | have hsx:=hws.2 (λhh=>by first | exact hh.2 (by assumption) | exact absurd hh.1 (by assumption))
          refine ⟨_,LeS.kr [(96,96)] [(0,.sl 16 (l.map DtInst.cells)),(3,.arr 96 0 (waT l (i+1)).length),(4,(.g (.int .i64 (((i+1):Nat)))))] [(96,.flat 2 ((waT l (i+1)).map DtId.cells))] (by simp [KpR,renV2,renV,zbt,zbk,zbp,zb0,DtId.cells,zgp];try (first|(rw [hsx];done)|(rw [hsx];simp;done))) (by simp [KpOR,renO,renV,zbt,zbp,zb0,zca,DtId.cells,zgp];try (first|(rw [hsx];done)|(rw [hsx];simp [DtId.cells];done))) (by rfl) (by rfl) (by simp) (by simp) (by rfl) (by simp [forms]),_,?_,i+1,rfl,?_,rfl⟩
          ·omega
          ·exact ⟨by omega,.inl (by assumption)⟩
    ·try simp [zG10,zbe,zbd] at hc3
     all_goals
      refine zb3 ?_
      refine zbq ?_
      refine AW_r rfl rfl λK hK=>?_
      simp (disch:=omega) [zG9,DtInst.cells,DtCmd.cells,DtId.cells,aNews,aAppend,aBuildSlice,chunks]
      repeat' first|(exfalso;omega)|(refine ⟨λ_=>?_,λ_=>?_⟩)|(refine ⟨by omega,?_⟩)|(intro _)
      all_goals (refine hK _ ?_;clear hK K)
      all_goals
       refine zbr (zb6 ?_)
       simp (disch:=omega) [zG9,DtInst.cells,DtCmd.cells,DtId.cells,aNews,aAppend,aBuildSlice,chunks,hpb]
       all_goals first|(exfalso;exact absurd hp (by assumption))|(rw [waT_e l i (by omega)];done)|(rw [hi0.resolve_left hp,zgp];done) | trace_state
end Go.Proofs.YtodmafgmdlkhoaaGreat.Vs
end
section
open Go Go.Proofs Go.Shelf
namespace Go.Proofs
set_option linter.all false
def Tryz.laysSort_ren:Go.Shelf.Ren:=⟨fun | 6=>38 | 15=>96 | 14=>95 | 28=>143 | 29=>144 | 20=>135 | 21=>136 | 22=>137 | 23=>138 | 24=>139 | 25=>140 | 26=>141 | 27=>142 | 46=>165 | 47=>166 | 48=>167 | 49=>168 | 50=>169 | 57=>177 | n=>n,fun | 22=>26 | 24=>31 | 25=>67 | 3=>3 | 39=>113 | 0=>0 | 53=>149 | 55=>151 | 4=>4 | 46=>142 | 45=>141 | 50=>146 | 5=>5 | 9=>9 | 66=>162 | 70=>166 | 76=>172 | 77=>173 | n=>n,fun | n=>n⟩
theorem Tryz.laysSort:SlLaysF0.n6 Tryz.prog Tryz.laysSort_ren where
 mixed:=by kernel_rfl
 f6:=⟨Tryz.f38.name,by kernel_rfl,Tryz.func38.trans (congrArg some (by kernel_rfl))⟩
 f14:=⟨Tryz.f95.name,by kernel_rfl,Tryz.func95.trans (congrArg some (by kernel_rfl))⟩
 f15:=Tryz.func96.trans (congrArg some (by kernel_rfl))
 f20:=⟨Tryz.f135.name,by kernel_rfl,Tryz.func135.trans (congrArg some (by kernel_rfl))⟩
 f21:=⟨Tryz.f136.name,by kernel_rfl,Tryz.func136.trans (congrArg some (by kernel_rfl))⟩
 f22:=⟨Tryz.f137.name,by kernel_rfl,Tryz.func137.trans (congrArg some (by kernel_rfl))⟩
 f23:=⟨Tryz.f138.name,by kernel_rfl,Tryz.func138.trans (congrArg some (by kernel_rfl))⟩
 f24:=⟨Tryz.f139.name,by kernel_rfl,Tryz.func139.trans (congrArg some (by kernel_rfl))⟩
 f25:=⟨Tryz.f140.name,by kernel_rfl,Tryz.func140.trans (congrArg some (by kernel_rfl))⟩
 f26:=⟨Tryz.f141.name,by kernel_rfl,Tryz.func141.trans (congrArg some (by kernel_rfl))⟩
 f27:=⟨Tryz.f142.name,by kernel_rfl,Tryz.func142.trans (congrArg some (by kernel_rfl))⟩
 f28:=Tryz.func143.trans (congrArg some (by kernel_rfl))
 f29:=Tryz.func144.trans (congrArg some (by kernel_rfl))
 f46:=⟨Tryz.f165.name,by kernel_rfl,Tryz.func165.trans (congrArg some (by kernel_rfl))⟩
 f47:=Tryz.func166.trans (congrArg some (by kernel_rfl))
 f48:=Tryz.func167.trans (congrArg some (by kernel_rfl))
 f49:=⟨Tryz.f168.name,by kernel_rfl,Tryz.func168.trans (congrArg some (by kernel_rfl))⟩
 f50:=⟨Tryz.f169.name,by kernel_rfl,Tryz.func169.trans (congrArg some (by kernel_rfl))⟩
 f57:=⟨Tryz.f177.name,by kernel_rfl,Tryz.func177.trans (congrArg some (by kernel_rfl))⟩
 t0:=Tryz.underlying0
 a0:=Tryz.isAgg0
 z0:=Tryz.sizeOf0
 v0:=Tryz.zeroValue0
 t3:=Tryz.underlying3
 a3:=Tryz.isAgg3
 z3:=Tryz.sizeOf3
 v3:=Tryz.zeroValue3
 t4:=Tryz.underlying4
 a4:=Tryz.isAgg4
 z4:=Tryz.sizeOf4
 v4:=Tryz.zeroValue4
 t5:=Tryz.underlying5
 a5:=Tryz.isAgg5
 z5:=Tryz.sizeOf5
 v5:=Tryz.zeroValue5
 t9:=Tryz.underlying9
 a9:=Tryz.isAgg9
 z9:=Tryz.sizeOf9
 v9:=Tryz.zeroValue9
 t22:=Tryz.underlying26
 a22:=Tryz.isAgg26
 z22:=Tryz.sizeOf26
 v22:=Tryz.zeroValue26
 t25:=Tryz.underlying67
 a25:=Tryz.isAgg67
 z25:=Tryz.sizeOf67
 v25:=Tryz.zeroValue67
 t39:=Tryz.underlying113
 a39:=Tryz.isAgg113
 z39:=Tryz.sizeOf113
 v39:=Tryz.zeroValue113
 t45:=Tryz.underlying141
 a45:=Tryz.isAgg141
 z45:=Tryz.sizeOf141
 v45:=Tryz.zeroValue141
 t46:=Tryz.underlying142
 a46:=Tryz.isAgg142
 z46:=Tryz.sizeOf142
 v46:=Tryz.zeroValue142
 t50:=Tryz.underlying146
 a50:=Tryz.isAgg146
 z50:=Tryz.sizeOf146
 v50:=Tryz.zeroValue146
 t53:=Tryz.underlying149
 a53:=Tryz.isAgg149
 z53:=Tryz.sizeOf149
 v53:=Tryz.zeroValue149
 t55:=Tryz.underlying151
 a55:=Tryz.isAgg151
 z55:=Tryz.sizeOf151
 v55:=Tryz.zeroValue151
 t66:=Tryz.underlying162
 a66:=Tryz.isAgg162
 z66:=Tryz.sizeOf162
 v66:=Tryz.zeroValue162
 t70:=Tryz.underlying166
 a70:=Tryz.isAgg166
 z70:=Tryz.sizeOf166
 v70:=Tryz.zeroValue166
 t76:=Tryz.underlying172
 a76:=Tryz.isAgg172
 z76:=Tryz.sizeOf172
 v76:=Tryz.zeroValue172
 t77:=Tryz.underlying173
 a77:=Tryz.isAgg173
 z77:=Tryz.sizeOf173
 v77:=Tryz.zeroValue173
end Go.Proofs
end
section
open Go Go.Proofs.YtodmafgmdlkhoaaGreat.Vs Go.Proofs Go.Sort
namespace Go.Proofs.YtodmafgmdlkhoaaGreat.Vs
set_option linter.all false
set_option linter.unusedSimpArgs false
set_option linter.unusedVariables false
def encId(x:DtId):List Value:=[.int .i64 x.fRep,.int .i64 x.fSlot]
theorem swo_id:SWO (ltOf cmpI):=by
 refine ⟨λx=>?_,λx y z h1 h2=>?_,λx y z h1 h2=>?_⟩
 ·rw [zfi,zbf];exact zgb x
 ·rw [zfi,zbb] at h1 h2 ⊢;exact zdc h1 h2
 ·rw [zfi,zbf] at h1 h2 ⊢
  intro h
  by_cases e:y=x
  ·subst e;exact h2 h
  ·exact h2 (zdc (zhx h1 (λe2=>e e2.symm)) h)
instance:Inhabited DtId:=⟨⟨0,0⟩⟩
theorem sortIds(l:List DtId)(hl:l.length≤1048576):XCall Tryz.prog 38 [.arr 8 0 l.length,.fn 39 [] []] [.own 2 (l.map DtId.cells)] (.tup []) [.own 2 ((srt cmpI l).map DtId.cells)] []:=by
 refine sortFX_of (enc:=encId) (λ_=>rfl) (λx v hv=>?_) (cf:=cmpI) ⟨_,Tryz.func38,by kernel_rfl,by kernel_rfl⟩ (λcb blk cap d w hcmp hH hblk hsz=>?_) (λp cap fv w=>?_) (λx y=>?_) l hl
 ·simp only [encId,List.mem_cons,List.not_mem_nil,or_false] at hv
  rcases hv with rfl | rfl<;>rfl
 ·exact Go.Proofs.AnyQ.slices_SortFunc_total Tryz.laysSort 2 (fun w => Tryz.isAgg31 w) (fun w => Tryz.sizeOf31 w) encId (fun _ => rfl) (fun x v hv => by
   simp only [encId,List.mem_cons,List.not_mem_nil,or_false] at hv
   rcases hv with rfl | rfl<;>rfl) cmpI swo_id _ cb blk 0 cap d w (λargs w=>enters_of Tryz.func39 (by kernel_rfl) rfl args w) hcmp hH hblk hsz (λx y h1 h2=>by
    rw [zfi,zbf] at h1 h2
    exact Classical.byContradiction λh=>h2 (zhx h1 h))
 ·exact Go.Proofs.AnyF.slices_SortFunc_none Tryz.laysSort p cap fv w
 ·exact zhv x y
end Go.Proofs.YtodmafgmdlkhoaaGreat.Vs
end
section
open Go Go.Proofs Go.Proofs.YtodmafgmdlkhoaaGreat.Vs
namespace Go.Proofs.YtodmafgmdlkhoaaGreat.Vs
set_option linter.all false
section
variable {P:Program}{nt:Nat}{fs:List Nat}{Q:AExit→St→Prop}{st:St}
theorem AW_xa2e{id:Nat}{l:List Oper}(k:Nat){cs cs2:List CO}{dst:Option Nat}{cl:Call}(hc:cosOf l.toArray l=some cs)(hk:cs.drop k=⟨dst,.call cl,none⟩ :: cs2)(hb:cl.callee=.builtin .append)(hd:dstOk nt l.toArray=true)
 (h:∀K:St→Prop,(∀s,Q .normal s→K s)→xreg P (cs.take k) st λs=>appT P s dst cl cs2 K):AW P nt fs (.region id l.toArray false) Q st :=
 AW_xae (cs.take k) (by rw [←hk,List.take_append_drop];exact hc) hb hd h
end
set_option linter.unusedSimpArgs false
set_option linter.unusedVariables false
set_option maxRecDepth 100000
theorem zbv(l:List DtId):scR (l.map DtId.cells)=true:=zkl _ (λ_=>rfl) l
theorem scR_idd(l:List DtId)(n:Nat):scR ((l.map DtId.cells).drop n)=true:=by rw [←List.map_drop];exact zbv _
theorem zcj(q:Bool)(st:St)(hs Z:List Nat)(g g':FuncId):ax2 q st hs Z (.fn g [] []) (.fn g' [] [])=(g'=g):=by
 apply propext
 constructor
 ·intro h;first | exact h.1 | exact h.1.symm|(simp [ax2,ax1,ax0] at h;simp_all)
 ·rintro rfl;first | exact ⟨rfl,rfl,rfl⟩|(simp [ax2,ax1,ax0];done)
theorem zj9{l:List DtInst}{id:DtId}(h:(instAt l id).fStatus=3):depsL l id=(instAt l id).fDeps:=by unfold depsL;rw [if_pos h]
def zG11:=And.intro @zb4 (And.intro @gE (And.intro @tP (And.intro @zbh (And.intro @zbv (And.intro @and_assoc @zcj)))))
def zG12:=And.intro @zbp (And.intro @zb0 (And.intro @zbt (And.intro @zbv @scR_idd)))
theorem ztg(l:List DtInst)(id:DtId)(hs:szS DtInst.sz l≤1048576)(hn:l.length≤1048576)(hm:∀x∈l,InstSm x)(hp:InstsP l):XCall Tryz.prog 13 [.sl 16 (l.map DtInst.cells),.agg (DtId.cells id)] [] (.arr 16 0 (reachL l id).length) [] [.own 2 ((reachL l id).map DtId.cells)]:=by
 have hpb:=zcb hp
 refine zb5 Tryz.func13 (by rfl) (by rfl) (by rw [Tryz.ntmps13];exact Nat.le_of_ble_eq_true rfl) rfl (by simp) rfl rfl ?_
 rw [Tryz.ntmps13]
 refine zfl   ?_
 refine AW_k [(0,_),(1,_)] ⟨rfl,rfl,trivial⟩ ?_
 refine AW_x rfl rfl λK hK=>?_
 simp (disch:=omega) [zG11,DtInst.cells,DtCmd.cells,DtId.cells]
 repeat' first|(refine ⟨by omega,?_⟩)|(intro _)
 refine hK _ ?_;clear hK K
 refine zbj ?_
 refine AW_x rfl rfl λK hK=>?_
 simp (disch:=omega) [zG11,DtInst.cells,DtCmd.cells,DtId.cells]
 repeat' first|(exfalso;omega)|(refine zcx (zbc zbw zbi) (zct _ (by assumption)) rfl ?_;simp (disch:=omega) [zG11,DtInst.cells,DtCmd.cells,DtId.cells])|(refine zcy (zct _ (by assumption)) (by rfl) ?_ ?_;(focus (simp (disch:=omega) [zG11,DtInst.cells,DtCmd.cells,DtId.cells];done));simp (disch:=omega) [zG11,DtInst.cells,DtCmd.cells,DtId.cells])|(refine ⟨by omega,?_⟩)|(simp (disch:=omega) [zG11,DtInst.cells,DtCmd.cells,DtId.cells])|(intro _)
 refine hK _ ?_;clear hK K
 refine zbm rfl (λhc1=>?_) (λhc1=>?_)
 ·try simp [zG10,zbe,zbd] at hc1
  all_goals
   refine AW_x rfl rfl λK hK=>?_
   simp (disch:=omega) [zG11,DtInst.cells,DtCmd.cells,DtId.cells]
   repeat' first|(exfalso;omega)|(refine ⟨λ_=>?_,λ_=>?_⟩)|(refine ⟨by omega,?_⟩)|(simp (disch:=omega) [zG11,DtInst.cells,DtCmd.cells,DtId.cells])|(intro _)
   all_goals (refine hK _ ?_;clear hK K)
   all_goals
    refine zbr (zc2 [224] [] (by simp [List.range_succ,zbp,zb0,zbt]) (by simp) ?_)
    simp (disch:=omega) [zG11,DtInst.cells,DtCmd.cells,DtId.cells,hpb]
    all_goals first|(exfalso;exact absurd hp (by assumption))|(have he:=ztc hp hb (by omega);have hl2:=znl cmpI o;rw [he] at hl2;rw [he];exact ⟨hl2,rfl⟩) | trace_state
 ·try simp [zG10,zbe,zbd] at hc1
  all_goals
   refine zbn ?_
   refine zbq ?_
   refine AW_x rfl rfl λK hK=>?_
   simp (disch:=omega) [zG11,DtInst.cells,DtCmd.cells,DtId.cells]
   repeat' first|(exfalso;omega)|(refine ⟨λ_=>?_,λ_=>?_⟩)|(refine ⟨by omega,?_⟩)|(simp (disch:=omega) [zG11,DtInst.cells,DtCmd.cells,DtId.cells])|(intro _)
   all_goals (refine hK _ ?_;clear hK K)
   all_goals
    refine AW_x rfl rfl λK hK=>?_
    simp (disch:=omega) [zG11,DtInst.cells,DtCmd.cells,DtId.cells]
    repeat' first|(refine ⟨by omega,?_⟩)|(simp (disch:=omega) [zG11,DtInst.cells,DtCmd.cells,DtId.cells])|(intro _)
    refine hK _ ?_;clear hK K
    refine zbj ?_
    refine zbl ?_
    refine zby (λmM sS=>∃(off:Nat) (zs:List DtId) (o:List DtId),mM=2*(18-o.length)+(zs.length-off)∧(Bf l id none [] off zs o)∧sS = { env:=lkE [(0,.sl 16 (l.map DtInst.cells)),(3,.ptr 64 0),(5,.arr 501 0 o.length),(6,.arr 502 off (zs.length-off))],ob:=lk [(64,.cells (DtId.cells id)),(501,.win 2 (o.map DtId.cells)),(502,.win 2 (zs.map DtId.cells))] }) ?_ ?_
    ·refine ⟨_,LeS.kx [(64,64),(501,224),(502,256)] [(0,.sl 16 (l.map DtInst.cells)),(3,.ptr 64 0),(5,.arr 501 0 ([]).length),(6,.arr 502 (0) (([id]).length-(0)))] [(64,.cells (DtId.cells id)),(501,.win 2 (([]).map DtId.cells)),(502,.win 2 (([id]).map DtId.cells))] (by simp [zG12,KpR,renV2,renV,zbk,DtId.cells];try rfl) (by simp [zG12,KpOX,renO,plO,cvO,renV,pl1,DtId.cells];try rfl) (by rfl) (by simp) (by simp) (by rfl) (by simp [formsX,List.range_succ,zbp,zb0]),_,0,[id],[],rfl,?_,rfl⟩
     ·exact bf_0 l id
    ·rintro mM sS ⟨off,zs,o,rfl,hb,rfl⟩
     have hol:=zlf hp hb
     have hzl:=hb.hz
     have hol2:=hb.ho
     refine zbj ?_
     refine AW_x rfl rfl λK hK=>?_
     simp (disch:=omega) [zG11,DtInst.cells,DtCmd.cells,DtId.cells]
     repeat' first|(refine ⟨by omega,?_⟩)|(simp (disch:=omega) [zG11,DtInst.cells,DtCmd.cells,DtId.cells])|(intro _)
     refine hK _ ?_;clear hK K
     refine zbm rfl (λhc2=>?_) (λhc2=>?_)
     ·try simp [zG10,zbe,zbd] at hc2
      all_goals
       refine zbn ?_
       refine zbq ?_
       refine zbl ?_
       refine AW_x rfl rfl λK hK=>?_
       simp (disch:=omega) [zG11,DtInst.cells,DtCmd.cells,DtId.cells]
       repeat' first|(exfalso;omega)|(refine zcx (zbc zbw (zbc (zbu rfl) zbi)) (zfu _ _ (by assumption) (by assumption)) rfl ?_;simp (disch:=omega) [zG11,DtInst.cells,DtCmd.cells,DtId.cells])|(refine zcy (zfu _ _ (by assumption) (by assumption)) (by rfl) ?_ ?_;(focus (simp (disch:=omega) [zG11,DtInst.cells,DtCmd.cells,DtId.cells];done));simp (disch:=omega) [zG11,DtInst.cells,DtCmd.cells,DtId.cells])|(refine ⟨λ_=>?_,λ_=>?_⟩)|(refine ⟨by omega,?_⟩)|(simp (disch:=omega) [zG11,DtInst.cells,DtCmd.cells,DtId.cells])|(intro _)
       all_goals (refine hK _ ?_;clear hK K)
       all_goals
        refine AW_x rfl rfl λK hK=>?_
        simp (disch:=omega) [zG11,DtInst.cells,DtCmd.cells,DtId.cells]
        repeat' first|(refine ⟨by omega,?_⟩)|(intro _)
        refine hK _ ?_;clear hK K
        refine zbj ?_
        refine AW_x rfl rfl λK hK=>?_
        simp (disch:=omega) [zG11,DtInst.cells,DtCmd.cells,DtId.cells]
        repeat' first|(refine ⟨by omega,?_⟩)|(intro _)
        refine hK _ ?_;clear hK K
        refine zbm rfl (λhc3=>?_) (λhc3=>?_)
        ·try simp [zG10,zbe,zbd] at hc3
         all_goals
          refine zb3 ?_
          refine ⟨_,LeS.kx [(64,64),(501,501),(502,502)] [(0,.sl 16 (l.map DtInst.cells)),(3,.ptr 64 0),(5,.arr 501 0 (o).length),(6,.arr 502 (off+1) ((zs).length-(off+1)))] [(64,.cells (DtId.cells id)),(501,.win 2 ((o).map DtId.cells)),(502,.win 2 ((zs).map DtId.cells))] (by simp [zG12,KpR,renV2,renV,zbk,DtId.cells];try rfl) (by simp [zG12,KpOX,renO,plO,cvO,renV,pl1,DtId.cells];try rfl) (by rfl) (by simp) (by simp) (by rfl) (by simp [formsX,List.range_succ,zbp,zb0]),_,?_,off+1,zs,o,rfl,?_,rfl⟩
          ·omega
          ·first | exact zzh (bf_pop hb (by omega)) (zk1 hc3)|(rw [List.take_of_length_le (by omega)] at hb2;exact zzh hb2 (zj9 hc3))
        ·try simp [zG10,zbe,zbd] at hc3
         all_goals
          refine zbn ?_
          refine zbq ?_
          refine AW_x rfl rfl λK hK=>?_
          simp (disch:=omega) [zG11,DtInst.cells,DtCmd.cells,DtId.cells]
          repeat' first|(exfalso;omega)|(refine ⟨λ_=>?_,λ_=>?_⟩)|(refine ⟨by omega,?_⟩)|(simp (disch:=omega) [zG11,DtInst.cells,DtCmd.cells,DtId.cells])|(intro _)
          all_goals (refine hK _ ?_;clear hK K)
          all_goals
           refine zbl ?_
           refine zby (λmM sS=>∃(i:Nat) (off2:Nat) (zs2:List DtId) (o2:List DtId),mM=(instAt l zs[off]).fDeps.length-i∧(i≤(instAt l zs[off]).fDeps.length∧Bf l id (some zs[off]) ((instAt l zs[off]).fDeps.take i) off2 zs2 o2∧2*(18-o2.length)+(zs2.length-off2)<2*(18-o.length)+(zs.length-off))∧sS = { env:=lkE [(0,.sl 16 (l.map DtInst.cells)),(3,.ptr 64 0),(5,.arr 501 0 o2.length),(6,.arr 502 off2 (zs2.length-off2)),(30,.sl 2 ((instAt l zs[off]).fDeps.map DtId.cells)),(31,(.g (.int .i64 (((instAt l zs[off]).fDeps.length:Nat))))),(32,(.g (.int .i64 ((i:Nat)))))],ob:=lk [(64,.cells (DtId.cells id)),(501,.win 2 (o2.map DtId.cells)),(502,.win 2 (zs2.map DtId.cells))] }) ?_ ?_
           ·refine ⟨_,LeS.kx [(64,64),(501,501),(502,502)] [(0,.sl 16 (l.map DtInst.cells)),(3,.ptr 64 0),(5,.arr 501 0 (o).length),(6,.arr 502 (off+1) ((zs).length-(off+1))),(30,.sl 2 ((instAt l zs[off]).fDeps.map DtId.cells)),(31,(.g (.int .i64 (((instAt l zs[off]).fDeps.length:Nat))))),(32,(.g (.int .i64 (((0):Nat)))))] [(64,.cells (DtId.cells id)),(501,.win 2 ((o).map DtId.cells)),(502,.win 2 ((zs).map DtId.cells))] (by simp [zG12,KpR,renV2,renV,zbk,DtId.cells];try omega) (by simp [zG12,KpOX,renO,plO,cvO,renV,pl1,DtId.cells];try (simp [List.map_drop,List.take_of_length_le,DtId.cells];try rfl)) (by rfl) (by simp) (by simp) (by rfl) (by simp [formsX,List.range_succ,zbp,zb0]),_,0,off+1,zs,o,rfl,?_,rfl⟩
            ·exact ⟨by simp,bf_pop hb (by omega),by omega⟩
           ·rintro mM sS ⟨i,off2,zs2,o2,rfl,⟨hi,hb2,hme⟩,rfl⟩
            have hol3:=zlf hp hb2
            have hdl:=zcl hp zs[off]
            rw [zj9 hc3] at hdl
            have hzl3:=hb2.hz
            have hol4:=hb2.ho
            refine AW_x rfl rfl λK hK=>?_
            simp (disch:=omega) [zG11,DtInst.cells,DtCmd.cells,DtId.cells]
            repeat' first|(refine ⟨by omega,?_⟩)|(intro _)
            refine hK _ ?_;clear hK K
            refine zbj ?_
            refine zbm rfl (λhc4=>?_) (λhc4=>?_)
            ·try simp [zG10,zbe,zbd] at hc4
             all_goals
              have hdm:(instAt l zs[off]).fDeps[i]∈depsL l zs[off]:=by rw [zj9 hc3];exact List.getElem_mem _
              have hts:=List.take_succ_eq_append_getElem (show i<(instAt l zs[off]).fDeps.length by omega)
              refine zbn ?_
              refine zbq ?_
              refine zbj ?_
              refine zbl ?_
              refine AW_x rfl rfl λK hK=>?_
              simp (disch:=omega) [zG11,DtInst.cells,DtCmd.cells,DtId.cells]
              repeat' first|(exfalso;omega)|(refine ⟨λ_=>?_,λ_=>?_⟩)|(refine ⟨by omega,?_⟩)|(simp (disch:=omega) [zG11,DtInst.cells,DtCmd.cells,DtId.cells])|(intro _)
              all_goals (refine hK _ ?_;clear hK K)
              all_goals
               refine AW_x rfl rfl λK hK=>?_
               simp (disch:=omega) [zG11,DtInst.cells,DtCmd.cells,DtId.cells]
               repeat' first|(exfalso;omega)|(refine zcx (zbc zbw (zbc (zbu rfl) zbi)) (zdy o2 (instAt l zs[off]).fDeps[i] (by omega)) rfl ?_;simp (disch:=omega) [zG11,DtInst.cells,DtCmd.cells,DtId.cells])|(refine zcy (zdy o2 (instAt l zs[off]).fDeps[i] (by omega)) (by rfl) ?_ ?_;(focus (simp (disch:=omega) [zG11,DtInst.cells,DtCmd.cells,DtId.cells];done));simp (disch:=omega) [zG11,DtInst.cells,DtCmd.cells,DtId.cells])|(refine ⟨by omega,?_⟩)|(simp (disch:=omega) [zG11,DtInst.cells,DtCmd.cells,DtId.cells])|(intro _)
               refine hK _ ?_;clear hK K
               refine zbm rfl (λhc5=>?_) (λhc5=>?_)
               ·try simp [zG10,zbe,zbd] at hc5
                all_goals
                 refine AW_x rfl rfl λK hK=>?_
                 simp (disch:=omega) [zG11,DtInst.cells,DtCmd.cells,DtId.cells]
                 repeat' first|(exfalso;omega)|(refine ⟨λ_=>?_,λ_=>?_⟩)|(refine ⟨by omega,?_⟩)|(simp (disch:=omega) [zG11,DtInst.cells,DtCmd.cells,DtId.cells])|(intro _)
                 all_goals (refine hK _ ?_;clear hK K)
                 all_goals
                  refine AW_xa2e 3 rfl rfl rfl rfl λK hK=>?_
                  simp (disch:=omega) [zG11,DtInst.cells,DtCmd.cells,DtId.cells,appT,aAppG,List.take_succ_cons,List.take_zero]
                  repeat' first|(exfalso;omega)|(refine ⟨λ_=>?_,λ_=>?_⟩)|(refine ⟨by omega,?_⟩)|(simp (disch:=omega) [zG11,DtInst.cells,DtCmd.cells,DtId.cells,appT,aAppG,List.take_succ_cons,List.take_zero])|(refine ⟨?_,?_⟩)|(intro _)
                  all_goals (refine hK _ ?_;clear hK K)
                  ·skip
                   refine zbq ?_
                   refine zcc rfl rfl λK hK=>?_
                   simp (disch:=omega) [zG11,DtInst.cells,DtCmd.cells,DtId.cells]
                   repeat' first|(refine ⟨by omega,?_⟩)|(intro _)
                   refine hK _ ?_;clear hK K
                   refine ⟨_,LeS.kx [(64,64),(501,704),(502,768)] [(0,.sl 16 (l.map DtInst.cells)),(3,.ptr 64 0),(5,.arr 501 0 (o2++[(instAt l zs[off]).fDeps[i]]).length),(6,.arr 502 (off2) ((zs2++[(instAt l zs[off]).fDeps[i]]).length-(off2))),(30,.sl 2 ((instAt l zs[off]).fDeps.map DtId.cells)),(31,(.g (.int .i64 (((instAt l zs[off]).fDeps.length:Nat))))),(32,(.g (.int .i64 (((i+1):Nat)))))] [(64,.cells (DtId.cells id)),(501,.win 2 ((o2++[(instAt l zs[off]).fDeps[i]]).map DtId.cells)),(502,.win 2 ((zs2++[(instAt l zs[off]).fDeps[i]]).map DtId.cells))] (by simp [zG12,KpR,renV2,renV,zbk,DtId.cells];try (first | omega|(simp (disch:=omega) [zb4];omega))) (by simp [zG12,KpOX,renO,plO,cvO,renV,pl1,DtId.cells];try (simp [List.map_drop,List.take_of_length_le,DtId.cells];try rfl)) (by rfl) (by simp) (by simp) (by rfl) (by simp [formsX,List.range_succ,zbp,zb0]),_,?_,i+1,off2,zs2++[(instAt l zs[off]).fDeps[i]],o2++[(instAt l zs[off]).fDeps[i]],rfl,?_,rfl⟩
                   ·omega
                   ·first|(have hnw:=zw0 hb2 (by assumption);rw [←hts] at hnw;exact ⟨by omega,hnw,by omega⟩)|(have hnw:=zw1 hb2 (by assumption) hdm;have hlw:=zlf hp hnw;rw [←hts] at hnw;refine ⟨by omega,hnw,?_⟩;simp at hlw ⊢;omega)|(have hnw:=zw2 hb2 (by assumption) hdm;have hlw:=zlf hp hnw;rw [←hts] at hnw;refine ⟨by omega,hnw,?_⟩;simp at hlw ⊢;omega)
                  ·skip
                   refine zbq ?_
                   refine zcc rfl rfl λK hK=>?_
                   simp (disch:=omega) [zG11,DtInst.cells,DtCmd.cells,DtId.cells]
                   repeat' first|(refine ⟨by omega,?_⟩)|(intro _)
                   refine hK _ ?_;clear hK K
                   refine ⟨_,LeS.kx [(64,64),(501,704),(502,768)] [(0,.sl 16 (l.map DtInst.cells)),(3,.ptr 64 0),(5,.arr 501 0 (o2++[(instAt l zs[off]).fDeps[i]]).length),(6,.arr 502 (0) ((zs2.drop off2++[(instAt l zs[off]).fDeps[i]]).length-(0))),(30,.sl 2 ((instAt l zs[off]).fDeps.map DtId.cells)),(31,(.g (.int .i64 (((instAt l zs[off]).fDeps.length:Nat))))),(32,(.g (.int .i64 (((i+1):Nat)))))] [(64,.cells (DtId.cells id)),(501,.win 2 ((o2++[(instAt l zs[off]).fDeps[i]]).map DtId.cells)),(502,.win 2 ((zs2.drop off2++[(instAt l zs[off]).fDeps[i]]).map DtId.cells))] (by simp [zG12,KpR,renV2,renV,zbk,DtId.cells];try (first | omega|(simp (disch:=omega) [zb4];omega))) (by simp [zG12,KpOX,renO,plO,cvO,renV,pl1,DtId.cells];try (simp [List.map_drop,List.take_of_length_le,DtId.cells];try rfl)) (by rfl) (by simp) (by simp) (by rfl) (by simp [formsX,List.range_succ,zbp,zb0]),_,?_,i+1,0,zs2.drop off2++[(instAt l zs[off]).fDeps[i]],o2++[(instAt l zs[off]).fDeps[i]],rfl,?_,rfl⟩
                   ·omega
                   ·first|(have hnw:=zw0 hb2 (by assumption);rw [←hts] at hnw;exact ⟨by omega,hnw,by omega⟩)|(have hnw:=zw1 hb2 (by assumption) hdm;have hlw:=zlf hp hnw;rw [←hts] at hnw;refine ⟨by omega,hnw,?_⟩;simp at hlw ⊢;omega)|(have hnw:=zw2 hb2 (by assumption) hdm;have hlw:=zlf hp hnw;rw [←hts] at hnw;refine ⟨by omega,hnw,?_⟩;simp at hlw ⊢;omega)
               ·try simp [zG10,zbe,zbd] at hc5
                all_goals
                 refine zbn ?_
                 refine zbq ?_
                 refine zcc rfl rfl λK hK=>?_
                 simp (disch:=omega) [zG11,DtInst.cells,DtCmd.cells,DtId.cells]
                 repeat' first|(exfalso;omega)|(refine ⟨λ_=>?_,λ_=>?_⟩)|(refine ⟨by omega,?_⟩)|(simp (disch:=omega) [zG11,DtInst.cells,DtCmd.cells,DtId.cells])|(intro _)
                 all_goals (refine hK _ ?_;clear hK K)
                 all_goals
                  refine ⟨_,LeS.kx [(64,64),(501,501),(502,502)] [(0,.sl 16 (l.map DtInst.cells)),(3,.ptr 64 0),(5,.arr 501 0 (o2).length),(6,.arr 502 (off2) ((zs2).length-(off2))),(30,.sl 2 ((instAt l zs[off]).fDeps.map DtId.cells)),(31,(.g (.int .i64 (((instAt l zs[off]).fDeps.length:Nat))))),(32,(.g (.int .i64 (((i+1):Nat)))))] [(64,.cells (DtId.cells id)),(501,.win 2 ((o2).map DtId.cells)),(502,.win 2 ((zs2).map DtId.cells))] (by simp [zG12,KpR,renV2,renV,zbk,DtId.cells];try (first | omega|(simp (disch:=omega) [zb4];omega))) (by simp [zG12,KpOX,renO,plO,cvO,renV,pl1,DtId.cells];try (simp [List.map_drop,List.take_of_length_le,DtId.cells];try rfl)) (by rfl) (by simp) (by simp) (by rfl) (by simp [formsX,List.range_succ,zbp,zb0]),_,?_,i+1,off2,zs2,o2,rfl,?_,rfl⟩
                  ·omega
                  ·first|(have hnw:=zw0 hb2 (by assumption);rw [←hts] at hnw;exact ⟨by omega,hnw,by omega⟩)|(have hnw:=zw1 hb2 (by assumption) hdm;have hlw:=zlf hp hnw;rw [←hts] at hnw;refine ⟨by omega,hnw,?_⟩;simp at hlw ⊢;omega)|(have hnw:=zw2 hb2 (by assumption) hdm;have hlw:=zlf hp hnw;rw [←hts] at hnw;refine ⟨by omega,hnw,?_⟩;simp at hlw ⊢;omega)
            ·try simp [zG10,zbe,zbd] at hc4
             all_goals
              refine zb3 ?_
              refine ⟨_,LeS.kx [(64,64),(501,501),(502,502)] [(0,.sl 16 (l.map DtInst.cells)),(3,.ptr 64 0),(5,.arr 501 0 (o2).length),(6,.arr 502 (off2) ((zs2).length-(off2)))] [(64,.cells (DtId.cells id)),(501,.win 2 ((o2).map DtId.cells)),(502,.win 2 ((zs2).map DtId.cells))] (by simp [zG12,KpR,renV2,renV,zbk,DtId.cells];try rfl) (by simp [zG12,KpOX,renO,plO,cvO,renV,pl1,DtId.cells];try rfl) (by rfl) (by simp) (by simp) (by rfl) (by simp [formsX,List.range_succ,zbp,zb0]),_,?_,off2,zs2,o2,rfl,?_,rfl⟩
              ·omega
              ·first | exact zzh (bf_pop hb (by omega)) (zk1 hc3)|(rw [List.take_of_length_le (by omega)] at hb2;exact zzh hb2 (zj9 hc3))
     ·try simp [zG10,zbe,zbd] at hc2
      all_goals
       refine zb3 ?_
       refine zbq ?_
       refine AW_x rfl rfl λK hK=>?_
       simp (disch:=omega) [zG11,DtInst.cells,DtCmd.cells,DtId.cells]
       repeat' first|(exfalso;omega)|(refine zjy [501] true [] (sortIds o (by omega)) ?_ ?_ ?_;(focus (simp [List.range_succ,nmC];done));(focus (simp (disch:=omega) [zG11,DtInst.cells,DtCmd.cells,DtId.cells];done));simp (disch:=omega) [zG11,DtInst.cells,DtCmd.cells,DtId.cells])|(refine ⟨λ_=>?_,λ_=>?_⟩)|(refine ⟨by omega,?_⟩)|(simp (disch:=omega) [zG11,DtInst.cells,DtCmd.cells,DtId.cells])|(intro _)
       all_goals (refine hK _ ?_;clear hK K)
       all_goals
        refine AW_x rfl rfl λK hK=>?_
        simp (disch:=omega) [zG11,DtInst.cells,DtCmd.cells,DtId.cells]
        repeat' first|(refine ⟨by omega,?_⟩)|(intro _)
        refine hK _ ?_;clear hK K
        refine zbr (zc2 [501] [] (by simp [List.range_succ,zbp,zb0,zbt]) (by simp) ?_)
        simp (disch:=omega) [zG11,DtInst.cells,DtCmd.cells,DtId.cells,hpb]
        all_goals first|(exfalso;exact absurd hp (by assumption))|(have he:=ztc hp hb (by omega);have hl2:=znl cmpI o;rw [he] at hl2;rw [he];exact ⟨hl2,rfl⟩) | trace_state
end Go.Proofs.YtodmafgmdlkhoaaGreat.Vs
end
