import Derived.Test.YtodmafgmdlkhoaaGreatSM7
import Derived.Test.YtodmafgmdlkhoaaGreatVs9
import Derived.Test.YtodmafgmdlkhoaaGreatSM1
section
namespace Go.Proofs.YtodmafgmdlkhoaaGreat.Vs
set_option linter.all false
/-! a command leaves a catalog valid -/
theorem zlc:∀(x y z:List UInt8),Op.bytesLess x y=true→Op.bytesLess y z=true→Op.bytesLess x z=true
 | [],[],_,h,_=>by simp [Op.bytesLess] at h
 | [],_ :: _,[],_,h=>by simp [Op.bytesLess] at h
 | [],_ :: _,_ :: _,_,_=>by simp [Op.bytesLess]
 | _ :: _,[],_,h,_=>by simp [Op.bytesLess] at h
 | _ :: _,_ :: _,[],_,h=>by simp [Op.bytesLess] at h
 | a :: x,b :: y,c :: z,h1,h2=>by
  simp only [Op.bytesLess,Bool.or_eq_true,Bool.and_eq_true,decide_eq_true_eq,beq_iff_eq] at h1 h2 ⊢
  rcases h1 with h1 | ⟨rfl,h1⟩
  ·rcases h2 with h2 | ⟨rfl,h2⟩
   ·exact .inl (UInt8.lt_trans h1 h2)
   ·exact .inl h1
  ·rcases h2 with h2 | ⟨rfl,h2⟩
   ·exact .inl h2
   ·exact .inr ⟨rfl,zlc x y z h1 h2⟩
theorem bl_tot:∀(x y:List UInt8),Op.bytesLess x y=false→x≠y→Op.bytesLess y x=true
 | [],[],_,h=>(h rfl).elim
 | [],_ :: _,h,_=>by simp [Op.bytesLess] at h
 | _ :: _,[],_,_=>by simp [Op.bytesLess]
 | a :: x,b :: y,h,hne=>by
  simp only [Op.bytesLess,Bool.or_eq_false_iff,decide_eq_false_iff_not,Bool.and_eq_false_iff,beq_eq_false_iff_ne] at h
  simp only [Op.bytesLess,Bool.or_eq_true,Bool.and_eq_true,decide_eq_true_eq,beq_iff_eq]
  by_cases e:a=b
  ·subst e
   refine .inr ⟨rfl,bl_tot x y (h.2.resolve_left (λh=>h rfl)) λe=>hne (by rw [e])⟩
  ·refine .inl ?_
   have:=h.1
   rw [UInt8.lt_iff_toNat_lt] at this ⊢
   have hn:a.toNat≠b.toNat:=λhh=>e (UInt8.toNat_inj.1 hh)
   omega
theorem zxt:∀(l:List DtCSnap),(l.map (·.fName)).Nodup→∀(k:Nat) p,l[k]? = some p→findN l p.fName=k:=by
 intro l hnd k p hp
 obtain ⟨hk,rfl⟩:=List.getElem?_eq_some_iff.1 hp
 unfold findN
 refine zcs hk (by rw [zbc]) λj x hj hx=>?_
 obtain ⟨hj2,rfl⟩:=List.getElem?_eq_some_iff.1 hx
 rw [zbb]
 intro e
 have:=List.pairwise_iff_getElem.1 hnd j k (by simpa using hj2) (by simpa using hk) hj
 simp only [List.getElem_map] at this
 exact this e
theorem nd_findN(l:List DtCSnap)(h:∀(k:Nat) p,l[k]? = some p→findN l p.fName=k):(l.map (·.fName)).Nodup:=by
 refine List.pairwise_iff_getElem.2 λj k hj hk hjk e=>?_
 simp only [List.length_map] at hj hk
 simp only [List.getElem_map] at e
 have h1:=h j _ (List.getElem?_eq_getElem hj)
 have h2:=h k _ (List.getElem?_eq_getElem hk)
 rw [e,h2] at h1
 omega
def SetN(s:DtCSet):Prop:=Word s.fName∧s.fSnaps.length≤5∧(∀p∈s.fSnaps,SnapP p)∧(s.fSnaps.map (·.fName)).Nodup
theorem zxu(s:DtCSet):SetP s↔SetN s:=by
 constructor
 ·rintro ⟨h1,h2,h3⟩
  refine ⟨h1,h2,λp hp=>?_,nd_findN _ λk p h=>(h3 k p h).2⟩
  obtain ⟨k,hk⟩:=List.getElem?_of_mem hp
  exact (h3 k p hk).1
 ·rintro ⟨h1,h2,h3,h4⟩
  exact ⟨h1,h2,λk p h=>⟨h3 p (List.mem_of_getElem? h),zxt _ h4 k p h⟩⟩
abbrev lessS (s t:DtCSet):Prop:=Op.bytesLess s.fName t.fName=true
def CatN(l:List DtCSet):Prop:=l.length≤5∧(∀s∈l,SetN s)∧l.Pairwise lessS
theorem zs4:∀(l:List DtCSet),(∀(i:Nat) s t,l[i]? = some t→l[i+1]? = some s→lessS t s)→l.Pairwise lessS
 | [],_=>List.Pairwise.nil
 | [a],_=>List.pairwise_singleton _ _
 | a :: b :: l,h=>by
  have ih:=zs4 (b :: l) λi s t h1 h2=>h (i+1) s t (by simpa using h1) (by simpa using h2)
  refine List.pairwise_cons.2 ⟨λx hx=>?_,ih⟩
  have hab:lessS a b:=h 0 b a rfl rfl
  rcases List.mem_cons.1 hx with rfl | hx
  ·exact hab
  ·exact zlc _ _ _ hab ((List.pairwise_cons.1 ih).1 x hx)
theorem zqv(c:DtCatalog):CatP c↔CatN c.fSets:=by
 constructor
 ·rintro ⟨h1,h2⟩
  refine ⟨h1,λs hs=>?_,zs4 _ λi s t ht hs=>?_⟩
  ·obtain ⟨k,hk⟩:=List.getElem?_of_mem hs
   exact (zxu s).1 (h2 k s hk).1
  ·exact (h2 (i+1) s hs).2 t (by omega) ht
 ·rintro ⟨h1,h2,h3⟩
  refine ⟨h1,λi s hs=>⟨(zxu s).2 (h2 s (List.mem_of_getElem? hs)),λt hi ht=>?_⟩⟩
  obtain ⟨hk,rfl⟩:=List.getElem?_eq_some_iff.1 hs
  obtain ⟨hj,rfl⟩:=List.getElem?_eq_some_iff.1 ht
  exact List.pairwise_iff_getElem.1 h3 (i-1) i hj hk (by omega)
theorem zs5(n:List UInt8):∀(l:List DtCSet),∀s∈l.take (lessN l n),Op.bytesLess s.fName n=true
 | [],s,h=>by simp at h
 | a :: l,s,h=>by
  by_cases e:Op.bytesLess a.fName n=true
  ·simp only [lessN,e,if_true,List.take_succ_cons,List.mem_cons] at h
   rcases h with rfl | h
   ·exact e
   ·exact zs5 n l s h
  ·simp only [lessN,e,if_false,List.take_zero] at h;cases h
theorem zs6(n:List UInt8):∀(l:List DtCSet),l.Pairwise lessS→(∀s∈l,s.fName≠n)→∀s∈l.drop (lessN l n),Op.bytesLess n s.fName=true
 | [],_,_,s,h=>by simp at h
 | a :: l,hp,hne,s,h=>by
  by_cases e:Op.bytesLess a.fName n=true
  ·simp only [lessN,e,if_true,List.drop_succ_cons] at h
   exact zs6 n l (List.pairwise_cons.1 hp).2 (λs hs=>hne s (List.mem_cons_of_mem _ hs)) s h
  ·simp only [lessN,e,if_false,List.drop_zero] at h
   have ha:=bl_tot a.fName n (by simpa using e) (hne a List.mem_cons_self)
   rcases List.mem_cons.1 h with rfl | h
   ·exact ha
   ·exact zlc _ _ _ ha ((List.pairwise_cons.1 hp).1 s h)
theorem creN{l:List DtCSet}(h:CatN l)(n:List UInt8)(hn:Word n):CatN (creS l n):=by
 by_cases h1:0≤findS l n
 ·rw [(zsy h1).1];exact h
 ·by_cases h2:(l.length:Int)=5
  ·rw [(zsz (by omega) h2).1];exact h
  ·rw [(zs0 (by omega) h2).1]
   obtain ⟨g1,g2,g3⟩:=h
   have hne:∀s∈l,s.fName≠n:=λs hs=>by
    obtain ⟨k,hk,rfl⟩:=List.getElem_of_mem hs
    exact zxs (by omega) k hk
   have hll:=lessN_le l n
   refine ⟨by simp;omega,λs hs=>?_,?_⟩
   ·rcases List.mem_append.1 hs with hs | hs
    ·exact g2 s (List.mem_of_mem_take hs)
    ·rcases List.mem_cons.1 hs with rfl | hs
     ·exact ⟨hn,by simp,by simp,by simp⟩
     ·exact g2 s (List.mem_of_mem_drop hs)
   ·have ht:=zs5 n l
    have hd:=zs6 n l g3 hne
    refine List.pairwise_append.2 ⟨g3.sublist (List.take_sublist _ _),List.pairwise_cons.2 ⟨λs hs=>hd s hs,g3.sublist (List.drop_sublist _ _)⟩,λa ha b hb=>?_⟩
    rcases List.mem_cons.1 hb with rfl | hb
    ·exact ht a ha
    ·exact zlc _ _ _ (ht a ha) (hd b hb)
theorem zqw{l:List DtCSet}(h:CatN l){k:Nat}(hk:k<l.length){x:DtCSet}(hx:SetN x)(hn:x.fName=l[k].fName):CatN (l.set k x):=by
 obtain ⟨g1,g2,g3⟩:=h
 refine ⟨by simpa using g1,λs hs=>?_,?_⟩
 ·rcases List.mem_or_eq_of_mem_set hs with hs | rfl
  ·exact g2 s hs
  ·exact hx
 ·have key:∀l:List DtCSet,l.Pairwise lessS↔(l.map (·.fName)).Pairwise λa b=>Op.bytesLess a b=true:=λl=>by rw [List.pairwise_map]
  rw [key] at g3 ⊢
  have e:(l.set k x).map (·.fName)=l.map (·.fName):=by
   rw [List.map_set,hn]
   have:(l.map (·.fName))[k]'(by simpa using hk)=l[k].fName:=by simp
   rw [←this,List.set_getElem_self]
  rw [e];exact g3
theorem setN_com{s:DtCSet}(h:SetN s){m:DtCmd}(hw:Word m.fName)(hc:1≤m.fChunks.length∧m.fChunks.length≤4∧Ch8 m.fChunks):SetN (comS s m)∧(comS s m).fName=s.fName:=by
 by_cases h1:0≤findN s.fSnaps m.fName
 ·rw [(com_e h1).1];exact ⟨h,rfl⟩
 ·by_cases h2:(s.fSnaps.length:Int)=5
  ·rw [(com_f (by omega) h2).1];exact ⟨h,rfl⟩
  ·rw [(com_k (by omega) h2).1]
   obtain ⟨g1,g2,g3,g4⟩:=h
   refine ⟨⟨g1,by simp;omega,λp hp=>?_,?_⟩,rfl⟩
   ·rcases List.mem_append.1 hp with hp | hp
    ·exact g3 p hp
    ·rw [List.mem_singleton] at hp
     subst hp
     exact ⟨hw,.inl rfl,hc.1,hc.2.1,hc.2.2⟩
   ·rw [List.map_append,List.nodup_append]
    refine ⟨g4,by simp,λa ha b hb=>?_⟩
    simp only [List.map_cons,List.map_nil,List.mem_singleton] at hb
    subst hb
    rintro rfl
    obtain ⟨p,hp,e⟩:=List.mem_map.1 ha
    obtain ⟨k,hk,rfl⟩:=List.getElem_of_mem hp
    have:=zxt _ g4 k _ (List.getElem?_eq_getElem hk)
    rw [e] at this
    omega
theorem setN_tag{s:DtCSet}(h:SetN s){m:DtCmd}(hw:Word m.fTag):SetN (tagS s m)∧(tagS s m).fName=s.fName:=by
 by_cases h1:0≤findN s.fSnaps m.fName
 ·have hj:=zql (λp=>eqB p.fName m.fName) s.fSnaps (by have:=h1;unfold findN at this;omega)
  change (findN s.fSnaps m.fName).toNat<s.fSnaps.length at hj
  rw [(tag_k h1 hj).1]
  obtain ⟨g1,g2,g3,g4⟩:=h
  refine ⟨⟨g1,by simpa using g2,λp hp=>?_,?_⟩,rfl⟩
  ·rcases List.mem_or_eq_of_mem_set hp with hp | rfl
   ·exact g3 p hp
   ·have:=g3 _ (List.getElem_mem hj)
    exact ⟨this.1,.inr hw,this.2.2⟩
  ·have e : (s.fSnaps.set (findN s.fSnaps m.fName).toNat { s.fSnaps[(findN s.fSnaps m.fName).toNat] with fTag := m.fTag }).map (·.fName) = s.fSnaps.map (·.fName) := by
    rw [List.map_set]
    have:(s.fSnaps.map (·.fName))[(findN s.fSnaps m.fName).toNat]'(by simpa using hj)=s.fSnaps[(findN s.fSnaps m.fName).toNat].fName:=by simp
    simp only [←this]
    rw [List.set_getElem_self]
   show (List.map (·.fName) (s.fSnaps.set _ _)).Nodup
   rw [e];exact g4
 ·rw [(tag_n (by omega)).1];exact ⟨h,rfl⟩
theorem setN_pru{s:DtCSet}(h:SetN s)(n:Int):SetN (pruS s n)∧(pruS s n).fName=s.fName:=by
 obtain ⟨g1,g2,g3,g4⟩:=h
 have hs:(pruS s n).fSnaps.Sublist s.fSnaps:=zqm _ _ _
 exact ⟨⟨g1,Nat.le_trans hs.length_le g2,λp hp=>g3 p (hs.subset hp),g4.sublist (hs.map _)⟩,rfl⟩
theorem catN_step{c:DtCatalog}(h:CatP c)(m:DtCmd):CatN (catS c m):=by
 have hN:=(zqv c).1 h
 by_cases hm:CmdP m
 ·by_cases h0:m.fKind=0
  ·rw [(zqs h hm h0).1];exact hN
  ·obtain ⟨-,k7,-,-,-,-,w1,-,w2,-,w3,-,-,w4,-⟩:=hm.resolve_left λhh=>h0 hh.1
   by_cases h1:m.fKind=1
   ·rw [(zqt h hm h1).1]
    exact creN hN _ (w1 (by omega))
   ·by_cases h7:m.fKind=7
    ·rw [(zqu h hm h7).1];exact hN
    ·by_cases hf:findS c.fSets m.fSet<0
     ·rw [(znj h hm h0 h1 h7 hf).1];exact hN
     ·obtain ⟨k,hkz⟩:=Int.eq_ofNat_of_zero_le (Int.not_lt.1 hf)
      have hk:=zjh hkz
      rw [(cat_k h hm h0 h1 h7 hkz).1]
      have hs:=hN.2.1 _ (List.getElem_mem hk)
      by_cases h2:m.fKind=2
      ·rw [(set_2 h2).1]
       have hsub:=zwg c.fSets k
       exact ⟨Nat.le_trans hsub.length_le hN.1,λs hs=>hN.2.1 s (hsub.subset hs),hN.2.2.sublist hsub⟩
      ·by_cases h3:m.fKind=3
       ·rw [(zqq hk h3).1]
        have:=setN_com hs (w2 (.inl h3)) (w4 h3)
        exact zqw hN hk this.1 this.2
       ·by_cases h4:m.fKind=4
        ·rw [(zz3 hk h4).1]
         have:=setN_tag hs (w3 h4)
         exact zqw hN hk this.1 this.2
        ·by_cases h5:m.fKind=5
         ·rw [(set_5 hk h5).1]
          have:=setN_pru hs m.fN
          exact zqw hN hk this.1 this.2
         ·rw [(set_6 hk h2 h3 h4 h5).1];exact hN
 ·rw [(zqr h hm).1];exact hN
theorem zxv:CatP { fSets:=[] }:=⟨by simp,by simp⟩
/-- The catalog behind a command. -/
noncomputable def catC(c:DtCatalog)(m:DtCmd):DtCatalog:={ fSets:=catS c m }
theorem zg7(c:DtCatalog)(m:DtCmd):CatP (catC c m):=by
 by_cases h:CatP c
 ·exact (zqv _).2 (catN_step h m)
 ·unfold catC;rw [(zs1 h).1];exact zxv
theorem zqx{α:Type}{f:α→Int}(B:Int):∀(l:List α),(∀x∈l,f x≤B)→sumZ f l≤l.length*B
 | [],_=>by simp [zcj]
 | a :: l,h=>by
  have h1:=h a List.mem_cons_self
  have h2:=zqx B l λx hx=>h x (List.mem_cons_of_mem _ hx)
  rw [zcn,List.length_cons]
  have:((l.length+1:Nat):Int)*B=(l.length:Int)*B+B:=by rw [Int.natCast_add,Int.add_mul];simp
  omega
theorem zqy{c:DtCatalog}(h:CatP c):DtCatalog.sz c≤5000:=by
 obtain ⟨h1,h2,-⟩:=(zqv c).1 h
 have hp:∀p,SnapP p→DtCSnap.sz p≤60:=by
  rintro p ⟨a1,a2,a3,a4,a5⟩
  have b1:p.fTag.length≤8:=by rcases a2 with a2 | a2<;>first | exact a2.2.1 | simp [a2]
  have b2:sumZ lenZ p.fChunks≤p.fChunks.length*8:=zqx 8 _ λx hx=>by
   obtain ⟨k,hk⟩:=List.getElem?_of_mem hx
   have:=a5 k x hk
   unfold lenZ;omega
  have:=a1.2.1
  unfold DtCSnap.sz szS
  omega
 have hs:∀s∈c.fSets,DtCSet.sz s≤400:=by
  intro s hs
  obtain ⟨a1,a2,a3,-⟩:=h2 s hs
  have b2:=zqx 60 s.fSnaps λp hp'=>hp p (a3 p hp')
  have:=a1.2.1
  unfold DtCSet.sz szS
  omega
 have b:=zqx 400 c.fSets hs
 unfold DtCatalog.sz szS
 omega
end Go.Proofs.YtodmafgmdlkhoaaGreat.Vs
end
section
namespace Go.Proofs.YtodmafgmdlkhoaaGreat.Vs
set_option linter.all false
set_option maxRecDepth 100000
set_option maxHeartbeats 1000000
theorem zs7(m:DtCmd)(hm:DtCmd.sz m≤1048576):m.fChunks.length≤1048576:=by
 have:=len_szS zc6 m.fChunks
 simp only [DtCmd.sz] at hm
 omega
theorem zxw(c:DtCatalog)(m:DtCmd)(hs:DtCatalog.sz c≤1048576)(hm:DtCmd.sz m≤1048576):XCall Tryz.prog 20 [.agg (DtCatalog.cells c),.agg (DtCmd.cells m)] [] (.tup [.agg [.arr 16 0 (catC c m).fSets.length],.s (catR c m)]) [] [.own 2 ((catC c m).fSets.map DtCSet.cells)]:=implCatDo c m hs hm (zs7 m hm)
theorem zqz(c:DtCatalog)(m:DtCmd)(hs:DtCatalog.sz c≤1048576)(hm:DtCmd.sz m≤1048576):XCall Tryz.prog 21 [.agg (DtCatalog.cells c),.agg (DtCmd.cells m)] [] (.tup [.agg [.arr 16 0 (catC c m).fSets.length],.s (catR c m)]) [] [.own 2 ((catC c m).fSets.map DtCSet.cells)]:=specCatDo c m hs hm (zs7 m hm)
noncomputable def playS(l:List DtCmd):DtCatalog × List (List UInt8):=l.foldl (λx m=>(catC x.1 m,x.2++[catR x.1 m])) ({ fSets:=[] },[])
noncomputable def playC(l:List DtCmd):DtCatalog:=(playS l).1
noncomputable def playR(l:List DtCmd):List (List UInt8):=(playS l).2
theorem play_take(l:List DtCmd)(i:Nat)(h:i<l.length):playC (l.take (i+1))=catC (playC (l.take i)) l[i]∧playR (l.take (i+1))=playR (l.take i)++[catR (playC (l.take i)) l[i]]:=by
 unfold playC playR playS
 rw [List.take_succ_eq_append_getElem h,List.foldl_append]
 exact ⟨rfl,rfl⟩
theorem zxx(l:List DtCmd):CatP (playC l):=by
 have key:∀(l:List DtCmd) (x:DtCatalog × List (List UInt8)),CatP x.1→CatP (l.foldl (λx m=>(catC x.1 m,x.2++[catR x.1 m])) x).1:=by
  intro l
  induction l with
  | nil=>intro x hx;exact hx
  | cons m l ih=>intro x hx;exact ih _ (zg7 x.1 m)
 exact key l _ zxv
theorem playC_sz(l:List DtCmd):DtCatalog.sz (playC l)≤1048576:=by have:=zqy (zxx l);omega
theorem playR_len(l:List DtCmd):(playR l).length=l.length:=by
 have key:∀(l:List DtCmd) (x:DtCatalog × List (List UInt8)),(l.foldl (λx m=>(catC x.1 m,x.2++[catR x.1 m])) x).2.length=x.2.length+l.length:=by
  intro l
  induction l with
  | nil=>intro x;rfl
  | cons m l ih=>intro x;rw [List.foldl_cons,ih];simp;omega
 have:=key l ({ fSets:=[] },[])
 unfold playR playS
 rw [this];simp
theorem zz5(l:List DtCmd)(i:Nat)(h:i≤l.length):(playR (l.take i)).length=i:=by rw [playR_len,List.length_take];omega
theorem cmd_sz(l:List DtCmd)(hs:szS DtCmd.sz l≤1048576)(i:Nat)(h:i<l.length):DtCmd.sz l[i]≤1048576:=by
 have h1:=zcr DtCmd.sz_nonneg l l[i] (List.getElem_mem _)
 unfold szS at hs;omega
attribute [local simp] DtCatalog.cells DtCmd.cells zbo and_assoc scR_cS cS
attribute [-simp] aAppC aAppZ
def zG21:=And.intro @zbr (And.intro @zby @zb0)
theorem specPlay(l:List DtCmd)(hs:szS DtCmd.sz l≤1048576)(hn:l.length≤1048576):XCall Tryz.prog 101 [.sl 8 (l.map DtCmd.cells)] [] (.tup [.agg [.arr 16 0 (playC l).fSets.length],.arr 17 0 l.length]) [] [.own 2 ((playC l).fSets.map DtCSet.cells),.own 1 ((playR l).map cS)]:=by
 refine zbu Tryz.func101 (by rfl) (by rfl) (by rw [Tryz.ntmps101];exact Nat.le_of_ble_eq_true rfl) rfl (by simp) rfl rfl ?_
 rw [Tryz.ntmps101]
 refine zjb   ?_
 refine AW_k [(0,_)] ⟨rfl,trivial⟩ ?_
 refine AW_x rfl rfl λK hK=>?_
 simp (disch:=omega)
 repeat' first|(refine ⟨by omega,?_⟩)|(intro _)
 refine hK _ ?_;clear hK K
 refine AW_x rfl rfl λK hK=>?_
 simp (disch:=omega)
 repeat' first|(refine ⟨by omega,?_⟩)|(simp (disch:=omega))|(intro _)
 refine hK _ ?_;clear hK K
 refine AW_x rfl rfl λK hK=>?_
 simp (disch:=omega)
 repeat' first|(refine ⟨by omega,?_⟩)|(simp (disch:=omega))|(intro _)
 refine hK _ ?_;clear hK K
 refine zbh ?_
 refine AW_x rfl rfl λK hK=>?_
 simp (disch:=omega)
 repeat' first|(refine ⟨by omega,?_⟩)|(intro _)
 refine hK _ ?_;clear hK K
 refine zbj ?_
 refine zbs (λmM sS=>∃(i:Nat),mM=l.length-i∧(i≤l.length)∧sS = { env:=lkE [(0,.sl 8 (l.map DtCmd.cells)),(2,.ptr 48 0),(4,.ptr 80 0),(5,.arr 501 0 i),(6,(.g (.int .i64 ((i:Nat)))))],ob:=lk [(48,.cells [.g (.slice none 0 0)]),(80,.cells [.arr 500 0 (playC (l.take i)).fSets.length]),(500,.own 2 ((playC (l.take i)).fSets.map DtCSet.cells)),(501,.win 1 ((playR (l.take i)).map cS))] }) ?_ ?_
 ·refine ⟨_,LeS.trans (LeS.znc (cs:=[.g (.slice none 0 0)]) 500 2 80 0 (by simp [zG21,zbk]) (by simp [zG21,zbk]) (by rfl)) (LeS.kx [(48,48),(80,80),(500,500),(501,176)] [(0,.sl 8 (l.map DtCmd.cells)),(2,.ptr 48 0),(4,.ptr 80 0),(5,.arr 501 0 (0)),(6,(.g (.int .i64 (((0):Nat)))))] [(48,.cells [.g (.slice none 0 0)]),(80,.cells [.arr 500 0 (playC (l.take (0))).fSets.length]),(500,.own 2 ((playC (l.take (0))).fSets.map DtCSet.cells)),(501,.win 1 ((playR (l.take (0))).map cS))] (by simp [zG21,KpR,renV2,renV,zbk];first | omega|(rw [htc];done)|(rw [htc];rfl) | trace_state) (by simp [zG21,KpOX,renO,plO,cvO,renV,pl1];first | rfl | exact ⟨rfl,rfl,rfl⟩|(rw [htc,htr];simp [cS];done) | trace_state) (by rfl) (by simp) (by simp) (by rfl) (by simp [formsX,List.range_succ,zbr,zby])),_,0,rfl,?_,rfl⟩
  ·simp
 ·rintro mM sS ⟨i,rfl,hi,rfl⟩
  refine zbh ?_
  refine AW_x rfl rfl λK hK=>?_
  simp (disch:=omega)
  repeat' first|(refine ⟨by omega,?_⟩)|(simp (disch:=omega))|(intro _)
  refine hK _ ?_;clear hK K
  refine zbg rfl (λhc1=>?_) (λhc1=>?_)
  ·try simp [zbf,zbn,zbc,zbb] at hc1
   all_goals
    have ⟨htc,htr⟩:=play_take l i (by omega)
    have hrl:=zz5 l i hi
    refine zbi ?_
    refine zbm ?_
    refine zbh ?_
    refine zbj ?_
    refine AW_d rfl mix (by kernel_rfl) (by kernel_rfl) λK hK=>?_
    simp (disch:=omega)
    repeat' first|(exfalso;omega)|(refine zmj [] true [] (zqz (playC (l.take i)) l[i] (playC_sz _) (cmd_sz l hs i (by omega))) ?_ (λst' hst=>?_) ?_;(focus (simp [List.range_succ,nmC];done));(focus (simp (disch:=omega) [nmC,List.range_succ] at hst;simp (disch:=omega) [hst,zbo,nmC,List.range_succ];done));simp (disch:=omega))|(refine ⟨λ_=>?_,λ_=>?_⟩)|(refine ⟨by omega,?_⟩)|(simp (disch:=omega))|(intro _)
    all_goals (refine hK _ _ (by kernel_rfl) ?_;clear hK K)
    all_goals
     refine AW_x rfl rfl λK hK=>?_
     simp (disch:=omega)
     repeat' first|(refine ⟨by omega,?_⟩)|(simp (disch:=omega))|(intro _)
     refine hK _ ?_;clear hK K
     refine zb4 rfl rfl λK hK=>?_
     simp (disch:=omega)
     repeat' first|(refine ⟨by omega,?_⟩)|(simp (disch:=omega))|(intro _)
     refine hK _ ?_;clear hK K
     refine zbm ?_
     refine zb4 rfl rfl λK hK=>?_
     simp (disch:=omega)
     repeat' first|(refine ⟨by omega,?_⟩)|(intro _)
     refine hK _ ?_;clear hK K
     refine ⟨_,LeS.kx [(48,48),(80,80),(500,384),(501,496)] [(0,.sl 8 (l.map DtCmd.cells)),(2,.ptr 48 0),(4,.ptr 80 0),(5,.arr 501 0 (i+1)),(6,(.g (.int .i64 (((i+1):Nat)))))] [(48,.cells [.g (.slice none 0 0)]),(80,.cells [.arr 500 0 (playC (l.take (i+1))).fSets.length]),(500,.own 2 ((playC (l.take (i+1))).fSets.map DtCSet.cells)),(501,.win 1 ((playR (l.take (i+1))).map cS))] (by simp [zG21,KpR,renV2,renV,zbk];first | omega|(rw [htc];done)|(rw [htc];rfl) | trace_state) (by simp [zG21,KpOX,renO,plO,cvO,renV,pl1];first | rfl | exact ⟨rfl,rfl,rfl⟩|(rw [htc,htr];simp [cS];done) | trace_state) (by rfl) (by simp) (by simp) (by rfl) (by simp [formsX,List.range_succ,zbr,zby]),_,?_,i+1,rfl,?_,rfl⟩
     ·omega
     ·omega
  try simp [zbf,zbn,zbc,zbb] at hc1
  have hil:i=l.length:=by omega
  refine zbx ?_
  refine zbm ?_
  refine AW_x rfl rfl λK hK=>?_
  simp (disch:=omega)
  repeat' first|(exfalso;omega)|(refine ⟨λ_=>?_,λ_=>?_⟩)|(refine ⟨by omega,?_⟩)|(simp (disch:=omega))|(intro _)
  all_goals (refine hK _ ?_;clear hK K)
  all_goals
   refine zbp (zce [500,501] [] (by simp [zG21,List.range_succ]) (by simp) ?_)
   simp (disch:=omega)
   all_goals first|(subst hil;rw [List.take_length];exact ⟨rfl,rfl,rfl,rfl⟩) | trace_state
end Go.Proofs.YtodmafgmdlkhoaaGreat.Vs
end
section
namespace Go.Proofs.YtodmafgmdlkhoaaGreat.Vs
set_option linter.all false
set_option maxRecDepth 100000
/-! ### Draws -/
/-- A code of bytes, not a great one. -/
def Code(l:List Int):Prop:=l.length≤1048576
def andZ(a b:Int):Int:=IntKind.i64.wrap (BitVec.ofInt IntKind.i64.bits a &&& BitVec.ofInt IntKind.i64.bits b).toNat
def xorZ(a b:Int):Int:=IntKind.i64.wrap (BitVec.ofInt IntKind.i64.bits a ^^^ BitVec.ofInt IntKind.i64.bits b).toNat
theorem zb6(a b:Int):IntKind.i64.wrap (BitVec.ofInt IntKind.i64.bits a &&& BitVec.ofInt IntKind.i64.bits b).toNat=andZ a b:=(rfl)
theorem zb7(a b:Int):IntKind.i64.wrap (BitVec.ofInt IntKind.i64.bits a ^^^ BitVec.ofInt IntKind.i64.bits b).toNat=xorZ a b:=(rfl)
theorem andZ_bd(a b:Int)(n:Nat)(hb:(BitVec.ofInt 64 b).toNat=n)(hn:n<9223372036854775808):0≤andZ a b∧andZ a b≤n:=by
 have h:(BitVec.ofInt IntKind.i64.bits a &&& BitVec.ofInt IntKind.i64.bits b).toNat≤n:=by
  rw [BitVec.toNat_and]
  exact Nat.le_trans Nat.and_le_right (Nat.le_of_eq hb)
 unfold andZ
 rw [zcf (by omega) (by omega)]
 omega
/-- The number that a code is mixed to. -/
def mixN(l:List Int):Nat→Int
 | 0=>IntKind.i64.wrap (10101+l.length)
 | k+1=>andZ (IntKind.i64.wrap (IntKind.i64.wrap (IntKind.i64.wrap (mixN l k*131)+IntKind.i64.wrap (l.getD k 0))+7)) 1073741823
def cur0(l:List Int):Cur:=⟨0,mixN l (min l.length 4000)⟩
def zG22:=And.intro @zcf (And.intro @gE @tP)
theorem l1New(l:List Int)(hl:Code l):XCall Tryz.prog 31 [.sl 1 (l.map cU)] [] (.ptr 16 0) [] [.cells (curC l (cur0 l))]:=by
 unfold Code at hl
 refine zbu Tryz.func31 (by rfl) (by rfl) (by rw [Tryz.ntmps31];exact Nat.le_of_ble_eq_true rfl) rfl (by simp) rfl rfl ?_
 rw [Tryz.ntmps31]
 refine zjb   ?_
 refine AW_k [(0,_)] ⟨rfl,trivial⟩ ?_
 refine AW_x rfl rfl λK hK=>?_
 simp (disch:=omega) [zG22,cU,↓zb6,↓zb7]
 repeat' first|(refine ⟨by omega,?_⟩)|(intro _)
 refine hK _ ?_;clear hK K
 refine AW_x rfl rfl λK hK=>?_
 simp (disch:=omega) [zG22,cU,↓zb6,↓zb7]
 repeat' first|(refine ⟨by omega,?_⟩)|(intro _)
 refine hK _ ?_;clear hK K
 refine zbh ?_
 refine AW_x rfl rfl λK hK=>?_
 simp (disch:=omega) [zG22,cU,↓zb6,↓zb7]
 repeat' first|(refine ⟨by omega,?_⟩)|(intro _)
 refine hK _ ?_;clear hK K
 refine zbj ?_
 refine zbs (λmM sS=>∃(i:Nat),mM=l.length-i∧(i≤l.length∧i≤4000)∧sS = { env:=lkE [(0,.sl 1 (l.map cU)),(3,(.g (.int .i64 (mixN l i)))),(4,(.g (.int .i64 ((i:Nat)))))],ob:=lk [] }) ?_ ?_
 ·refine ⟨_,LeS.kx [] [(0,.sl 1 (l.map cU)),(3,(.g (.int .i64 (mixN l (0))))),(4,(.g (.int .i64 (((0):Nat)))))] [] (by simp [zG21,KpR,renV2,renV,zbk];try (first | rfl|(simp (disch:=omega) [mixN,zcf];done)|(rw [mixN];simp [List.getElem?_eq_getElem, *];done))) (by simp [zG21,KpOX,renO,plO,cvO,renV,pl1];try rfl) (by rfl) (by simp) (by simp) (by rfl) (by simp [formsX,List.range_succ,zbr,zby]),_,0,rfl,?_,rfl⟩
  ·simp
 ·rintro mM sS ⟨i,rfl,⟨hi,hi2⟩,rfl⟩
  refine zbh ?_
  refine AW_x rfl rfl λK hK=>?_
  simp (disch:=omega) [zG22,cU,↓zb6,↓zb7]
  repeat' first|(exfalso;omega)|(refine ⟨λ_=>?_,λ_=>?_⟩)|(refine ⟨by omega,?_⟩)|(intro _)
  all_goals (refine hK _ ?_;clear hK K)
  all_goals
   refine zbg rfl (λhc1=>?_) (λhc1=>?_)
   ·try simp at hc1
    all_goals
     refine zbi ?_
     refine zbm ?_
     refine zbh ?_
     refine zbj ?_
     refine zb4 rfl rfl λK hK=>?_
     simp (disch:=omega) [zG22,cU,↓zb6,↓zb7]
     repeat' first|(exfalso;omega)|(refine ⟨λ_=>?_,λ_=>?_⟩)|(refine ⟨by omega,?_⟩)|(intro _)
     all_goals (refine hK _ ?_;clear hK K)
     all_goals
      refine zbm ?_
      refine zb4 rfl rfl λK hK=>?_
      simp (disch:=omega) [zG22,cU,↓zb6,↓zb7]
      repeat' first|(refine ⟨by omega,?_⟩)|(intro _)
      refine hK _ ?_;clear hK K
      refine ⟨_,LeS.kx [] [(0,.sl 1 (l.map cU)),(3,(.g (.int .i64 (mixN l (i+1))))),(4,(.g (.int .i64 (((i+1):Nat)))))] [] (by simp [zG21,KpR,renV2,renV,zbk];try (first | rfl|(simp (disch:=omega) [mixN,zcf];done)|(rw [mixN];simp [List.getElem?_eq_getElem, *];done))) (by simp [zG21,KpOX,renO,plO,cvO,renV,pl1];try rfl) (by rfl) (by simp) (by simp) (by rfl) (by simp [formsX,List.range_succ,zbr,zby]),_,?_,i+1,rfl,?_,rfl⟩
      ·omega
      ·omega
   try simp at hc1
   refine zbx ?_
   refine zbm ?_
   refine AW_x rfl rfl λK hK=>?_
   simp (disch:=omega) [zG22,cU,↓zb6,↓zb7]
   repeat' first|(exfalso;omega)|(refine ⟨λ_=>?_,λ_=>?_⟩)|(refine ⟨by omega,?_⟩)|(intro _)
   all_goals (refine hK _ ?_;clear hK K)
   all_goals
    refine zbp (zce [512] [] (by simp [zG21,List.range_succ]) (by simp) ?_)
    simp (disch:=omega) [zG22,cU,↓zb6,↓zb7,curC]
    all_goals (unfold cur0;have e:i=min l.length 4000:=(by omega);rw [←e];exact ⟨rfl,rfl⟩)
def nxH(h:Int):Int:=IntKind.i64.wrap (IntKind.i64.wrap (h*6364136223846793005)+1442695040888963407)
def rawX(h:Int):Int:=andZ (xorZ (h.fdiv (2^min 33 IntKind.i64.bits)) (h.fdiv (2^min 45 IntKind.i64.bits))) 255
def byte(l:List Int)(c:Cur):Int:=if c.i<l.length then andZ (IntKind.i64.wrap (rawX (nxH c.h)+IntKind.i64.wrap (l.getD c.i 0))) 255 else rawX (nxH c.h)
def stp(l:List Int)(c:Cur):Cur:=⟨if c.i<l.length then c.i+1 else c.i,nxH c.h⟩
theorem zm0(l:List Int)(c:Cur):0≤byte l c∧byte l c≤255:=by
 unfold byte rawX
 split<;>exact andZ_bd _ _ 255 (by decide) (by decide)
theorem zn9(l:List Int)(hl:Code l)(c:Cur):XCall Tryz.prog 124 [.ptr 8 0] [.cells (curC l c)] (.g (.int .i64 (byte l c))) [.cells (curC l (stp l c))] []:=by
 unfold Code at hl
 unfold curC
 refine zbu Tryz.func124 (by rfl) (by rfl) (by rw [Tryz.ntmps124];exact Nat.le_of_ble_eq_true rfl) rfl (by simp) rfl rfl ?_
 rw [Tryz.ntmps124]
 refine zhs (.cells [.sl 1 (l.map cU),.g (.int .i64 (c.i:Int)),.g (.int .i64 c.h)]) (by simp [cvO]<;>assumption) ?_
 refine AW_k [(0,_)] ⟨rfl,trivial⟩ ?_
 refine AW_x rfl rfl λK hK=>?_
 simp (disch:=omega) [zG22,cU,curC,↓zb6,↓zb7]
 repeat' first|(refine ⟨by omega,?_⟩)|(intro _)
 refine hK _ ?_;clear hK K
 refine AW_x rfl rfl λK hK=>?_
 simp (disch:=omega) [zG22,cU,curC,↓zb6,↓zb7]
 repeat' first|(refine ⟨by omega,?_⟩)|(intro _)
 refine hK _ ?_;clear hK K
 refine AW_d rfl mix (by kernel_rfl) (by kernel_rfl) λK hK=>?_
 simp (disch:=omega) [zG22,cU,curC,↓zb6,↓zb7]
 repeat' first|(refine ⟨by omega,?_⟩)|(intro _)
 refine hK _ _ (by kernel_rfl) ?_;clear hK K
 refine zbh ?_
 refine AW_d rfl mix (by kernel_rfl) (by kernel_rfl) λK hK=>?_
 simp (disch:=omega) [zG22,cU,curC,↓zb6,↓zb7]
 repeat' first|(refine ⟨by omega,?_⟩)|(intro _)
 refine hK _ _ (by kernel_rfl) ?_;clear hK K
 refine zbg rfl (λhc2=>?_) (λhc2=>?_)
 ·try simp at hc2
  all_goals
   refine AW_d rfl mix (by kernel_rfl) (by kernel_rfl) λK hK=>?_
   simp (disch:=omega) [zG22,cU,curC,↓zb6,↓zb7]
   repeat' first|(exfalso;omega)|(refine ⟨λ_=>?_,λ_=>?_⟩)|(refine ⟨by omega,?_⟩)|(intro _)
   all_goals (refine hK _ _ (by kernel_rfl) ?_;clear hK K)
   all_goals
    refine zb4 rfl rfl λK hK=>?_
    simp (disch:=omega) [zG22,cU,curC,↓zb6,↓zb7]
    repeat' first|(refine ⟨by omega,?_⟩)|(intro _)
    refine hK _ ?_;clear hK K
    refine zbm ?_
    refine AW_x rfl rfl λK hK=>?_
    simp (disch:=omega) [zG22,cU,curC,↓zb6,↓zb7]
    repeat' first|(refine ⟨by omega,?_⟩)|(intro _)
    refine hK _ ?_;clear hK K
    refine zbp (zce [] [] (by simp [zG21,List.range_succ]) (by simp) ?_)
    simp (disch:=omega) [zG22,cU,curC,↓zb6,↓zb7,curC]
    all_goals first|(simp [byte,stp,rawX,nxH,hc2,List.getElem?_eq_getElem];done)|(simp [byte,stp,rawX,nxH,Nat.not_lt.2 hc2];done)
 try simp at hc2
 refine zbi ?_
 refine zbm ?_
 refine AW_x rfl rfl λK hK=>?_
 simp (disch:=omega) [zG22,cU,curC,↓zb6,↓zb7]
 repeat' first|(exfalso;omega)|(refine ⟨λ_=>?_,λ_=>?_⟩)|(refine ⟨by omega,?_⟩)|(intro _)
 all_goals (refine hK _ ?_;clear hK K)
 all_goals
  refine zbp (zce [] [] (by simp [zG21,List.range_succ]) (by simp) ?_)
  simp (disch:=omega) [zG22,cU,curC,↓zb6,↓zb7,curC]
  all_goals first|(simp [byte,stp,rawX,nxH,hc2,List.getElem?_eq_getElem];done)|(simp [byte,stp,rawX,nxH,Nat.not_lt.2 hc2];done)
def stp4(l:List Int)(c:Cur):Cur:=stp l (stp l (stp l (stp l c)))
def four(l:List Int)(c:Cur):Int:=byte l c*16777216+byte l (stp l c)*65536+byte l (stp l (stp l c))*256+byte l (stp l (stp l (stp l c)))
def below(l:List Int)(n:Int)(c:Cur):Int:=if n≤0 then 0 else if n≤256 then byte l c % n else four l c % n
def belowS(l:List Int)(n:Int)(c:Cur):Cur:=if n≤0 then c else if n≤256 then stp l c else stp4 l c
theorem zdu(l:List Int)(n:Int)(c:Cur):0≤below l n c∧(0<n→below l n c<n):=by
 unfold below
 split
 ·omega
 ·split
  ·have:=Int.emod_nonneg (byte l c) (show n≠0 by omega);have:=Int.emod_lt_of_pos (byte l c) (show 0<n by omega);omega
  ·have:=Int.emod_nonneg (four l c) (show n≠0 by omega);have:=Int.emod_lt_of_pos (four l c) (show 0<n by omega);omega
theorem zfb(l:List Int)(hl:Code l)(c:Cur)(n:Int):XCall Tryz.prog 81 [.ptr 8 0,(.g (.int .i64 (n)))] [.cells (curC l c)] (.g (.int .i64 (below l n c))) [.cells (curC l (belowS l n c))] []:=by
 have h1:=zm0 l c;have h2:=zm0 l (stp l c);have h3:=zm0 l (stp l (stp l c));have h4:=zm0 l (stp l (stp l (stp l c)))
 refine zbu Tryz.func81 (by rfl) (by rfl) (by rw [Tryz.ntmps81];exact Nat.le_of_ble_eq_true rfl) rfl (by simp) rfl rfl ?_
 rw [Tryz.ntmps81]
 refine zhs (.cells (curC l c)) (by simp [cvO]<;>assumption) ?_
 refine AW_k [(0,_),(1,_)] ⟨rfl,rfl,trivial⟩ ?_
 refine AW_x rfl rfl λK hK=>?_
 simp (disch:=omega) [zG22,cU,↓zb6,↓zb7]
 repeat' first|(refine ⟨by omega,?_⟩)|(intro _)
 refine hK _ ?_;clear hK K
 refine zbh ?_
 refine AW_x rfl rfl λK hK=>?_
 simp (disch:=omega) [zG22,cU,↓zb6,↓zb7]
 repeat' first|(refine ⟨by omega,?_⟩)|(intro _)
 refine hK _ ?_;clear hK K
 refine zbg rfl (λhc3=>?_) (λhc3=>?_)
 ·try simp at hc3
  all_goals
   refine AW_x rfl rfl λK hK=>?_
   simp (disch:=omega) [zG22,cU,↓zb6,↓zb7]
   repeat' first|(exfalso;omega)|(refine ⟨λ_=>?_,λ_=>?_⟩)|(refine ⟨by omega,?_⟩)|(intro _)
   all_goals (refine hK _ ?_;clear hK K)
   all_goals
    refine zbp (zce [] [] (by simp [zG21,List.range_succ]) (by simp) ?_)
    simp (disch:=omega) [zG22,cU,↓zb6,↓zb7]
    all_goals (unfold below belowS stp4 four;simp only [Int.not_le.2, *,if_true,if_false,ite_true,ite_false];first | exact ⟨rfl,rfl⟩|(simp (disch:=omega) [Int.tmod_eq_emod_of_nonneg];done) | trace_state)
 try simp at hc3
 refine zbi ?_
 refine zbm ?_
 refine zbh ?_
 refine AW_x rfl rfl λK hK=>?_
 simp (disch:=omega) [zG22,cU,↓zb6,↓zb7]
 repeat' first|(exfalso;omega)|(refine ⟨λ_=>?_,λ_=>?_⟩)|(refine ⟨by omega,?_⟩)|(intro _)
 all_goals (refine hK _ ?_;clear hK K)
 all_goals
  refine zbg rfl (λhc4=>?_) (λhc4=>?_)
  ·try simp at hc4
   all_goals
    refine AW_x rfl rfl λK hK=>?_
    simp (disch:=omega) [zG22,cU,↓zb6,↓zb7]
    repeat' first|(exfalso;omega)|(refine zcw (λ_=>xs_p xs_z) (zn9 l hl _) rfl rfl ?_;simp (disch:=omega) [zG22,cU,↓zb6,↓zb7])|(refine ⟨λ_=>?_,λ_=>?_⟩)|(refine ⟨by omega,?_⟩)|(intro _)
    all_goals (refine hK _ ?_;clear hK K)
    all_goals
     refine zbp (zce [] [] (by simp [zG21,List.range_succ]) (by simp) ?_)
     simp (disch:=omega) [zG22,cU,↓zb6,↓zb7]
     all_goals (unfold below belowS stp4 four;simp only [Int.not_le.2, *,if_true,if_false,ite_true,ite_false];first | exact ⟨rfl,rfl⟩|(simp (disch:=omega) [Int.tmod_eq_emod_of_nonneg];done) | trace_state)
  try simp at hc4
  refine zbi ?_
  refine zbm ?_
  refine AW_x rfl rfl λK hK=>?_
  simp (disch:=omega) [zG22,cU,↓zb6,↓zb7]
  repeat' first|(exfalso;omega)|(refine zcw (λ_=>xs_p xs_z) (zn9 l hl _) rfl rfl ?_;simp (disch:=omega) [zG22,cU,↓zb6,↓zb7])|(refine ⟨λ_=>?_,λ_=>?_⟩)|(refine ⟨by omega,?_⟩)|(intro _)
  all_goals (refine hK _ ?_;clear hK K)
  all_goals
   refine AW_x rfl rfl λK hK=>?_
   simp (disch:=omega) [zG22,cU,↓zb6,↓zb7]
   repeat' first|(exfalso;omega)|(refine zcw (λ_=>xs_p xs_z) (zn9 l hl _) rfl rfl ?_;simp (disch:=omega) [zG22,cU,↓zb6,↓zb7])|(refine ⟨by omega,?_⟩)|(intro _)
   refine hK _ ?_;clear hK K
   refine AW_x rfl rfl λK hK=>?_
   simp (disch:=omega) [zG22,cU,↓zb6,↓zb7]
   repeat' first|(exfalso;omega)|(refine zcw (λ_=>xs_p xs_z) (zn9 l hl _) rfl rfl ?_;simp (disch:=omega) [zG22,cU,↓zb6,↓zb7])|(refine ⟨by omega,?_⟩)|(intro _)
   refine hK _ ?_;clear hK K
   refine AW_x rfl rfl λK hK=>?_
   simp (disch:=omega) [zG22,cU,↓zb6,↓zb7]
   repeat' first|(exfalso;omega)|(refine zcw (λ_=>xs_p xs_z) (zn9 l hl _) rfl rfl ?_;simp (disch:=omega) [zG22,cU,↓zb6,↓zb7])|(refine ⟨by omega,?_⟩)|(intro _)
   refine hK _ ?_;clear hK K
   refine AW_x rfl rfl λK hK=>?_
   simp (disch:=omega) [zG22,cU,↓zb6,↓zb7]
   repeat' first|(refine ⟨by omega,?_⟩)|(intro _)
   refine hK _ ?_;clear hK K
   refine zbp (zce [] [] (by simp [zG21,List.range_succ]) (by simp) ?_)
   simp (disch:=omega) [zG22,cU,↓zb6,↓zb7]
   all_goals (unfold below belowS stp4 four;simp only [Int.not_le.2, *,if_true,if_false,ite_true,ite_false];first | exact ⟨rfl,rfl⟩|(simp (disch:=omega) [Int.tmod_eq_emod_of_nonneg];done) | trace_state)
theorem zkc(l:List Int)(hl:Code l)(c:Cur)(n:Int):XCall Tryz.prog 83 [.ptr 8 0,(.g (.int .i64 (n)))] [.cells (curC l c)] (.g (.bool (decide (below l n c=0)))) [.cells (curC l (belowS l n c))] []:=by
 refine zbu Tryz.func83 (by rfl) (by rfl) (by rw [Tryz.ntmps83];exact Nat.le_of_ble_eq_true rfl) rfl (by simp) rfl rfl ?_
 rw [Tryz.ntmps83]
 refine zhs (.cells (curC l c)) (by simp [cvO]<;>assumption) ?_
 refine AW_k [(0,_),(1,_)] ⟨rfl,rfl,trivial⟩ ?_
 refine AW_x rfl rfl λK hK=>?_
 simp (disch:=omega) [zG22,cU,↓zb6,↓zb7]
 repeat' first|(refine ⟨by omega,?_⟩)|(intro _)
 refine hK _ ?_;clear hK K
 refine AW_x rfl rfl λK hK=>?_
 simp (disch:=omega) [zG22,cU,↓zb6,↓zb7]
 repeat' first|(exfalso;omega)|(refine zcw (λ_=>xs_p (xs_g xs_z)) (zfb l hl _ _) rfl rfl ?_;simp (disch:=omega) [zG22,cU,↓zb6,↓zb7])|(refine ⟨by omega,?_⟩)|(intro _)
 refine hK _ ?_;clear hK K
 refine zbp (zce [] [] (by simp [zG21,List.range_succ]) (by simp) ?_)
 simp (disch:=omega) [zG22,cU,↓zb6,↓zb7]
 all_goals first | rfl|(simp;done) | trace_state
def pickZ(xs:List Int)(n:Int):Int:=xs.getD n.toNat 0
theorem zb5(l:List Int)(hl:Code l)(c:Cur)(xs:List Int)(hx:0<xs.length∧xs.length≤1048576):XCall Tryz.prog 104 [.ptr 8 0,.arr 9 0 xs.length] [.cells (curC l c),.own 1 (xs.map cI)] (.g (.int .i64 (pickZ xs (below l xs.length c)))) [.cells (curC l (belowS l xs.length c)),.own 1 (xs.map cI)] []:=by
 have hb:=zdu l xs.length c
 refine zbu Tryz.func104 (by rfl) (by rfl) (by rw [Tryz.ntmps104];exact Nat.le_of_ble_eq_true rfl) rfl (by simp) rfl rfl ?_
 rw [Tryz.ntmps104]
 refine AW_x2 (.cells (curC l c)) (.own 1 (xs.map cI)) (by simp [cvO]<;>assumption) (by simp [cvO]<;>assumption) ?_
 refine AW_k [(0,_),(1,_)] ⟨rfl,rfl,trivial⟩ ?_
 refine AW_x rfl rfl λK hK=>?_
 simp (disch:=omega) [zG22,cI,cS,cU,↓zb6,↓zb7]
 repeat' first|(refine ⟨by omega,?_⟩)|(intro _)
 refine hK _ ?_;clear hK K
 refine AW_x rfl rfl λK hK=>?_
 simp (disch:=omega) [zG22,cI,cS,cU,↓zb6,↓zb7]
 repeat' first|(exfalso;omega)|(refine zcw (λ_=>xs_p (xs_g xs_z)) (zfb l hl _ _) rfl rfl ?_;simp (disch:=omega) [zG22,cI,cS,cU,↓zb6,↓zb7])|(refine ⟨by omega,?_⟩)|(intro _)
 refine hK _ ?_;clear hK K
 refine zbp (zce [] [] (by simp [zG21,List.range_succ]) (by simp) ?_)
 simp (disch:=omega) [zG22,cI,cS,cU,↓zb6,↓zb7,cI]
 all_goals (unfold pickZ;simp [List.getElem?_eq_getElem, *];done)
theorem zgo(l:List Int)(hl:Code l)(c:Cur)(xs:List (List UInt8))(hx:0<xs.length∧xs.length≤1048576):XCall Tryz.prog 103 [.ptr 8 0,.arr 9 0 xs.length] [.cells (curC l c),.own 1 (xs.map cS)] (.s (xs.getD (below l xs.length c).toNat [])) [.cells (curC l (belowS l xs.length c)),.own 1 (xs.map cS)] []:=by
 have hb:=zdu l xs.length c
 refine zbu Tryz.func103 (by rfl) (by rfl) (by rw [Tryz.ntmps103];exact Nat.le_of_ble_eq_true rfl) rfl (by simp) rfl rfl ?_
 rw [Tryz.ntmps103]
 refine AW_x2 (.cells (curC l c)) (.own 1 (xs.map cS)) (by simp [cvO]<;>assumption) (by simp [cvO]<;>assumption) ?_
 refine AW_k [(0,_),(1,_)] ⟨rfl,rfl,trivial⟩ ?_
 refine AW_x rfl rfl λK hK=>?_
 simp (disch:=omega) [zG22,cI,cS,cU,↓zb6,↓zb7]
 repeat' first|(refine ⟨by omega,?_⟩)|(intro _)
 refine hK _ ?_;clear hK K
 refine AW_x rfl rfl λK hK=>?_
 simp (disch:=omega) [zG22,cI,cS,cU,↓zb6,↓zb7]
 repeat' first|(exfalso;omega)|(refine zcw (λ_=>xs_p (xs_g xs_z)) (zfb l hl _ _) rfl rfl ?_;simp (disch:=omega) [zG22,cI,cS,cU,↓zb6,↓zb7])|(refine ⟨by omega,?_⟩)|(intro _)
 refine hK _ ?_;clear hK K
 refine zbp (zce [] [] (by simp [zG21,List.range_succ]) (by simp) ?_)
 simp (disch:=omega) [zG22,cI,cS,cU,↓zb6,↓zb7,cS]
 all_goals (simp [List.getElem?_eq_getElem, *];done)
end Go.Proofs.YtodmafgmdlkhoaaGreat.Vs
end
section
namespace Go.Proofs.YtodmafgmdlkhoaaGreat.Vs
set_option linter.all false
set_option maxRecDepth 100000
set_option maxHeartbeats 2000000
attribute [local simp ↓] zv2 zOr_eq zv3 zv4 zv5 zv6
attribute [local simp] zmn zAnd_w zsj zNot_w
theorem zjj(x:Int):PCall Tryz.prog 181 [(.g (.int .i64 (x)))] (.g (.int .i64 (x % 4294967296))):=by
 refine zbq Tryz.func181 (by rfl) (by rfl) (by rw [Tryz.ntmps181];exact Nat.le_of_ble_eq_true rfl) rfl (by decide) ?_
 rw [Tryz.ntmps181]
 refine AW_k [(0,_)] ⟨rfl,trivial⟩ ?_
 refine AW_r rfl rfl λK hK=>?_
 simp (disch:=omega)
 repeat' first|(refine ⟨by omega,?_⟩)|(intro _)
 refine hK _ ?_;clear hK K
 refine AW_r rfl rfl λK hK=>?_
 simp (disch:=omega)
 repeat' first|(refine ⟨by omega,?_⟩)|(intro _)
 refine hK _ ?_;clear hK K
 refine zbp (zcb ?_)
 simp (disch:=omega)
 all_goals first | rfl | trace_state
theorem wrapU{n:Int}(h:0≤n∧n<18446744073709551616):IntKind.u64.wrap n=n:=by
 simp [IntKind.wrap,IntKind.bits,IntKind.signed]
 omega
theorem zg8(x:W32)(z:Int)(hz:0<z∧z<32):PCall Tryz.prog 180 [(.g (.int .i64 (wI x))),.g (.int .u64 z)] (.g (.int .i64 (wI (x.rotateRight z.toNat)))):=by
 have hw:=wrapU (n:=32-z) (by omega)
 have hr:=rot_w x z hz
 refine zbq Tryz.func180 (by rfl) (by rfl) (by rw [Tryz.ntmps180];exact Nat.le_of_ble_eq_true rfl) rfl (by decide) ?_
 rw [Tryz.ntmps180]
 refine AW_k [(0,_),(1,_)] ⟨rfl,rfl,trivial⟩ ?_
 refine AW_r rfl rfl λK hK=>?_
 simp (disch:=omega) [hw,hr]
 repeat' first|(refine ⟨by omega,?_⟩)|(intro _)
 refine hK _ ?_;clear hK K
 refine AW_r rfl rfl λK hK=>?_
 simp (disch:=omega) [hw,hr]
 repeat' first|(exfalso;omega)|(refine zcz (zbd zcl zbl) (zjj _) rfl ?_;simp (disch:=omega) [hw,hr])|(refine ⟨by omega,?_⟩)|(intro _)
 refine hK _ ?_;clear hK K
 refine zbp (zcb ?_)
 simp (disch:=omega) [hw,hr]
 all_goals first | rfl | exact hr | trace_state
attribute [local simp] cW shaK List.map_cons List.map_nil
attribute [-simp] zmn zAnd_w zsj zNot_w
theorem l3Keys:PCall Tryz.prog 175 [] (.sl 1 (shaK.map cW)):=by
 refine zbq Tryz.func175 (by rfl) (by rfl) (by rw [Tryz.ntmps175];exact Nat.le_of_ble_eq_true rfl) rfl (by decide) ?_
 rw [Tryz.ntmps175]
 refine AW_k [] trivial ?_
 refine AW_r rfl rfl λK hK=>?_
 simp (disch:=omega)
 repeat' first|(refine ⟨by omega,?_⟩)|(intro _)
 refine hK _ ?_;clear hK K
 refine AW_r rfl rfl λK hK=>?_
 simp (disch:=omega)
 repeat' first|(refine ⟨by omega,?_⟩)|(intro _)
 refine hK _ ?_;clear hK K
 refine zbp (zcb ?_)
 simp (disch:=omega) [wI]
 all_goals first | rfl | trace_state
end Go.Proofs.YtodmafgmdlkhoaaGreat.Vs
end
section
namespace Go.Proofs.YtodmafgmdlkhoaaGreat.Vs
set_option linter.all false
set_option maxRecDepth 100000
set_option maxHeartbeats 4000000
attribute [local simp ↓] zv2 zOr_eq zv3 zv4 zv5 zv6
/-- The words of a block. -/
def wd(b:List UInt8)(j:Nat):W32:=(sch b 64).getD j 0
theorem sch_at(b:List UInt8)(i j:Nat)(h:j<i)(hi:i≤64):(sch b i)[j]? = some (wd b j):=by
 rw [sch_get b i j h]
 unfold wd
 rw [List.getD_eq_getElem?_getD,sch_get b 64 j (by omega)]
 have:j<(sch b (j+1)).length:=by rw [zgv];omega
 rw [List.getElem?_eq_getElem this];rfl
def kd(j:Nat):W32:=shaK.getD j 0
theorem kd_at(j:Nat)(h:j<64):shaK[j]? = some (kd j):=by unfold kd;rw [List.getD_eq_getElem?_getD,List.getElem?_eq_getElem (by rw [zxg];exact h),Option.getD_some]
def schR(b:List UInt8)(i:Nat):List (List AV):=(sch b i).map cW++List.replicate (64-i) [.g (.int .i64 0)]
theorem zdl(b:List UInt8)(i:Nat)(h:i≤64):(schR b i).length=64:=by unfold schR;simp [zgv];omega
theorem zjk(b:List UInt8)(i j:Nat)(h:j<i)(hi:i≤64):(schR b i)[j]? = some (cW (wd b j)):=by
 unfold schR
 rw [List.getElem?_append_left (by simp [zgv];omega),List.getElem?_map,sch_at b i j h hi];rfl
theorem zxy(b:List UInt8)(i:Nat)(h:i<64)(x:W32)(hx:sch b (i+1)=sch b i++[x]):(schR b i).set i (cW x)=schR b (i+1):=by
 unfold schR
 rw [hx,List.set_append_right _ _ (by simp [zgv]),show 64-i=(64-(i+1))+1 by omega,List.replicate_succ]
 simp [zgv]
theorem zdv(b:List UInt8)(i:Nat):scR (schR b i)=true:=by
 unfold schR
 rw [zgf,zfi cW (λ_=>rfl)]
 simp
 induction (64-i) with
 | zero=>rfl
 | succ n ih=>rw [List.replicate_succ];simpa [scR] using ih
theorem schR_z(b:List UInt8)(i:Nat)(h:i<64):(schR b i)[i]? = some [.g (.int .i64 0)]:=by
 unfold schR
 rw [List.getElem?_append_right (by simp [zgv])]
 simp [zgv,List.getElem?_replicate]
 omega
theorem or_add(a b n:Nat)(h:b<2^n):a*2^n ||| b=a*2^n+b:=by rw [←Nat.shiftLeft_eq,Nat.shiftLeft_add_eq_or_of_lt h]
theorem word_z{p0 p1 p2 p3:Nat}(h0:p0<256)(h1:p1<256)(h2:p2<256)(h3:p3<256):zOr (zOr (zOr (zShl (IntKind.i64.wrap (p0:Int)) 24) (zShl (IntKind.i64.wrap (p1:Int)) 16)) (zShl (IntKind.i64.wrap (p2:Int)) 8)) (IntKind.i64.wrap (p3:Int))=wI (BitVec.ofNat 32 ((p0*256+p1)*65536+p2*256+p3)):=by
 have e1:p0*2^24 ||| p1*2^16=p0*2^24+p1*2^16:=or_add _ _ 24 (by omega)
 have e2:(p0*2^24+p1*2^16) ||| p2*2^8=p0*2^24+p1*2^16+p2*2^8:=by
  have:=or_add (p0*2^8+p1) (p2*2^8) 16 (by omega)
  rw [show (p0*2^8+p1)*2^16=p0*2^24+p1*2^16 by omega] at this
  exact this
 have e3:(p0*2^24+p1*2^16+p2*2^8) ||| p3=p0*2^24+p1*2^16+p2*2^8+p3:=by
  have:=or_add ((p0*2^8+p1)*2^8+p2) p3 8 (by omega)
  rw [show ((p0*2^8+p1)*2^8+p2)*2^8=p0*2^24+p1*2^16+p2*2^8 by omega] at this
  exact this
 rw [znh (by omega),znh (by omega),znh (by omega),znh (by omega),zk0 p0 24 24 rfl (by omega) (by omega),zk0 p1 16 16 rfl (by omega) (by omega),zk0 p2 8 8 rfl (by omega) (by omega)]
 rw [zp9 (by omega) (by omega),e1,zp9 (by omega) (by omega),e2,zp9 (by omega) (by omega),e3]
 unfold wI
 rw [BitVec.toNat_ofNat,Nat.mod_eq_of_lt (by omega)]
 omega
theorem la_step(b:List UInt8)(hb:b.length=64)(i:Nat)(hi:i<16)(h0:(4*(i:Int)).toNat<b.length)(h1:(4*(i:Int)+1).toNat<b.length)(h2:(4*(i:Int)+2).toNat<b.length)(h3:(4*(i:Int)+3).toNat<b.length):(schR b i).set i (((schR b i)[i]?.getD []).set 0 (AV.g (.int .i64 (zOr (zOr (zOr (zShl (IntKind.i64.wrap (b[(4*(i:Int)).toNat].toNat:Int)) 24) (zShl (IntKind.i64.wrap (b[(4*(i:Int)+1).toNat].toNat:Int)) 16)) (zShl (IntKind.i64.wrap (b[(4*(i:Int)+2).toNat].toNat:Int)) 8)) (IntKind.i64.wrap (b[(4*(i:Int)+3).toNat].toNat:Int))))))=schR b (i+1):=by
 rw [word_z (UInt8.toNat_lt _) (UInt8.toNat_lt _) (UInt8.toNat_lt _) (UInt8.toNat_lt _),schR_z b i (by omega)]
 refine zxy b i (by omega) _ ?_
 have g:∀(z:Int) (n:Nat) (h:z.toNat<b.length),z.toNat=n→b.getD n 0=b[z.toNat]:=λz n h e=>by subst e;rw [List.getD_eq_getElem?_getD,List.getElem?_eq_getElem h];rfl
 rw [sch,if_pos hi,wrd,g _ (4*i) h0 (by omega),g _ (4*i+1) h1 (by omega),g _ (4*i+2) h2 (by omega),g _ (4*i+3) h3 (by omega)]
theorem zfo(x:Int):IntKind.i64.wrap x % 4294967296=x % 4294967296:=by
 simp [IntKind.wrap,IntKind.bits,IntKind.signed]
 split<;>omega
theorem wrap_l(x y:Int):(IntKind.i64.wrap x+y) % 4294967296=(x+y) % 4294967296:=by have:=zfo x;omega
theorem zShr_3(x:W32):zShr (wI x) 3=wI (x >>> 3):=by
 have h:=zShr_w x 3 (by omega)
 rw [show (3:Int).toNat=3 from rfl] at h
 exact h
theorem zShr_10(x:W32):zShr (wI x) 10=wI (x >>> 10):=by
 have h:=zShr_w x 10 (by omega)
 rw [show (10:Int).toNat=10 from rfl] at h
 exact h
theorem sch_D(b:List UInt8)(i j:Nat)(h:j<i)(hi:i≤64):(sch b i).getD j 0=wd b j:=by rw [List.getD_eq_getElem?_getD,sch_at b i j h hi,Option.getD_some]
theorem lb_step(b:List UInt8)(i:Nat)(h1:16≤i)(hi:i<64):(schR b i).set i (((schR b i)[i]?.getD []).set 0 (AV.g (.int .i64 (IntKind.i64.wrap (IntKind.i64.wrap (IntKind.i64.wrap (wI (wd b (i-16))+zXor (wI (BitVec.rotateRight (wd b (i-15)) 7 ^^^ BitVec.rotateRight (wd b (i-15)) 18)) (zShr (wI (wd b (i-15))) 3))+wI (wd b (i-7)))+zXor (wI (BitVec.rotateRight (wd b (i-2)) 17 ^^^ BitVec.rotateRight (wd b (i-2)) 19)) (zShr (wI (wd b (i-2))) 10)) % 4294967296))))=schR b (i+1):=by
 rw [zShr_3,zShr_10,zsj,zsj,schR_z b i hi,zfo,wrap_l]
 have e:∀a s c t:W32,(IntKind.i64.wrap (wI a+wI s)+wI c+wI t) % 4294967296=wI (a+s+c+t):=λa s c t=>by
  refine zv1 _ _ (zv1 _ _ ?_ _ _ (zn3 c)) _ _ (zn3 t)
  rw [zfo,add_w]
 rw [e]
 refine zxy b i hi _ ?_
 rw [sch,if_neg (by omega),sch_D b i _ (by omega) (by omega),sch_D b i _ (by omega) (by omega),sch_D b i _ (by omega) (by omega),sch_D b i _ (by omega) (by omega)]
 rfl
theorem zN_w(e:W32):zXor (if IntKind.i64.signed=true then -1 else 9223372036854775807) (wI e) % 4294967296=wI (~~~e):=not_w e
theorem sumC(a b:W32):IntKind.i64.wrap (wI a+wI b) % 4294967296=wI (a+b):=by rw [zfo,add_w]
theorem sumT(a s c k w:W32):IntKind.i64.wrap (IntKind.i64.wrap (IntKind.i64.wrap (IntKind.i64.wrap (wI a+wI s)+wI c)+wI k)+wI w) % 4294967296=wI (a+s+c+k+w):=by
 rw [zfo]
 refine zv1 _ _ ?_ _ _ (zn3 w)
 rw [zfo]
 refine zv1 _ _ ?_ _ _ (zn3 k)
 rw [zfo]
 refine zv1 _ _ ?_ _ _ (zn3 c)
 exact sumC a s
theorem sumA(a s c k w p q:W32):IntKind.i64.wrap (IntKind.i64.wrap (IntKind.i64.wrap (IntKind.i64.wrap (IntKind.i64.wrap (wI a+wI s)+wI c)+wI k)+wI w)+IntKind.i64.wrap (wI p+wI q)) % 4294967296=wI (a+s+c+k+w+(p+q)):=by
 rw [zfo]
 exact zv1 _ _ (sumT a s c k w) _ _ (sumC p q)
theorem sumB(d a s c k w:W32):IntKind.i64.wrap (wI d+IntKind.i64.wrap (IntKind.i64.wrap (IntKind.i64.wrap (IntKind.i64.wrap (wI a+wI s)+wI c)+wI k)+wI w)) % 4294967296=wI (d+(a+s+c+k+w)):=by
 rw [zfo]
 exact zv1 _ _ (zn3 d) _ _ (sumT a s c k w)
theorem zs8(b:List UInt8)(h:W8)(i:Nat):runW b h (i+1)=rnd (kd i) (wd b i) (runW b h i):=by rw [runW];rfl
theorem zs9(b:List UInt8)(h:W8):runW b h 0=h:=rfl
theorem zta(k w:W32)(v:W8):(rnd k w v).cells=[[AV.g (.int .i64 (wI (v.h+(BitVec.rotateRight v.e 6 ^^^ BitVec.rotateRight v.e 11 ^^^ BitVec.rotateRight v.e 25)+(v.e &&& v.f ^^^ ~~~v.e &&& v.g)+k+w+((BitVec.rotateRight v.a 2 ^^^ BitVec.rotateRight v.a 13 ^^^ BitVec.rotateRight v.a 22)+(v.a &&& v.b ^^^ v.a &&& v.c ^^^ v.b &&& v.c)))))],[AV.g (.int .i64 (wI v.a))],[AV.g (.int .i64 (wI v.b))],[AV.g (.int .i64 (wI v.c))],[AV.g (.int .i64 (wI (v.d+(v.h+(BitVec.rotateRight v.e 6 ^^^ BitVec.rotateRight v.e 11 ^^^ BitVec.rotateRight v.e 25)+(v.e &&& v.f ^^^ ~~~v.e &&& v.g)+k+w))))],[AV.g (.int .i64 (wI v.e))],[AV.g (.int .i64 (wI v.f))],[AV.g (.int .i64 (wI v.g))]]:=rfl
theorem tk_len(h:W8)(i:Nat)(hi:i≤8):(h.cells.take i).length=i:=by rw [List.length_take];exact Nat.min_eq_left hi
theorem zxz(h:W8)(i:Nat):scR (h.cells.take i)=true:=by
 by_cases hi:i<8
 ·have:i=0∨i=1∨i=2∨i=3∨i=4∨i=5∨i=6∨i=7:=by omega
  rcases this with rfl | rfl | rfl | rfl | rfl | rfl | rfl | rfl<;>rfl
 ·rw [List.take_of_length_le (by show 8≤i;omega)];rfl
def W8.get(v:W8):Nat→W32
 | 0=>v.a | 1=>v.b | 2=>v.c | 3=>v.d | 4=>v.e | 5=>v.f | 6=>v.g | _=>v.h
theorem zm1(v:W8)(i:Nat)(h:i<8):v.cells[i]? = some (cW (v.get i)):=by
 have:i=0∨i=1∨i=2∨i=3∨i=4∨i=5∨i=6∨i=7:=by omega
 rcases this with rfl | rfl | rfl | rfl | rfl | rfl | rfl | rfl<;>rfl
theorem ztb(h v:W8)(i:Nat)(hi:i<8):(add8 h v).cells.take (i+1)=(add8 h v).cells.take i++[cW (h.get i+v.get i)]:=by
 have:i=0∨i=1∨i=2∨i=3∨i=4∨i=5∨i=6∨i=7:=by omega
 rcases this with rfl | rfl | rfl | rfl | rfl | rfl | rfl | rfl<;>rfl
theorem cells_len(v:W8):v.cells.length=8:=rfl
theorem zcx(v:W8):scR v.cells=true:=rfl
theorem row8(h:W8):List.take 8 h.cells=h.cells:=rfl
attribute [local simp] cW zdl cells_len row8 zxg zmn zAnd_w zsj zNot_w zN_w sumA sumB sumC zcx
theorem l3Block(h:W8)(b:List UInt8)(hb:b.length=64):XCall Tryz.prog 176 [.sl 1 h.cells,.s b,.sl 1 (shaK.map cW)] [] (.arr 16 0 8) [] [.own 1 (blk h b).cells]:=by
 refine zbu Tryz.func176 (by rfl) (by rfl) (by rw [Tryz.ntmps176];exact Nat.le_of_ble_eq_true rfl) rfl (by simp) rfl rfl ?_
 rw [Tryz.ntmps176]
 refine zjb   ?_
 refine AW_k [(0,_),(1,_),(2,_)] ⟨rfl,rfl,rfl,trivial⟩ ?_
 refine AW_x rfl rfl λK hK=>?_
 simp (disch:=omega)
 repeat' first|(refine ⟨by omega,?_⟩)|(intro _)
 refine hK _ ?_;clear hK K
 refine AW_x rfl rfl λK hK=>?_
 simp (disch:=omega)
 repeat' first|(refine ⟨by omega,?_⟩)|(intro _)
 refine hK _ ?_;clear hK K
 refine zbh ?_
 refine AW_x rfl rfl λK hK=>?_
 simp (disch:=omega)
 repeat' first|(refine ⟨by omega,?_⟩)|(intro _)
 refine hK _ ?_;clear hK K
 refine zbj ?_
 refine zbs (λmM sS=>∃(i:Nat),mM=16-i∧(i≤16)∧sS = { env:=lkE [(0,.sl 1 h.cells),(1,.s b),(2,.sl 1 (shaK.map cW)),(7,.arr 501 0 64),(8,(.g (.int .i64 ((i:Nat)))))],ob:=lk [(501,.win 1 (schR b i))] }) ?_ ?_
 ·refine ⟨_,LeS.kx [(501,336)] [(0,.sl 1 h.cells),(1,.s b),(2,.sl 1 (shaK.map cW)),(7,.arr 501 0 64),(8,(.g (.int .i64 (((0):Nat)))))] [(501,.win 1 (schR b (0)))] (by simp [zG21,KpR,renV2,renV,zbk,zdv,zdl];try rfl) (by simp [zG21,KpOX,renO,plO,cvO,renV,pl1,zdv,zdl];first|(simp [schR,sch];done) | exact la_step b hb i hi2 _ _ _ _ | trace_state) (by rfl) (by simp) (by simp) (by rfl) (by simp [formsX,List.range_succ,zbr,zby]),_,0,rfl,?_,rfl⟩
  ·simp
 ·rintro mM sS ⟨i,rfl,hi,rfl⟩
  refine zbh ?_
  refine AW_x rfl rfl λK hK=>?_
  simp (disch:=omega)
  repeat' first|(refine ⟨by omega,?_⟩)|(intro _)
  refine hK _ ?_;clear hK K
  refine zbg rfl (λhc1=>?_) (λhc1=>?_)
  ·try simp at hc1
   all_goals
    have hi2:i<16:=by omega
    refine zbi ?_
    refine zbm ?_
    refine zbh ?_
    refine zbj ?_
    refine zhi rfl mix (by kernel_rfl) (by kernel_rfl) λK hK=>?_
    simp (disch:=omega)
    repeat' first|(exfalso;omega)|(refine ⟨λ_=>?_,λ_=>?_⟩)|(refine ⟨by omega,?_⟩)|(simp (disch:=omega))|(intro _)
    all_goals (refine hK _ _ (by kernel_rfl) ?_;clear hK K)
    all_goals
     refine zbm ?_
     refine zb4 rfl rfl λK hK=>?_
     simp (disch:=omega)
     repeat' first|(refine ⟨by omega,?_⟩)|(intro _)
     refine hK _ ?_;clear hK K
     refine ⟨_,LeS.kx [(501,501)] [(0,.sl 1 h.cells),(1,.s b),(2,.sl 1 (shaK.map cW)),(7,.arr 501 0 64),(8,(.g (.int .i64 (((i+1):Nat)))))] [(501,.win 1 (schR b (i+1)))] (by simp [zG21,KpR,renV2,renV,zbk,zdv,zdl];try rfl) (by simp [zG21,KpOX,renO,plO,cvO,renV,pl1,zdv,zdl];first|(simp [schR,sch];done) | exact la_step b hb i hi2 _ _ _ _ | trace_state) (by rfl) (by simp) (by simp) (by rfl) (by simp [formsX,List.range_succ,zbr,zby]),_,?_,i+1,rfl,?_,rfl⟩
     ·omega
     ·omega
  ·try simp at hc1
   all_goals
    have hil:i=16:=by omega
    subst hil
    refine zbx ?_
    refine zbm ?_
    refine zbh ?_
    refine AW_x rfl rfl λK hK=>?_
    simp (disch:=omega)
    repeat' first|(exfalso;omega)|(refine ⟨λ_=>?_,λ_=>?_⟩)|(refine ⟨by omega,?_⟩)|(simp (disch:=omega))|(intro _)
    all_goals (refine hK _ ?_;clear hK K)
    all_goals
     refine zbj ?_
     refine zbs (λmM sS=>∃(i:Nat),mM=64-i∧(16≤i∧i≤64)∧sS = { env:=lkE [(0,.sl 1 h.cells),(1,.s b),(2,.sl 1 (shaK.map cW)),(7,.arr 501 0 64),(9,(.g (.int .i64 ((i:Nat)))))],ob:=lk [(501,.win 1 (schR b i))] }) ?_ ?_
     ·refine ⟨_,LeS.kx [(501,501)] [(0,.sl 1 h.cells),(1,.s b),(2,.sl 1 (shaK.map cW)),(7,.arr 501 0 64),(9,(.g (.int .i64 (((16):Nat)))))] [(501,.win 1 (schR b (16)))] (by simp [zG21,KpR,renV2,renV,zbk,zdv,zdl];try rfl) (by simp [zG21,KpOX,renO,plO,cvO,renV,pl1,zdv,zdl];first|(simp;done) | exact lb_step b i hi1 hi2 | trace_state) (by rfl) (by simp) (by simp) (by rfl) (by simp [formsX,List.range_succ,zbr,zby]),_,16,rfl,?_,rfl⟩
      ·simp
     ·rintro mM sS ⟨i,rfl,⟨hi1,hi⟩,rfl⟩
      refine zbh ?_
      refine AW_x rfl rfl λK hK=>?_
      simp (disch:=omega)
      repeat' first|(refine ⟨by omega,?_⟩)|(intro _)
      refine hK _ ?_;clear hK K
      refine zbg rfl (λhc2=>?_) (λhc2=>?_)
      ·try simp at hc2
       all_goals
        have hi2:i<64:=by omega
        have g15:(schR b i)[((i:Int)-15).toNat]? = some (cW (wd b (i-15))):=by rw [show ((i:Int)-15).toNat=i-15 by omega];exact zjk b i _ (by omega) hi
        have g2:(schR b i)[((i:Int)-2).toNat]? = some (cW (wd b (i-2))):=by rw [show ((i:Int)-2).toNat=i-2 by omega];exact zjk b i _ (by omega) hi
        have g16:(schR b i)[((i:Int)-16).toNat]? = some (cW (wd b (i-16))):=by rw [show ((i:Int)-16).toNat=i-16 by omega];exact zjk b i _ (by omega) hi
        have g7:(schR b i)[((i:Int)-7).toNat]? = some (cW (wd b (i-7))):=by rw [show ((i:Int)-7).toNat=i-7 by omega];exact zjk b i _ (by omega) hi
        refine zbi ?_
        refine zbm ?_
        refine zbh ?_
        refine zbj ?_
        refine AW_d rfl mix (by kernel_rfl) (by kernel_rfl) λK hK=>?_
        simp (disch:=omega) [g15,g2,g16,g7]
        repeat' first|(exfalso;omega)|(refine zf2 (λst'=>(zbd zcl (zbd zcl zbl))) (zg8 _ _ (by decide)) rfl ?_;simp (disch:=omega) [g15,g2,g16,g7])|(refine zf3 (zg8 _ _ (by decide)) (by rfl) (λst' hst=>?_) ?_;(focus (simp (disch:=omega) [g15,g2,g16,g7] at hst;simp (disch:=omega) [g15,g2,g16,g7,hst,zbo];done));simp (disch:=omega) [g15,g2,g16,g7])|(refine ⟨λ_=>?_,λ_=>?_⟩)|(refine ⟨by omega,?_⟩)|(simp (disch:=omega) [g15,g2,g16,g7])|(intro _)
        all_goals (refine hK _ _ (by kernel_rfl) ?_;clear hK K)
        all_goals
         refine AW_d rfl mix (by kernel_rfl) (by kernel_rfl) λK hK=>?_
         simp (disch:=omega) [g15,g2,g16,g7]
         repeat' first|(exfalso;omega)|(refine zf2 (λst'=>(zbd zcl (zbd zcl zbl))) (zg8 _ _ (by decide)) rfl ?_;simp (disch:=omega) [g15,g2,g16,g7])|(refine zf3 (zg8 _ _ (by decide)) (by rfl) (λst' hst=>?_) ?_;(focus (simp (disch:=omega) [g15,g2,g16,g7] at hst;simp (disch:=omega) [g15,g2,g16,g7,hst,zbo];done));simp (disch:=omega) [g15,g2,g16,g7])|(refine ⟨by omega,?_⟩)|(simp (disch:=omega) [g15,g2,g16,g7])|(intro _)
         refine hK _ _ (by kernel_rfl) ?_;clear hK K
         refine zhi rfl mix (by kernel_rfl) (by kernel_rfl) λK hK=>?_
         simp (disch:=omega) [g15,g2,g16,g7]
         repeat' first|(exfalso;omega)|(refine zf2 (λst'=>(zbd zcl zbl)) (zjj _) rfl ?_;simp (disch:=omega) [g15,g2,g16,g7])|(refine zf3 (zjj _) (by rfl) (λst' hst=>?_) ?_;(focus (simp (disch:=omega) [g15,g2,g16,g7] at hst;simp (disch:=omega) [g15,g2,g16,g7,hst,zbo];done));simp (disch:=omega) [g15,g2,g16,g7])|(refine ⟨by omega,?_⟩)|(simp (disch:=omega) [g15,g2,g16,g7])|(intro _)
         refine hK _ _ (by kernel_rfl) ?_;clear hK K
         refine zbm ?_
         refine zb4 rfl rfl λK hK=>?_
         simp (disch:=omega) [g15,g2,g16,g7]
         repeat' first|(refine ⟨by omega,?_⟩)|(intro _)
         refine hK _ ?_;clear hK K
         refine ⟨_,LeS.kx [(501,501)] [(0,.sl 1 h.cells),(1,.s b),(2,.sl 1 (shaK.map cW)),(7,.arr 501 0 64),(9,(.g (.int .i64 (((i+1):Nat)))))] [(501,.win 1 (schR b (i+1)))] (by simp [zG21,KpR,renV2,renV,zbk,zdv,zdl];try rfl) (by simp [zG21,KpOX,renO,plO,cvO,renV,pl1,zdv,zdl];first|(simp;done) | exact lb_step b i hi1 hi2 | trace_state) (by rfl) (by simp) (by simp) (by rfl) (by simp [formsX,List.range_succ,zbr,zby]),_,?_,i+1,rfl,?_,rfl⟩
         ·omega
         ·omega
      ·try simp at hc2
       all_goals
        have hil:i=64:=by omega
        subst hil
        refine zbx ?_
        refine zbm ?_
        refine AW_x rfl rfl λK hK=>?_
        simp (disch:=omega)
        repeat' first|(exfalso;omega)|(refine ⟨λ_=>?_,λ_=>?_⟩)|(refine ⟨by omega,?_⟩)|(simp (disch:=omega))|(intro _)
        all_goals (refine hK _ ?_;clear hK K)
        all_goals
         refine zbh ?_
         refine AW_x rfl rfl λK hK=>?_
         simp (disch:=omega)
         repeat' first|(refine ⟨by omega,?_⟩)|(intro _)
         refine hK _ ?_;clear hK K
         refine zbj ?_
         refine zbs (λmM sS=>∃(i:Nat),mM=64-i∧(i≤64)∧sS = { env:=lkE [(0,.sl 1 h.cells),(2,.sl 1 (shaK.map cW)),(7,.arr 501 0 64),(12,.arr 502 0 8),(13,(.g (.int .i64 ((i:Nat)))))],ob:=lk [(501,.win 1 (schR b 64)),(502,.win 1 (runW b h i).cells)] }) ?_ ?_
         ·refine ⟨_,LeS.kx [(501,501),(502,1968)] [(0,.sl 1 h.cells),(2,.sl 1 (shaK.map cW)),(7,.arr 501 0 64),(12,.arr 502 0 8),(13,(.g (.int .i64 (((0):Nat)))))] [(501,.win 1 (schR b 64)),(502,.win 1 (runW b h (0)).cells)] (by simp [zG21,KpR,renV2,renV,zbk,zdv,zdl,zcx,cells_len];first|(simp;done)|(with_reducible rfl) | exact (show _=W8.cells _ from rfl) | trace_state) (by simp [zG21,KpOX,renO,plO,cvO,renV,pl1,zdv,zdl,zcx,cells_len];first|(rw [zs8,hv,zta];done)|(rw [zs9];done) | trace_state) (by rfl) (by simp) (by simp) (by rfl) (by simp [formsX,List.range_succ,zbr,zby]),_,0,rfl,?_,rfl⟩
          ·simp
         ·rintro mM sS ⟨i,rfl,hi,rfl⟩
          refine zbh ?_
          refine AW_x rfl rfl λK hK=>?_
          simp (disch:=omega)
          repeat' first|(refine ⟨by omega,?_⟩)|(intro _)
          refine hK _ ?_;clear hK K
          refine zbg rfl (λhc3=>?_) (λhc3=>?_)
          ·try simp at hc3
           all_goals
            have hi2:i<64:=by omega
            have gw:(schR b 64)[i]? = some (cW (wd b i)):=zjk b 64 i hi2 (by omega)
            have gk:=kd_at i hi2
            obtain ⟨v,hv⟩:∃v,runW b h i=v:=⟨_,rfl⟩
            rw [hv]
            refine zbi ?_
            refine zbm ?_
            refine zbh ?_
            refine zbj ?_
            refine AW_x rfl rfl λK hK=>?_
            simp (disch:=omega) [gw,gk,W8.cells]
            repeat' first|(exfalso;omega)|(refine ⟨λ_=>?_,λ_=>?_⟩)|(refine ⟨by omega,?_⟩)|(simp (disch:=omega) [gw,gk,W8.cells])|(intro _)
            all_goals (refine hK _ ?_;clear hK K)
            all_goals
             refine AW_x rfl rfl λK hK=>?_
             simp (disch:=omega) [gw,gk,W8.cells]
             repeat' first|(refine ⟨by omega,?_⟩)|(intro _)
             refine hK _ ?_;clear hK K
             refine AW_d rfl mix (by kernel_rfl) (by kernel_rfl) λK hK=>?_
             simp (disch:=omega) [gw,gk,W8.cells]
             repeat' first|(exfalso;omega)|(refine zf2 (λst'=>(zbd zcl (zbd zcl zbl))) (zg8 _ _ (by decide)) rfl ?_;simp (disch:=omega) [gw,gk,W8.cells])|(refine zf3 (zg8 _ _ (by decide)) (by rfl) (λst' hst=>?_) ?_;(focus (simp (disch:=omega) [gw,gk,W8.cells] at hst;simp (disch:=omega) [gw,gk,W8.cells,hst,zbo];done));simp (disch:=omega) [gw,gk,W8.cells])|(refine zf2 (λst'=>(zbd zcl zbl)) (zjj _) rfl ?_;simp (disch:=omega) [gw,gk,W8.cells])|(refine zf3 (zjj _) (by rfl) (λst' hst=>?_) ?_;(focus (simp (disch:=omega) [gw,gk,W8.cells] at hst;simp (disch:=omega) [gw,gk,W8.cells,hst,zbo];done));simp (disch:=omega) [gw,gk,W8.cells])|(refine ⟨by omega,?_⟩)|(simp (disch:=omega) [gw,gk,W8.cells])|(intro _)
             refine hK _ _ (by kernel_rfl) ?_;clear hK K
             refine AW_d rfl mix (by kernel_rfl) (by kernel_rfl) λK hK=>?_
             simp (disch:=omega) [gw,gk,W8.cells]
             repeat' first|(exfalso;omega)|(refine zf2 (λst'=>(zbd zcl (zbd zcl zbl))) (zg8 _ _ (by decide)) rfl ?_;simp (disch:=omega) [gw,gk,W8.cells])|(refine zf3 (zg8 _ _ (by decide)) (by rfl) (λst' hst=>?_) ?_;(focus (simp (disch:=omega) [gw,gk,W8.cells] at hst;simp (disch:=omega) [gw,gk,W8.cells,hst,zbo];done));simp (disch:=omega) [gw,gk,W8.cells])|(refine ⟨by omega,?_⟩)|(simp (disch:=omega) [gw,gk,W8.cells])|(intro _)
             refine hK _ _ (by kernel_rfl) ?_;clear hK K
             refine zhi rfl mix (by kernel_rfl) (by kernel_rfl) λK hK=>?_
             simp (disch:=omega) [gw,gk,W8.cells]
             repeat' first|(exfalso;omega)|(refine zf2 (λst'=>(zbd zcl zbl)) (zjj _) rfl ?_;simp (disch:=omega) [gw,gk,W8.cells])|(refine zf3 (zjj _) (by rfl) (λst' hst=>?_) ?_;(focus (simp (disch:=omega) [gw,gk,W8.cells] at hst;simp (disch:=omega) [gw,gk,W8.cells,hst,zbo];done));simp (disch:=omega) [gw,gk,W8.cells])|(refine ⟨by omega,?_⟩)|(simp (disch:=omega) [gw,gk,W8.cells])|(intro _)
             refine hK _ _ (by kernel_rfl) ?_;clear hK K
             refine zbm ?_
             refine zb4 rfl rfl λK hK=>?_
             simp (disch:=omega) [gw,gk,W8.cells]
             repeat' first|(refine ⟨by omega,?_⟩)|(intro _)
             refine hK _ ?_;clear hK K
             refine ⟨_,LeS.kx [(501,501),(502,3616)] [(0,.sl 1 h.cells),(2,.sl 1 (shaK.map cW)),(7,.arr 501 0 64),(12,.arr 502 0 8),(13,(.g (.int .i64 (((i+1):Nat)))))] [(501,.win 1 (schR b 64)),(502,.win 1 (runW b h (i+1)).cells)] (by simp [zG21,KpR,renV2,renV,zbk,zdv,zdl,zcx,cells_len];first|(simp;done)|(with_reducible rfl) | exact (show _=W8.cells _ from rfl) | trace_state) (by simp [zG21,KpOX,renO,plO,cvO,renV,pl1,zdv,zdl,zcx,cells_len];first|(rw [zs8,hv,zta];done)|(rw [zs9];done) | trace_state) (by rfl) (by simp) (by simp) (by rfl) (by simp [formsX,List.range_succ,zbr,zby]),_,?_,i+1,rfl,?_,rfl⟩
             ·omega
             ·omega
          ·try simp at hc3
           all_goals
            have hil:i=64:=by omega
            subst hil
            obtain ⟨v,hv⟩:∃v,runW b h 64=v:=⟨_,rfl⟩
            rw [hv]
            refine zbx ?_
            refine zbm ?_
            refine AW_x rfl rfl λK hK=>?_
            simp (disch:=omega)
            repeat' first|(exfalso;omega)|(refine ⟨λ_=>?_,λ_=>?_⟩)|(refine ⟨by omega,?_⟩)|(simp (disch:=omega))|(intro _)
            all_goals (refine hK _ ?_;clear hK K)
            all_goals
             refine zbh ?_
             refine AW_x rfl rfl λK hK=>?_
             simp (disch:=omega)
             repeat' first|(refine ⟨by omega,?_⟩)|(intro _)
             refine hK _ ?_;clear hK K
             refine zbj ?_
             refine zbs (λmM sS=>∃(i:Nat),mM=8-i∧(i≤8)∧sS = { env:=lkE [(0,.sl 1 h.cells),(12,.arr 502 0 8),(18,.arr 503 0 i),(19,(.g (.int .i64 ((i:Nat)))))],ob:=lk [(502,.win 1 v.cells),(503,.win 1 ((add8 h v).cells.take i))] }) ?_ ?_
             ·refine ⟨_,LeS.kx [(502,502),(503,3632)] [(0,.sl 1 h.cells),(12,.arr 502 0 8),(18,.arr 503 0 (0)),(19,(.g (.int .i64 (((0):Nat)))))] [(502,.win 1 v.cells),(503,.win 1 ((add8 h v).cells.take (0)))] (by simp [zG21,KpR,renV2,renV,zbk,zcx,cells_len,zxz];first|(simp;done) | omega | trace_state) (by simp [zG21,KpOX,renO,plO,cvO,renV,pl1,zcx,cells_len,zxz];first | rfl|(rw [ztb _ _ _ hi2,List.take_of_length_le (by simp [htl])];rfl) | trace_state) (by rfl) (by simp) (by simp) (by rfl) (by simp [formsX,List.range_succ,zbr,zby]),_,0,rfl,?_,rfl⟩
              ·simp
             ·rintro mM sS ⟨i,rfl,hi,rfl⟩
              have htl:=tk_len (add8 h v) i hi
              refine zbh ?_
              refine AW_x rfl rfl λK hK=>?_
              simp (disch:=omega) [htl]
              repeat' first|(refine ⟨by omega,?_⟩)|(intro _)
              refine hK _ ?_;clear hK K
              refine zbg rfl (λhc4=>?_) (λhc4=>?_)
              ·try simp at hc4
               all_goals
                have hi2:i<8:=by omega
                have gh:=zm1 h i hi2
                have gv:=zm1 v i hi2
                refine zbi ?_
                refine zbm ?_
                refine zbh ?_
                refine zbj ?_
                refine zhi rfl mix (by kernel_rfl) (by kernel_rfl) λK hK=>?_
                simp (disch:=omega) [htl,gh,gv]
                repeat' first|(exfalso;omega)|(refine zf2 (λst'=>(zbd zcl zbl)) (zjj _) rfl ?_;simp (disch:=omega) [htl,gh,gv])|(refine zf3 (zjj _) (by rfl) (λst' hst=>?_) ?_;(focus (simp (disch:=omega) [htl,gh,gv] at hst;simp (disch:=omega) [htl,gh,gv,hst,zbo];done));simp (disch:=omega) [htl,gh,gv])|(refine ⟨λ_=>?_,λ_=>?_⟩)|(refine ⟨by omega,?_⟩)|(simp (disch:=omega) [htl,gh,gv])|(intro _)
                all_goals (refine hK _ _ (by kernel_rfl) ?_;clear hK K)
                all_goals
                 refine zbm ?_
                 refine zb4 rfl rfl λK hK=>?_
                 simp (disch:=omega) [htl,gh,gv]
                 repeat' first|(refine ⟨by omega,?_⟩)|(intro _)
                 refine hK _ ?_;clear hK K
                 refine ⟨_,LeS.kx [(502,502),(503,3904)] [(0,.sl 1 h.cells),(12,.arr 502 0 8),(18,.arr 503 0 (i+1)),(19,(.g (.int .i64 (((i+1):Nat)))))] [(502,.win 1 v.cells),(503,.win 1 ((add8 h v).cells.take (i+1)))] (by simp [zG21,KpR,renV2,renV,zbk,zcx,cells_len,zxz];first|(simp;done) | omega | trace_state) (by simp [zG21,KpOX,renO,plO,cvO,renV,pl1,zcx,cells_len,zxz];first | rfl|(rw [ztb _ _ _ hi2,List.take_of_length_le (by simp [htl])];rfl) | trace_state) (by rfl) (by simp) (by simp) (by rfl) (by simp [formsX,List.range_succ,zbr,zby]),_,?_,i+1,rfl,?_,rfl⟩
                 ·omega
                 ·omega
              ·try simp at hc4
               all_goals
                have hil:i=8:=by omega
                subst hil
                refine zbx ?_
                refine zbm ?_
                refine AW_x rfl rfl λK hK=>?_
                simp (disch:=omega) [htl]
                repeat' first|(exfalso;omega)|(refine ⟨λ_=>?_,λ_=>?_⟩)|(refine ⟨by omega,?_⟩)|(simp (disch:=omega) [htl])|(intro _)
                all_goals (refine hK _ ?_;clear hK K)
                all_goals
                 refine zbp (zce [503] [] (by simp [zG21,List.range_succ]) (by simp) ?_)
                 simp (disch:=omega) [htl]
                 all_goals first|(unfold blk;rw [hv];done) | trace_state
end Go.Proofs.YtodmafgmdlkhoaaGreat.Vs
end
