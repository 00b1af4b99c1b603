import Derived.Test.YtchpfloemfoomaaSM6
section
namespace Go.Proofs.Ytchpfloemfoomaa.Vs
set_option linter.all false
set_option maxRecDepth 100000
set_option maxHeartbeats 2000000
theorem ztb(s:List UInt8)(a:Int)(ha:a≤s.length):(snapS s a).2≤s.length:=by
 unfold snapS
 split
 ·simp only;omega
 ·rename_i h
  have hb:=zfv λhh=>h (.inl hh)
  exact (zkl s _ (([]:List (List UInt8)),e1 s (readS s 2 ([],a)).2) hb.2.2.2.2.2).1
noncomputable def snsS(s:List UInt8):Nat→List DtCSnap × Int→List DtCSnap × Int
 | 0,x=>x
 | n+1,x=>if (snapS s x.2).2<0 then (x.1,-1) else snsS s n (x.1++[(snapS s x.2).1],(snapS s x.2).2)
theorem snsS_f{s:List UInt8}{n i:Nat}{l:List DtCSnap}{a:Int}{z:List DtCSnap × Int}(h:snsS s (n-i) (l,a)=z)(hi:i<n)(hb:(snapS s a).2<0):z=(l,-1):=by
 obtain ⟨q,hq⟩:∃q,n-i=q+1:=⟨n-i-1,by omega⟩
 rw [←h,hq,snsS,if_pos hb]
theorem snsS_t{s:List UInt8}{n i:Nat}{l:List DtCSnap}{a:Int}{z:List DtCSnap × Int}(h:snsS s (n-i) (l,a)=z)(hi:i<n)(hb:0≤(snapS s a).2):snsS s (n-(i+1)) (l++[(snapS s a).1],(snapS s a).2)=z:=by
 have hq:n-i=(n-(i+1))+1:=by omega
 rw [←h,hq,snsS,if_neg (show ¬(snapS s (l,a).2).2<0 by simp only;omega)]
theorem zx5(s:List UInt8):∀(n:Nat) (x:List DtCSnap × Int),x.2≤s.length→(snsS s n x).2≤s.length
 | 0,x,h=>h
 | n+1,x,h=>by
  rw [snsS]
  split
  ·simp only;omega
  ·exact zx5 s n _ (ztb s x.2 h)
noncomputable def setS(s:List UInt8)(a:Int):DtCSet × Int :=
 if bdV s (readS s 1 ([],a)).2=true∨5<v1 s (readS s 1 ([],a)).2∨(snsS s (v1 s (readS s 1 ([],a)).2).toNat ([],e1 s (readS s 1 ([],a)).2)).2<0 then (⟨[],[]⟩,-1)
 else (⟨(readS s 1 ([],a)).1.getD 0 [],(snsS s (v1 s (readS s 1 ([],a)).2).toNat ([],e1 s (readS s 1 ([],a)).2)).1⟩,(snsS s (v1 s (readS s 1 ([],a)).2).toNat ([],e1 s (readS s 1 ([],a)).2)).2)
theorem zsa(s:List UInt8)(a:Int)(ha:a≤s.length):(setS s a).2≤s.length:=by
 unfold setS
 split
 ·simp only;omega
 ·rename_i h
  have hb:=zfv λhh=>h (.inl hh)
  exact zx5 s _ (([]:List DtCSnap),e1 s (readS s 1 ([],a)).2) hb.2.2.2.2.2
def zG19:=And.intro @zce (And.intro @gE (And.intro @tP (And.intro @zh0 (And.intro @and_assoc (And.intro @List.range_succ (And.intro @zbz (And.intro @zbk (And.intro @zbh (And.intro @zbd @zbv)))))))))
def zG20:=And.intro @zbt (And.intro @zb0 @zcb)
theorem zx6(s:List UInt8)(a:Int)(hs:s.length≤1048576)(ha:a≤s.length):XCall Try.prog 10 [.s s,(.g (.int .i64 (a)))] [] (.tup [.agg [.s (setS s a).1.fName,.arr 16 0 (setS s a).1.fSnaps.length],(.g (.int .i64 ((setS s a).2)))]) [] [.own 3 ((setS s a).1.fSnaps.map DtCSnap.cells)]:=by
 have ht:=zlx s a 1 hs (by omega)
 have htb:=(zkl s 1 ([],a) ha).2
 have hsn:setS s a=setS s a:=rfl
 conv at hsn=>rhs;unfold setS
 obtain ⟨tl,ta,et⟩:∃tl ta,readS s 1 ([],a)=(tl,ta):=⟨_,_,rfl⟩
 simp only [et] at ht htb hsn
 have hv:=zgg s ta 1 hs (by omega)
 by_cases hg:¬bdV s ta=true∧¬5<v1 s ta
 ·obtain ⟨hb,h4⟩:=hg
  rw [zfu hb] at hv
  have hbt:=zfv hb
  have h2:=htb (by omega)
  obtain ⟨x0,rfl⟩:∃x0,tl=[x0]:=by
   match tl,h2 with
   | [x0],_=>exact ⟨_,rfl⟩
  obtain ⟨K,hK⟩:∃K:Nat,v1 s ta=K:=Int.eq_ofNat_of_zero_le (by omega)
  rw [hK] at hsn hv hbt h4
  generalize e1 s ta=e at *
  rw [Int.toNat_natCast] at hsn
  refine zbu Try.func10 (by rfl) (by rfl) (by rw [Try.ntmps10];exact Nat.le_of_ble_eq_true rfl) rfl (by simp) rfl rfl ?_
  rw [Try.ntmps10]
  refine zf1   ?_
  refine AW_k [(0,_),(1,_)] ⟨rfl,rfl,trivial⟩ ?_
  refine AW_x rfl rfl λK hK=>?_
  simp (disch:=omega) [zG19,cI,cS,DtCSnap.cells,-aAppZ]
  repeat' first|(refine ⟨by omega,?_⟩)|(intro _)
  refine hK _ ?_;clear hK K
  refine AW_x rfl rfl λK hK=>?_
  simp (disch:=omega) [zG19,cI,cS,DtCSnap.cells,-aAppZ]
  repeat' first|(exfalso;omega)|(refine zb6 [] false [] (ht) ?_ ?_ ?_;(focus (simp [List.range_succ,nmC];done));(focus (simp (disch:=omega) [zG19,cI,cS,DtCSnap.cells,-aAppZ];done));simp (disch:=omega) [zG19,cI,cS,DtCSnap.cells,-aAppZ])|(refine ⟨by omega,?_⟩)|(simp (disch:=omega) [zG19,cI,cS,DtCSnap.cells,-aAppZ])|(intro _)
  refine hK _ ?_;clear hK K
  refine AW_x rfl rfl λK hK=>?_
  simp (disch:=omega) [zG19,cI,cS,DtCSnap.cells,-aAppZ]
  repeat' first|(exfalso;omega)|(refine zb6 [] false [] (hv) ?_ ?_ ?_;(focus (simp [List.range_succ,nmC];done));(focus (simp (disch:=omega) [zG19,cI,cS,DtCSnap.cells,-aAppZ];done));simp (disch:=omega) [zG19,cI,cS,DtCSnap.cells,-aAppZ])|(refine ⟨by omega,?_⟩)|(simp (disch:=omega) [zG19,cI,cS,DtCSnap.cells,-aAppZ])|(intro _)
  refine hK _ ?_;clear hK K
  refine zbf ?_
  refine AW_x rfl rfl λK hK=>?_
  simp (disch:=omega) [zG19,cI,cS,DtCSnap.cells,-aAppZ]
  repeat' first|(exfalso;omega)|(refine ⟨λ_=>?_,λ_=>?_⟩)|(refine ⟨by omega,?_⟩)|(simp (disch:=omega) [zG19,cI,cS,DtCSnap.cells,-aAppZ])|(intro _)
  all_goals (refine hK _ ?_;clear hK K)
  all_goals
   refine zbi rfl (λhc1=>?_) (λhc1=>?_)
   ·try simp [zbk,zbh,zbb,zba] at hc1
    all_goals
     refine AW_x rfl rfl λK hK=>?_
     simp (disch:=omega) [zG19,cI,cS,DtCSnap.cells,-aAppZ]
     repeat' first|(exfalso;omega)|(refine ⟨λ_=>?_,λ_=>?_⟩)|(refine ⟨by omega,?_⟩)|(simp (disch:=omega) [zG19,cI,cS,DtCSnap.cells,-aAppZ])|(intro _)
     all_goals (refine hK _ ?_;clear hK K)
     all_goals
      refine zbl (zcd [1000] [(1000,3)] (by simp [zG20,List.range_succ]) (by simp) ?_)
      simp (disch:=omega) [zG19,cI,cS,DtCSnap.cells,-aAppZ]
      all_goals first | exact ⟨rfl,rfl,rfl⟩ | rfl | omega | trace_state
   ·try simp [zbk,zbh,zbb,zba] at hc1
    all_goals
     refine zbj ?_
     refine zbo ?_
     refine AW_x rfl rfl λK hK=>?_
     simp (disch:=omega) [zG19,cI,cS,DtCSnap.cells,-aAppZ]
     repeat' first|(exfalso;omega)|(refine ⟨λ_=>?_,λ_=>?_⟩)|(refine ⟨by omega,?_⟩)|(simp (disch:=omega) [zG19,cI,cS,DtCSnap.cells,-aAppZ])|(intro _)
     all_goals (refine hK _ ?_;clear hK K)
     all_goals
      refine zbf ?_
      refine AW_x rfl rfl λK hK=>?_
      simp (disch:=omega) [zG19,cI,cS,DtCSnap.cells,-aAppZ]
      repeat' first|(refine ⟨by omega,?_⟩)|(intro _)
      refine hK _ ?_;clear hK K
      refine zbm ?_
      refine zbw (λmM sS=>∃(i:Nat) (l:List DtCSnap) (b:Int),mM=K-i∧(i≤K∧l.length=i∧snsS s (K-i) (l,b)=snsS s K ([],e)∧b≤s.length∧0≤b)∧sS = { env:=lkE [(0,.s s),(1,(.g (.int .i64 (b)))),(4,.ptr 80 0),(7,.arr 352 0 1),(8,.ptr 144 0),(9,(.g (.int .i64 ((i:Nat)))))],ob:=lk [(80,.cells [.s [],.g (.slice none 0 0)]),(352,.own 1 [[(.g (.int .i64 ((K:Nat))))]]),(144,.cells [.s x0,.arr 501 0 l.length]),(501,.own 3 (l.map DtCSnap.cells))] }) ?_ ?_
      ·refine ⟨_,LeS.trans (LeS.znc (cs:=[.s x0,.g (.slice none 0 0)]) 501 3 144 1 (by simp [zG20,zby]) (by simp [zG20,zby,DtCSnap.cells]) (by rfl)) (LeS.kx [(80,80),(352,352),(144,144),(501,501)] [(0,.s s),(1,(.g (.int .i64 ((e))))),(4,.ptr 80 0),(7,.arr 352 0 1),(8,.ptr 144 0),(9,(.g (.int .i64 (((0):Nat)))))] [(80,.cells [.s [],.g (.slice none 0 0)]),(352,.own 1 [[(.g (.int .i64 ((K:Nat))))]]),(144,.cells [.s x0,.arr 501 0 ([]).length]),(501,.own 3 (([]).map DtCSnap.cells))] (by simp [zG20,KpR,renV2,renV,zby,DtCSnap.cells];try (first | with_reducible rfl | omega|(simp;done))) (by simp [zG20,KpOX,renO,plO,cvO,renV,pl1,DtCSnap.cells];try (first | with_reducible rfl|(simp [DtCSnap.cells];done) | trace_state)) (by rfl) (by simp) (by simp) (by rfl) (by simp [formsX,List.range_succ,zbt,zb0])),_,0,[],e,rfl,?_,rfl⟩
       ·exact ⟨by omega,rfl,rfl,by omega,by omega⟩
      ·rintro mM sS ⟨i,l,b,rfl,⟨hin,hli,htx,hbl,hb0⟩,rfl⟩
       refine zbf ?_
       refine AW_x rfl rfl λK hK=>?_
       simp (disch:=omega) [zG19,cI,cS,DtCSnap.cells,-aAppZ]
       repeat' first|(refine ⟨by omega,?_⟩)|(intro _)
       refine hK _ ?_;clear hK K
       refine zbi rfl (λhc2=>?_) (λhc2=>?_)
       ·try simp [zbk,zbh,zbb,zba] at hc2
        all_goals
         refine zbj ?_
         refine zbo ?_
         refine zbf ?_
         refine zbm ?_
         refine AW_x rfl rfl λK hK=>?_
         simp (disch:=omega) [zG19,cI,cS,DtCSnap.cells,-aAppZ]
         repeat' first|(exfalso;omega)|(refine zb6 [] false [] (l26Snap s b hs hbl) ?_ ?_ ?_;(focus (simp [List.range_succ,nmC];done));(focus (simp (disch:=omega) [zG19,cI,cS,DtCSnap.cells,-aAppZ];done));simp (disch:=omega) [zG19,cI,cS,DtCSnap.cells,-aAppZ])|(refine ⟨λ_=>?_,λ_=>?_⟩)|(refine ⟨by omega,?_⟩)|(simp (disch:=omega) [zG19,cI,cS,DtCSnap.cells,-aAppZ])|(intro _)
         all_goals (refine hK _ ?_;clear hK K)
         all_goals
          refine zbf ?_
          refine AW_x rfl rfl λK hK=>?_
          simp (disch:=omega) [zG19,cI,cS,DtCSnap.cells,-aAppZ]
          repeat' first|(refine ⟨by omega,?_⟩)|(intro _)
          refine hK _ ?_;clear hK K
          refine zbi rfl (λhc3=>?_) (λhc3=>?_)
          ·try simp [zbk,zbh,zbb,zba] at hc3
           all_goals
            have hz:=snsS_f htx (by omega) (by assumption)
            rw [hz] at hsn
            rw [if_pos (.inr (.inr (show (-1:Int)<0 by decide)))] at hsn
            rw [hsn]
            refine AW_x rfl rfl λK hK=>?_
            simp (disch:=omega) [zG19,cI,cS,DtCSnap.cells,-aAppZ]
            repeat' first|(exfalso;omega)|(refine ⟨λ_=>?_,λ_=>?_⟩)|(refine ⟨by omega,?_⟩)|(simp (disch:=omega) [zG19,cI,cS,DtCSnap.cells,-aAppZ])|(intro _)
            all_goals (refine hK _ ?_;clear hK K)
            all_goals
             refine zbl (zcd [1000] [(1000,3)] (by simp [zG20,List.range_succ]) (by simp) ?_)
             simp (disch:=omega) [zG19,cI,cS,DtCSnap.cells,-aAppZ]
             all_goals first | exact ⟨rfl,rfl,rfl⟩ | rfl | omega | trace_state
          ·try simp [zbk,zbh,zbb,zba] at hc3
           all_goals
            refine zbj ?_
            refine zbo ?_
            refine AW_x rfl rfl λK hK=>?_
            simp (disch:=omega) [zG19,cI,cS,DtCSnap.cells,-aAppZ]
            repeat' first|(exfalso;omega)|(refine ⟨λ_=>?_,λ_=>?_⟩)|(refine ⟨by omega,?_⟩)|(simp (disch:=omega) [zG19,cI,cS,DtCSnap.cells,-aAppZ])|(intro _)
            all_goals (refine hK _ ?_;clear hK K)
            all_goals
             refine zdc rfl rfl λK hK=>?_
             simp (disch:=omega) [zG19,cI,cS,DtCSnap.cells,-aAppZ]
             repeat' first|(refine ⟨by omega,?_⟩)|(intro _)
             refine hK _ ?_;clear hK K
             refine zbo ?_
             refine zdc rfl rfl λK hK=>?_
             simp (disch:=omega) [zG19,cI,cS,DtCSnap.cells,-aAppZ]
             repeat' first|(refine ⟨by omega,?_⟩)|(intro _)
             refine hK _ ?_;clear hK K
             refine ⟨_,LeS.kx [(80,80),(352,352),(144,144),(501,928)] [(0,.s s),(1,(.g (.int .i64 (((snapS s b).2))))),(4,.ptr 80 0),(7,.arr 352 0 1),(8,.ptr 144 0),(9,(.g (.int .i64 (((i+1):Nat)))))] [(80,.cells [.s [],.g (.slice none 0 0)]),(352,.own 1 [[(.g (.int .i64 ((K:Nat))))]]),(144,.cells [.s x0,.arr 501 0 (l++[(snapS s b).1]).length]),(501,.own 3 ((l++[(snapS s b).1]).map DtCSnap.cells))] (by simp [zG20,KpR,renV2,renV,zby,DtCSnap.cells];try (first | with_reducible rfl | omega|(simp;done))) (by simp [zG20,KpOX,renO,plO,cvO,renV,pl1,DtCSnap.cells];try (first | with_reducible rfl|(simp [DtCSnap.cells];done) | trace_state)) (by rfl) (by simp) (by simp) (by rfl) (by simp [formsX,List.range_succ,zbt,zb0]),_,?_,i+1,l++[(snapS s b).1],(snapS s b).2,rfl,?_,rfl⟩
             ·omega
             ·exact ⟨by omega,by simp;omega,snsS_t htx (by omega) (by omega),ztb s b hbl,by omega⟩
       ·try simp [zbk,zbh,zbb,zba] at hc2
        all_goals
         have hN:K-i=0:=by omega
         rw [hN,snsS] at htx
         refine zb4 ?_
         refine zbo ?_
         rw [←htx] at hsn
         rw [if_neg (by rintro (h | h | h)<;>first | exact hb h | omega)] at hsn
         rw [hsn]
         refine AW_x rfl rfl λK hK=>?_
         simp (disch:=omega) [zG19,cI,cS,DtCSnap.cells,-aAppZ]
         repeat' first|(exfalso;omega)|(refine ⟨λ_=>?_,λ_=>?_⟩)|(refine ⟨by omega,?_⟩)|(simp (disch:=omega) [zG19,cI,cS,DtCSnap.cells,-aAppZ])|(intro _)
         all_goals (refine hK _ ?_;clear hK K)
         all_goals
          refine zbl (zcd [501] [] (by simp [zG20,List.range_succ]) (by simp) ?_)
          simp (disch:=omega) [zG19,cI,cS,DtCSnap.cells,-aAppZ]
          all_goals first | exact ⟨rfl,rfl,rfl⟩ | rfl | omega | trace_state
 ·have hsn2 : setS s a = (⟨[], []⟩, -1) := by
   rw [hsn]
   by_cases hb:bdV s ta=true
   ·rw [if_pos (.inl hb)]
   ·rw [if_pos (.inr (.inl (by by_cases h:5<v1 s ta;exact h;exact absurd ⟨hb,h⟩ hg)))]
  rw [hsn2]
  by_cases hb:bdV s ta=true
  ·rw [zlw hb] at hv
   refine zbu Try.func10 (by rfl) (by rfl) (by rw [Try.ntmps10];exact Nat.le_of_ble_eq_true rfl) rfl (by simp) rfl rfl ?_
   rw [Try.ntmps10]
   refine zf1   ?_
   refine AW_k [(0,_),(1,_)] ⟨rfl,rfl,trivial⟩ ?_
   refine AW_x rfl rfl λK hK=>?_
   simp (disch:=omega) [zG19,cI,cS,DtCSnap.cells,-aAppZ]
   repeat' first|(refine ⟨by omega,?_⟩)|(intro _)
   refine hK _ ?_;clear hK K
   refine AW_x rfl rfl λK hK=>?_
   simp (disch:=omega) [zG19,cI,cS,DtCSnap.cells,-aAppZ]
   repeat' first|(exfalso;omega)|(refine zb6 [] false [] (ht) ?_ ?_ ?_;(focus (simp [List.range_succ,nmC];done));(focus (simp (disch:=omega) [zG19,cI,cS,DtCSnap.cells,-aAppZ];done));simp (disch:=omega) [zG19,cI,cS,DtCSnap.cells,-aAppZ])|(refine ⟨by omega,?_⟩)|(simp (disch:=omega) [zG19,cI,cS,DtCSnap.cells,-aAppZ])|(intro _)
   refine hK _ ?_;clear hK K
   refine AW_x rfl rfl λK hK=>?_
   simp (disch:=omega) [zG19,cI,cS,DtCSnap.cells,-aAppZ]
   repeat' first|(exfalso;omega)|(refine zb6 [] false [] (hv) ?_ ?_ ?_;(focus (simp [List.range_succ,nmC];done));(focus (simp (disch:=omega) [zG19,cI,cS,DtCSnap.cells,-aAppZ];done));simp (disch:=omega) [zG19,cI,cS,DtCSnap.cells,-aAppZ])|(refine ⟨by omega,?_⟩)|(simp (disch:=omega) [zG19,cI,cS,DtCSnap.cells,-aAppZ])|(intro _)
   refine hK _ ?_;clear hK K
   refine zbf ?_
   refine AW_x rfl rfl λK hK=>?_
   simp (disch:=omega) [zG19,cI,cS,DtCSnap.cells,-aAppZ]
   repeat' first|(exfalso;omega)|(refine ⟨λ_=>?_,λ_=>?_⟩)|(refine ⟨by omega,?_⟩)|(simp (disch:=omega) [zG19,cI,cS,DtCSnap.cells,-aAppZ])|(intro _)
   all_goals (refine hK _ ?_;clear hK K)
   all_goals
    refine zbi rfl (λhc4=>?_) (λhc4=>?_)
    ·try simp [zbk,zbh,zbb,zba] at hc4
     all_goals
      refine AW_x rfl rfl λK hK=>?_
      simp (disch:=omega) [zG19,cI,cS,DtCSnap.cells,-aAppZ]
      repeat' first|(exfalso;omega)|(refine ⟨λ_=>?_,λ_=>?_⟩)|(refine ⟨by omega,?_⟩)|(simp (disch:=omega) [zG19,cI,cS,DtCSnap.cells,-aAppZ])|(intro _)
      all_goals (refine hK _ ?_;clear hK K)
      all_goals
       refine zbl (zcd [1000] [(1000,3)] (by simp [zG20,List.range_succ]) (by simp) ?_)
       simp (disch:=omega) [zG19,cI,cS,DtCSnap.cells,-aAppZ]
       all_goals first | exact ⟨rfl,rfl,rfl⟩ | rfl | omega | trace_state
    ·try simp [zbk,zbh,zbb,zba] at hc4
     all_goals
      refine zbj ?_
      refine zbo ?_
      refine AW_x rfl rfl λK hK=>?_
      simp (disch:=omega) [zG19,cI,cS,DtCSnap.cells,-aAppZ]
      repeat' first|(exfalso;omega)|(refine ⟨λ_=>?_,λ_=>?_⟩)|(refine ⟨by omega,?_⟩)|(simp (disch:=omega) [zG19,cI,cS,DtCSnap.cells,-aAppZ])|(intro _)
      all_goals (refine hK _ ?_;clear hK K)
      all_goals
       refine zbf ?_
       refine AW_x rfl rfl λK hK=>?_
       simp (disch:=omega) [zG19,cI,cS,DtCSnap.cells,-aAppZ]
       repeat' first|(refine ⟨by omega,?_⟩)|(intro _)
       refine hK _ ?_;clear hK K
       refine zbm ?_
       done
  ·rw [zfu hb] at hv
   have hbt:=zfv hb
   have h4:5<v1 s ta:=by by_cases h:5<v1 s ta;exact h;exact absurd ⟨hb,h⟩ hg
   have h2:=htb (by omega)
   generalize v1 s ta=v at *
   generalize e1 s ta=e at *
   refine zbu Try.func10 (by rfl) (by rfl) (by rw [Try.ntmps10];exact Nat.le_of_ble_eq_true rfl) rfl (by simp) rfl rfl ?_
   rw [Try.ntmps10]
   refine zf1   ?_
   refine AW_k [(0,_),(1,_)] ⟨rfl,rfl,trivial⟩ ?_
   refine AW_x rfl rfl λK hK=>?_
   simp (disch:=omega) [zG19,cI,cS,DtCSnap.cells,-aAppZ]
   repeat' first|(refine ⟨by omega,?_⟩)|(intro _)
   refine hK _ ?_;clear hK K
   refine AW_x rfl rfl λK hK=>?_
   simp (disch:=omega) [zG19,cI,cS,DtCSnap.cells,-aAppZ]
   repeat' first|(exfalso;omega)|(refine zb6 [] false [] (ht) ?_ ?_ ?_;(focus (simp [List.range_succ,nmC];done));(focus (simp (disch:=omega) [zG19,cI,cS,DtCSnap.cells,-aAppZ];done));simp (disch:=omega) [zG19,cI,cS,DtCSnap.cells,-aAppZ])|(refine ⟨by omega,?_⟩)|(simp (disch:=omega) [zG19,cI,cS,DtCSnap.cells,-aAppZ])|(intro _)
   refine hK _ ?_;clear hK K
   refine AW_x rfl rfl λK hK=>?_
   simp (disch:=omega) [zG19,cI,cS,DtCSnap.cells,-aAppZ]
   repeat' first|(exfalso;omega)|(refine zb6 [] false [] (hv) ?_ ?_ ?_;(focus (simp [List.range_succ,nmC];done));(focus (simp (disch:=omega) [zG19,cI,cS,DtCSnap.cells,-aAppZ];done));simp (disch:=omega) [zG19,cI,cS,DtCSnap.cells,-aAppZ])|(refine ⟨by omega,?_⟩)|(simp (disch:=omega) [zG19,cI,cS,DtCSnap.cells,-aAppZ])|(intro _)
   refine hK _ ?_;clear hK K
   refine zbf ?_
   refine AW_x rfl rfl λK hK=>?_
   simp (disch:=omega) [zG19,cI,cS,DtCSnap.cells,-aAppZ]
   repeat' first|(exfalso;omega)|(refine ⟨λ_=>?_,λ_=>?_⟩)|(refine ⟨by omega,?_⟩)|(simp (disch:=omega) [zG19,cI,cS,DtCSnap.cells,-aAppZ])|(intro _)
   all_goals (refine hK _ ?_;clear hK K)
   all_goals
    refine zbi rfl (λhc5=>?_) (λhc5=>?_)
    ·try simp [zbk,zbh,zbb,zba] at hc5
     all_goals
      refine AW_x rfl rfl λK hK=>?_
      simp (disch:=omega) [zG19,cI,cS,DtCSnap.cells,-aAppZ]
      repeat' first|(exfalso;omega)|(refine ⟨λ_=>?_,λ_=>?_⟩)|(refine ⟨by omega,?_⟩)|(simp (disch:=omega) [zG19,cI,cS,DtCSnap.cells,-aAppZ])|(intro _)
      all_goals (refine hK _ ?_;clear hK K)
      all_goals
       refine zbl (zcd [1000] [(1000,3)] (by simp [zG20,List.range_succ]) (by simp) ?_)
       simp (disch:=omega) [zG19,cI,cS,DtCSnap.cells,-aAppZ]
       all_goals first | exact ⟨rfl,rfl,rfl⟩ | rfl | omega | trace_state
    ·try simp [zbk,zbh,zbb,zba] at hc5
     all_goals
      refine zbj ?_
      refine zbo ?_
      refine AW_x rfl rfl λK hK=>?_
      simp (disch:=omega) [zG19,cI,cS,DtCSnap.cells,-aAppZ]
      repeat' first|(exfalso;omega)|(refine ⟨λ_=>?_,λ_=>?_⟩)|(refine ⟨by omega,?_⟩)|(simp (disch:=omega) [zG19,cI,cS,DtCSnap.cells,-aAppZ])|(intro _)
      all_goals (refine hK _ ?_;clear hK K)
      all_goals
       refine zbf ?_
       refine AW_x rfl rfl λK hK=>?_
       simp (disch:=omega) [zG19,cI,cS,DtCSnap.cells,-aAppZ]
       repeat' first|(refine ⟨by omega,?_⟩)|(intro _)
       refine hK _ ?_;clear hK K
       refine zbm ?_
       done
end Go.Proofs.Ytchpfloemfoomaa.Vs
end
section
namespace Go.Proofs.Ytchpfloemfoomaa.Vs
set_option linter.all false
set_option maxRecDepth 100000
theorem zx7(s:List UInt8):∀(n:Nat) (x:List Int × Int),x.2≤s.length→(varL s n x).2≤s.length∧(0≤(varL s n x).2→(varL s n x).1.length=x.1.length+n)
 | 0,x,h=>⟨h,λ_=>rfl⟩
 | n+1,x,h=>by
  rw [varL]
  split
  ·exact ⟨by simp only;omega,λh=>by simp only at h;omega⟩
  ·rename_i hb
   have hb:=zfv hb
   obtain ⟨h1,h2⟩:=zx7 s n (x.1++[(RV (s.drop x.2.toNat)).1],x.2+(RV (s.drop x.2.toNat)).2) hb.2.2.2.2.2
   refine ⟨h1,λh=>?_⟩
   rw [h2 h]
   simp;omega
noncomputable def setsS(s:List UInt8):Nat→List DtCSet × Int→List DtCSet × Int
 | 0,x=>x
 | n+1,x=>if (setS s x.2).2<0 then (x.1,-1) else setsS s n (x.1++[(setS s x.2).1],(setS s x.2).2)
theorem zsb{s:List UInt8}{n i:Nat}{l:List DtCSet}{a:Int}{z:List DtCSet × Int}(h:setsS s (n-i) (l,a)=z)(hi:i<n)(hb:(setS s a).2<0):z=(l,-1):=by
 obtain ⟨q,hq⟩:∃q,n-i=q+1:=⟨n-i-1,by omega⟩
 rw [←h,hq,setsS,if_pos hb]
theorem zsc{s:List UInt8}{n i:Nat}{l:List DtCSet}{a:Int}{z:List DtCSet × Int}(h:setsS s (n-i) (l,a)=z)(hi:i<n)(hb:0≤(setS s a).2):setsS s (n-(i+1)) (l++[(setS s a).1],(setS s a).2)=z:=by
 have hq:n-i=(n-(i+1))+1:=by omega
 rw [←h,hq,setsS,if_neg (show ¬(setS s (l,a).2).2<0 by simp only;omega)]
noncomputable def saidS(s:List UInt8)(a:Int):DtSaid × Int :=
 (⟨(varL s 2 ([],a)).1.getD 0 0,(varL s 2 ([],a)).1.getD 1 0,(takeS s (varL s 2 ([],a)).2).1⟩,(takeS s (varL s 2 ([],a)).2).2)
theorem ztc(s:List UInt8)(a:Int):(saidS s a).2≤s.length:=(zta s _).2.1
noncomputable def saidsS(s:List UInt8):Nat→List DtSaid × Int→List DtSaid × Int
 | 0,x=>x
 | n+1,x=>if (saidS s x.2).2<0 then (x.1,-1) else saidsS s n (x.1++[(saidS s x.2).1],(saidS s x.2).2)
theorem saidsS_f{s:List UInt8}{n i:Nat}{l:List DtSaid}{a:Int}{z:List DtSaid × Int}(h:saidsS s (n-i) (l,a)=z)(hi:i<n)(hb:(saidS s a).2<0):z=(l,-1):=by
 obtain ⟨q,hq⟩:∃q,n-i=q+1:=⟨n-i-1,by omega⟩
 rw [←h,hq,saidsS,if_pos hb]
theorem saidsS_t{s:List UInt8}{n i:Nat}{l:List DtSaid}{a:Int}{z:List DtSaid × Int}(h:saidsS s (n-i) (l,a)=z)(hi:i<n)(hb:0≤(saidS s a).2):saidsS s (n-(i+1)) (l++[(saidS s a).1],(saidS s a).2)=z:=by
 have hq:n-i=(n-(i+1))+1:=by omega
 rw [←h,hq,saidsS,if_neg (show ¬(saidS s (l,a).2).2<0 by simp only;omega)]
noncomputable def aS(s:List UInt8):List DtCSet × Int:=setsS s (v1 s 0).toNat ([],e1 s 0)
noncomputable def bS(s:List UInt8):List DtSaid × Int:=saidsS s (v1 s (aS s).2).toNat ([],e1 s (aS s).2)
def fS(s:List UInt8):Prop:=bdV s 0=true∨5<v1 s 0∨(aS s).2<0∨bdV s (aS s).2=true∨9<v1 s (aS s).2∨(bS s).2<0∨¬showState ⟨⟨(aS s).1⟩,(bS s).1⟩=s
open Classical in
noncomputable def RSS(s:List UInt8):DtState × Bool:=if fS s then (⟨⟨[]⟩,[]⟩,false) else (⟨⟨(aS s).1⟩,(bS s).1⟩,true)
theorem znz{s:List UInt8}(h:fS s):RSS s=(⟨⟨[]⟩,[]⟩,false):=by
 unfold RSS;rw [if_pos h]
theorem rss_t{s:List UInt8}(h:¬fS s):RSS s=(⟨⟨(aS s).1⟩,(bS s).1⟩,true):=by
 unfold RSS;rw [if_neg h]
/-! what is read takes its room -/
theorem zn0{s:List UInt8}{a:Int}(h:0≤(takeS s a).2):0≤a∧(takeS s a).1.length+a+1≤(takeS s a).2:=by
 unfold takeS at h ⊢
 split at h
 ·simp only at h;omega
 ·rename_i hn
  have hb:=zfv λhh=>hn (.inl hh)
  rw [if_neg hn]
  simp only [List.length_take,List.length_drop]
  have h2:¬((s.length:Int)-e1 s a<v1 s a):=λhh=>hn (.inr hh)
  omega
theorem zkm{s:List UInt8}:∀(n:Nat) (x:List (List UInt8) × Int),0≤(readS s n x).2→0≤x.2∧szS lenZ (readS s n x).1+x.2≤szS lenZ x.1+(readS s n x).2
 | 0,x,h=>⟨h,Int.le_refl _⟩
 | n+1,x,h=>by
  rw [readS] at h ⊢
  split at h
  ·simp only at h;omega
  ·rename_i hn
   rw [if_neg hn]
   obtain ⟨h1,h2⟩:=zkm n _ h
   obtain ⟨h3,h4⟩:=zn0 h1
   rw [zfn] at h2
   dsimp only at h2 h1
   simp only [lenZ] at h2
   exact ⟨h3,by omega⟩
theorem snapS_ok{s:List UInt8}{a:Int}(h:0≤(snapS s a).2):0≤a∧DtCSnap.sz (snapS s a).1+1+a≤(snapS s a).2:=by
 unfold snapS at h ⊢
 split at h
 ·simp only at h;omega
 ·rename_i hn
  rw [if_neg hn]
  have hb:=zfv λhh=>hn (.inl hh)
  dsimp only at h ⊢
  obtain ⟨h1,h2⟩:=zkm _ _ h
  obtain ⟨h3,h4⟩:=zkm (s:=s) 2 (([]:List (List UInt8)),a) (by omega)
  dsimp only at h1 h2 h3 h4
  have e0:szS lenZ ([]:List (List UInt8))=0:=by simp [szS,zcs]
  rw [e0] at h2 h4
  refine ⟨h3,?_⟩
  have h5:(((readS s 2 ([],a)).1.getD 0 []).length:Int)+(((readS s 2 ([],a)).1.getD 1 []).length:Int)≤szS lenZ (readS s 2 ([],a)).1:=by
   generalize (readS s 2 ([],a)).1=l
   match l with
   | []=>simp [szS,zcs]
   | [x]=>simp [szS,zcs,zdi,lenZ];omega
   | x :: y :: l =>
    have:=zcf zc1 l
    simp only [szS,zdi,lenZ,List.getD_cons_zero,List.getD_cons_succ,List.length_cons] at this ⊢
    omega
  simp only [DtCSnap.sz]
  omega
theorem zx8{s:List UInt8}:∀(n:Nat) (x:List DtCSnap × Int),0≤(snsS s n x).2→0≤x.2∧szS DtCSnap.sz (snsS s n x).1+x.2≤szS DtCSnap.sz x.1+(snsS s n x).2
 | 0,x,h=>⟨h,Int.le_refl _⟩
 | n+1,x,h=>by
  rw [snsS] at h ⊢
  split at h
  ·simp only at h;omega
  ·rename_i hn
   rw [if_neg hn]
   obtain ⟨h1,h2⟩:=zx8 n _ h
   obtain ⟨h3,h4⟩:=snapS_ok h1
   rw [zfn] at h2
   dsimp only at h2 h1
   exact ⟨h3,by omega⟩
theorem setS_ok{s:List UInt8}{a:Int}(h:0≤(setS s a).2):0≤a∧DtCSet.sz (setS s a).1+1+a≤(setS s a).2:=by
 unfold setS at h ⊢
 split at h
 ·simp only at h;omega
 ·rename_i hn
  rw [if_neg hn]
  have hb:=zfv λhh=>hn (.inl hh)
  dsimp only at h ⊢
  obtain ⟨h1,h2⟩:=zx8 _ _ h
  obtain ⟨h3,h4⟩:=zkm (s:=s) 1 (([]:List (List UInt8)),a) (by omega)
  dsimp only at h1 h2 h3 h4
  have e0:szS lenZ ([]:List (List UInt8))=0:=by simp [szS,zcs]
  have e1:szS DtCSnap.sz []=0:=by simp [szS,zcs]
  rw [e1] at h2
  rw [e0] at h4
  refine ⟨h3,?_⟩
  have h5:(((readS s 1 ([],a)).1.getD 0 []).length:Int)≤szS lenZ (readS s 1 ([],a)).1:=by
   generalize (readS s 1 ([],a)).1=l
   match l with
   | []=>simp [szS,zcs]
   | x :: l =>
    have:=zcf zc1 l
    simp only [szS,zdi,lenZ,List.getD_cons_zero,List.length_cons] at this ⊢
    omega
  simp only [DtCSet.sz]
  omega
theorem ztd{s:List UInt8}:∀(n:Nat) (x:List DtCSet × Int),0≤(setsS s n x).2→0≤x.2∧szS DtCSet.sz (setsS s n x).1+x.2≤szS DtCSet.sz x.1+(setsS s n x).2
 | 0,x,h=>⟨h,Int.le_refl _⟩
 | n+1,x,h=>by
  rw [setsS] at h ⊢
  split at h
  ·simp only at h;omega
  ·rename_i hn
   rw [if_neg hn]
   obtain ⟨h1,h2⟩:=ztd n _ h
   obtain ⟨h3,h4⟩:=setS_ok h1
   rw [zfn] at h2
   dsimp only at h2 h1
   exact ⟨h3,by omega⟩
theorem zx9{s:List UInt8}:∀(n:Nat) (x:List Int × Int),0≤(varL s n x).2→0≤x.2∧x.2≤(varL s n x).2
 | 0,x,h=>⟨h,Int.le_refl _⟩
 | n+1,x,h=>by
  rw [varL] at h ⊢
  split at h
  ·simp only at h;omega
  ·rename_i hn
   rw [if_neg hn]
   have hb:=zfv hn
   obtain ⟨h1,h2⟩:=zx9 n _ h
   dsimp only at h2 h1
   unfold e1 at hb
   exact ⟨hb.1,by omega⟩
theorem saidS_ok{s:List UInt8}{a:Int}(h:0≤(saidS s a).2):0≤a∧DtSaid.sz (saidS s a).1+1+a≤(saidS s a).2:=by
 obtain ⟨h1,h2⟩:=zn0 (show 0≤(takeS s (varL s 2 ([],a)).2).2 from h)
 obtain ⟨h3,h4⟩:=zx9 (s:=s) 2 (([]:List Int),a) h1
 dsimp only at h3 h4
 refine ⟨h3,?_⟩
 simp only [saidS,DtSaid.sz]
 omega
theorem zqj{s:List UInt8}:∀(n:Nat) (x:List DtSaid × Int),0≤(saidsS s n x).2→0≤x.2∧szS DtSaid.sz (saidsS s n x).1+x.2≤szS DtSaid.sz x.1+(saidsS s n x).2
 | 0,x,h=>⟨h,Int.le_refl _⟩
 | n+1,x,h=>by
  rw [saidsS] at h ⊢
  split at h
  ·simp only at h;omega
  ·rename_i hn
   rw [if_neg hn]
   obtain ⟨h1,h2⟩:=zqj n _ h
   obtain ⟨h3,h4⟩:=saidS_ok h1
   rw [zfn] at h2
   dsimp only at h2 h1
   exact ⟨h3,by omega⟩
theorem zqk(s:List UInt8):∀(n:Nat) (x:List DtSaid × Int),x.2≤s.length→(saidsS s n x).2≤s.length
 | 0,x,h=>h
 | n+1,x,h=>by
  rw [saidsS]
  split
  ·simp only;omega
  ·exact zqk s n _ (ztc s x.2)
theorem rdS_sz{s:List UInt8}(h0:¬bdV s 0=true)(h1:¬bdV s (aS s).2=true)(h2:0≤(bS s).2):DtState.sz ⟨⟨(aS s).1⟩,(bS s).1⟩≤s.length:=by
 have hb0:=zfv h0
 have hb1:=zfv h1
 obtain ⟨g1,g2⟩:=zqj (s:=s) (v1 s (aS s).2).toNat (([]:List DtSaid),e1 s (aS s).2) h2
 obtain ⟨g3,g4⟩:=ztd (s:=s) (v1 s 0).toNat (([]:List DtCSet),e1 s 0) hb1.1
 have g5:=zqk s (v1 s (aS s).2).toNat (([]:List DtSaid),e1 s (aS s).2) hb1.2.2.2.2.2
 have e0:szS DtSaid.sz []=0:=by simp [szS,zcs]
 have e1':szS DtCSet.sz []=0:=by simp [szS,zcs]
 dsimp only at g2 g4 g5
 rw [e0] at g2
 rw [e1'] at g4
 show szS DtCSet.sz (aS s).1+szS DtSaid.sz (bS s).1≤_
 have ea:setsS s (v1 s 0).toNat ([],e1 s 0)=aS s:=rfl
 have eb:saidsS s (v1 s (aS s).2).toNat ([],e1 s (aS s).2)=bS s:=rfl
 rw [ea] at g4
 rw [eb] at g2 g5
 omega
end Go.Proofs.Ytchpfloemfoomaa.Vs
end
section
namespace Go.Proofs.Ytchpfloemfoomaa.Vs
set_option linter.all false
set_option maxRecDepth 100000
set_option maxHeartbeats 2000000
def zG21:=And.intro @zce (And.intro @gE (And.intro @tP (And.intro @zh0 (And.intro @and_assoc (And.intro @List.range_succ (And.intro @zbz (And.intro @zbk (And.intro @zbh (And.intro @zbd @zbs)))))))))
theorem zql(s:List UInt8)(hs:s.length≤1048576)(hb:¬bdV s 0=true)(h5:¬5<v1 s 0)(hc:¬bdV s (aS s).2=true)(h9:¬9<v1 s (aS s).2):XCall Try.prog 4 [.s s] [] (.tup [.agg [.arr 16 0 (RSS s).1.fCat.fSets.length,.arr 17 0 (RSS s).1.fSaid.length],(.g (.bool ((RSS s).2)))]) [] [.own 2 ((RSS s).1.fCat.fSets.map DtCSet.cells),.own 3 ((RSS s).1.fSaid.map DtSaid.cells)]:=by
 have hv:=zgg s 0 1 hs (by omega)
 rw [zfu hb] at hv
 have hbt:=zfv hb
 obtain ⟨Al,Ab,hAs⟩:∃Al Ab,aS s=(Al,Ab):=⟨_,_,rfl⟩
 rw [hAs] at hc h9
 dsimp only at hc h9
 have hw:=zgg s Ab 1 hs (by omega)
 rw [zfu hc] at hw
 have hct:=zfv hc
 have hA:=hAs
 unfold aS at hA
 have hB:bS s=bS s:=rfl
 conv at hB=>lhs;unfold bS
 rw [hAs] at hB
 dsimp only at hB
 obtain ⟨K,hK⟩:∃K:Nat,v1 s 0=K:=Int.eq_ofNat_of_zero_le (by omega)
 obtain ⟨K2,hK2⟩:∃K:Nat,v1 s Ab=K:=Int.eq_ofNat_of_zero_le (by omega)
 rw [hK,Int.toNat_natCast] at hA
 rw [hK] at hv hbt
 rw [hK2,Int.toNat_natCast] at hB
 rw [hK2] at hw hct
 have h5':¬5<(K:Int):=by rw [←hK];exact h5
 have h9':¬9<(K2:Int):=by rw [←hK2];exact h9
 generalize he:e1 s 0=e at *
 generalize he2:e1 s Ab=e2 at *
 refine zbu Try.func4 (by rfl) (by rfl) (by rw [Try.ntmps4];exact Nat.le_of_ble_eq_true rfl) rfl (by simp) rfl rfl ?_
 rw [Try.ntmps4]
 refine zf1   ?_
 refine AW_k [(0,_)] ⟨rfl,trivial⟩ ?_
 refine AW_x rfl rfl λK hK=>?_
 simp (disch:=omega) [zG21,cI,cS,DtState.cells,DtCatalog.cells,DtCSet.cells,DtSaid.cells,-aAppZ]
 repeat' first|(refine ⟨by omega,?_⟩)|(intro _)
 refine hK _ ?_;clear hK K
 refine AW_x rfl rfl λK hK=>?_
 simp (disch:=omega) [zG21,cI,cS,DtState.cells,DtCatalog.cells,DtCSet.cells,DtSaid.cells,-aAppZ]
 repeat' first|(refine ⟨by omega,?_⟩)|(simp (disch:=omega) [zG21,cI,cS,DtState.cells,DtCatalog.cells,DtCSet.cells,DtSaid.cells,-aAppZ])|(intro _)
 refine hK _ ?_;clear hK K
 refine AW_x rfl rfl λK hK=>?_
 simp (disch:=omega) [zG21,cI,cS,DtState.cells,DtCatalog.cells,DtCSet.cells,DtSaid.cells,-aAppZ]
 repeat' first|(exfalso;omega)|(refine zb6 [] false [] (hv) ?_ ?_ ?_;(focus (simp [List.range_succ,nmC];done));(focus (simp (disch:=omega) [zG21,cI,cS,DtState.cells,DtCatalog.cells,DtCSet.cells,DtSaid.cells,-aAppZ];done));simp (disch:=omega) [zG21,cI,cS,DtState.cells,DtCatalog.cells,DtCSet.cells,DtSaid.cells,-aAppZ])|(refine zb6 [] false [] (hw) ?_ ?_ ?_;(focus (simp [List.range_succ,nmC];done));(focus (simp (disch:=omega) [zG21,cI,cS,DtState.cells,DtCatalog.cells,DtCSet.cells,DtSaid.cells,-aAppZ];done));simp (disch:=omega) [zG21,cI,cS,DtState.cells,DtCatalog.cells,DtCSet.cells,DtSaid.cells,-aAppZ])|(refine zb6 [] false [] (hv2) ?_ ?_ ?_;(focus (simp [List.range_succ,nmC];done));(focus (simp (disch:=omega) [zG21,cI,cS,DtState.cells,DtCatalog.cells,DtCSet.cells,DtSaid.cells,-aAppZ];done));simp (disch:=omega) [zG21,cI,cS,DtState.cells,DtCatalog.cells,DtCSet.cells,DtSaid.cells,-aAppZ])|(refine ⟨by omega,?_⟩)|(simp (disch:=omega) [zG21,cI,cS,DtState.cells,DtCatalog.cells,DtCSet.cells,DtSaid.cells,-aAppZ])|(intro _)
 refine hK _ ?_;clear hK K
 refine zbf ?_
 refine AW_x rfl rfl λK hK=>?_
 simp (disch:=omega) [zG21,cI,cS,DtState.cells,DtCatalog.cells,DtCSet.cells,DtSaid.cells,-aAppZ]
 repeat' first|(exfalso;omega)|(refine ⟨λ_=>?_,λ_=>?_⟩)|(refine ⟨by omega,?_⟩)|(simp (disch:=omega) [zG21,cI,cS,DtState.cells,DtCatalog.cells,DtCSet.cells,DtSaid.cells,-aAppZ])|(intro _)
 all_goals (refine hK _ ?_;clear hK K)
 all_goals
  refine zbi rfl (λhc1=>?_) (λhc1=>?_)
  ·try simp [zbk,zbh,zbb,zba] at hc1
   all_goals
    refine AW_x rfl rfl λK hK=>?_
    simp (disch:=omega) [zG21,cI,cS,DtState.cells,DtCatalog.cells,DtCSet.cells,DtSaid.cells,-aAppZ]
    repeat' first|(exfalso;omega)|(refine ⟨λ_=>?_,λ_=>?_⟩)|(refine ⟨by omega,?_⟩)|(simp (disch:=omega) [zG21,cI,cS,DtState.cells,DtCatalog.cells,DtCSet.cells,DtSaid.cells,-aAppZ])|(intro _)
    all_goals (refine hK _ ?_;clear hK K)
    all_goals
     refine zbl (zcd [1000,1001] [(1000,2),(1001,3)] (by simp [zG20,List.range_succ]) (by simp) ?_)
     simp (disch:=omega) [zG21,cI,cS,DtState.cells,DtCatalog.cells,DtCSet.cells,DtSaid.cells,-aAppZ]
     all_goals first | exact ⟨rfl,rfl,rfl⟩ | rfl | omega | trace_state
  ·try simp [zbk,zbh,zbb,zba] at hc1
   all_goals
    refine zbj ?_
    refine zbo ?_
    refine zbf ?_
    refine AW_x rfl rfl λK hK=>?_
    simp (disch:=omega) [zG21,cI,cS,DtState.cells,DtCatalog.cells,DtCSet.cells,DtSaid.cells,-aAppZ]
    repeat' first|(exfalso;omega)|(refine ⟨λ_=>?_,λ_=>?_⟩)|(refine ⟨by omega,?_⟩)|(simp (disch:=omega) [zG21,cI,cS,DtState.cells,DtCatalog.cells,DtCSet.cells,DtSaid.cells,-aAppZ])|(intro _)
    all_goals (refine hK _ ?_;clear hK K)
    all_goals
     refine zbm ?_
     refine zbw (λmM sS=>∃(i:Nat) (l:List DtCSet) (b:Int),mM=K-i∧(i≤K∧l.length=i∧setsS s (K-i) (l,b)=(Al,Ab)∧b≤s.length∧0≤b)∧sS = { env:=lkE [(0,.s s),(2,.ptr 48 0),(4,.ptr 80 0),(5,.arr 304 0 1),(6,(.g (.int .i64 (b)))),(7,(.g (.int .i64 ((i:Nat)))))],ob:=lk [(48,.cells [.g (.slice none 0 0),.g (.slice none 0 0)]),(80,.cells [.arr 500 0 l.length,.g (.slice none 0 0)]),(304,.own 1 [[(.g (.int .i64 ((K:Nat))))]]),(500,.own 2 (l.map DtCSet.cells))] }) ?_ ?_
     ·refine ⟨_,LeS.trans (LeS.znc (cs:=[.g (.slice none 0 0),.g (.slice none 0 0)]) 500 2 80 0 (by simp [zG20,zby]) (by simp [zG20,zby,DtCSet.cells]) (by rfl)) (LeS.kx [(48,48),(80,80),(304,304),(500,500)] [(0,.s s),(2,.ptr 48 0),(4,.ptr 80 0),(5,.arr 304 0 1),(6,(.g (.int .i64 ((e))))),(7,(.g (.int .i64 (((0):Nat)))))] [(48,.cells [.g (.slice none 0 0),.g (.slice none 0 0)]),(80,.cells [.arr 500 0 ([]).length,.g (.slice none 0 0)]),(304,.own 1 [[(.g (.int .i64 ((K:Nat))))]]),(500,.own 2 (([]).map DtCSet.cells))] (by simp [zG20,KpR,renV2,renV,zby,DtCSet.cells];try (first | with_reducible rfl | omega|(simp;done))) (by simp [zG20,KpOX,renO,plO,cvO,renV,pl1,DtCSet.cells];try (first | with_reducible rfl|(simp [DtCSet.cells];done) | trace_state)) (by rfl) (by simp) (by simp) (by rfl) (by simp [formsX,List.range_succ,zbt,zb0])),_,0,[],e,rfl,?_,rfl⟩
      ·exact ⟨by omega,rfl,hA,by omega,by omega⟩
     ·rintro mM sS ⟨i,l,b,rfl,⟨hin,hli,htx,hbl,hb0⟩,rfl⟩
      refine zbf ?_
      refine AW_x rfl rfl λK hK=>?_
      simp (disch:=omega) [zG21,cI,cS,DtState.cells,DtCatalog.cells,DtCSet.cells,DtSaid.cells,-aAppZ]
      repeat' first|(refine ⟨by omega,?_⟩)|(intro _)
      refine hK _ ?_;clear hK K
      refine zbi rfl (λhc2=>?_) (λhc2=>?_)
      ·try simp [zbk,zbh,zbb,zba] at hc2
       all_goals
        refine zbj ?_
        refine zbo ?_
        refine zbf ?_
        refine zbm ?_
        refine AW_x rfl rfl λK hK=>?_
        simp (disch:=omega) [zG21,cI,cS,DtState.cells,DtCatalog.cells,DtCSet.cells,DtSaid.cells,-aAppZ]
        repeat' first|(exfalso;omega)|(refine zb6 [] false [] (zx6 s b hs hbl) ?_ ?_ ?_;(focus (simp [List.range_succ,nmC];done));(focus (simp (disch:=omega) [zG21,cI,cS,DtState.cells,DtCatalog.cells,DtCSet.cells,DtSaid.cells,-aAppZ];done));simp (disch:=omega) [zG21,cI,cS,DtState.cells,DtCatalog.cells,DtCSet.cells,DtSaid.cells,-aAppZ])|(refine ⟨λ_=>?_,λ_=>?_⟩)|(refine ⟨by omega,?_⟩)|(simp (disch:=omega) [zG21,cI,cS,DtState.cells,DtCatalog.cells,DtCSet.cells,DtSaid.cells,-aAppZ])|(intro _)
        all_goals (refine hK _ ?_;clear hK K)
        all_goals
         refine zbf ?_
         refine AW_x rfl rfl λK hK=>?_
         simp (disch:=omega) [zG21,cI,cS,DtState.cells,DtCatalog.cells,DtCSet.cells,DtSaid.cells,-aAppZ]
         repeat' first|(refine ⟨by omega,?_⟩)|(intro _)
         refine hK _ ?_;clear hK K
         refine zbi rfl (λhc3=>?_) (λhc3=>?_)
         ·try simp [zbk,zbh,zbb,zba] at hc3
          all_goals
           have hz:=zsb htx (by omega) (by assumption)
           have hfx:RSS s=(⟨⟨[]⟩,[]⟩,false):=znz (.inr (.inr (.inl (by rw [hAs,hz];show (-1:Int)<0;decide))))
           rw [hfx]
           refine AW_x rfl rfl λK hK=>?_
           simp (disch:=omega) [zG21,cI,cS,DtState.cells,DtCatalog.cells,DtCSet.cells,DtSaid.cells,-aAppZ]
           repeat' first|(exfalso;omega)|(refine ⟨λ_=>?_,λ_=>?_⟩)|(refine ⟨by omega,?_⟩)|(simp (disch:=omega) [zG21,cI,cS,DtState.cells,DtCatalog.cells,DtCSet.cells,DtSaid.cells,-aAppZ])|(intro _)
           all_goals (refine hK _ ?_;clear hK K)
           all_goals
            refine zbl (zcd [1000,1001] [(1000,2),(1001,3)] (by simp [zG20,List.range_succ]) (by simp) ?_)
            simp (disch:=omega) [zG21,cI,cS,DtState.cells,DtCatalog.cells,DtCSet.cells,DtSaid.cells,-aAppZ]
            all_goals first | exact ⟨rfl,rfl,rfl⟩ | rfl | omega | trace_state
         ·try simp [zbk,zbh,zbb,zba] at hc3
          all_goals
           refine zbj ?_
           refine zbo ?_
           refine AW_x rfl rfl λK hK=>?_
           simp (disch:=omega) [zG21,cI,cS,DtState.cells,DtCatalog.cells,DtCSet.cells,DtSaid.cells,-aAppZ]
           repeat' first|(exfalso;omega)|(refine ⟨λ_=>?_,λ_=>?_⟩)|(refine ⟨by omega,?_⟩)|(simp (disch:=omega) [zG21,cI,cS,DtState.cells,DtCatalog.cells,DtCSet.cells,DtSaid.cells,-aAppZ])|(intro _)
           all_goals (refine hK _ ?_;clear hK K)
           all_goals
            refine zdc rfl rfl λK hK=>?_
            simp (disch:=omega) [zG21,cI,cS,DtState.cells,DtCatalog.cells,DtCSet.cells,DtSaid.cells,-aAppZ]
            repeat' first|(refine ⟨by omega,?_⟩)|(intro _)
            refine hK _ ?_;clear hK K
            refine zbo ?_
            refine zdc rfl rfl λK hK=>?_
            simp (disch:=omega) [zG21,cI,cS,DtState.cells,DtCatalog.cells,DtCSet.cells,DtSaid.cells,-aAppZ]
            repeat' first|(refine ⟨by omega,?_⟩)|(intro _)
            refine hK _ ?_;clear hK K
            refine ⟨_,LeS.kx [(48,48),(80,80),(304,304),(500,832)] [(0,.s s),(2,.ptr 48 0),(4,.ptr 80 0),(5,.arr 304 0 1),(6,(.g (.int .i64 (((setS s b).2))))),(7,(.g (.int .i64 (((i+1):Nat)))))] [(48,.cells [.g (.slice none 0 0),.g (.slice none 0 0)]),(80,.cells [.arr 500 0 (l++[(setS s b).1]).length,.g (.slice none 0 0)]),(304,.own 1 [[(.g (.int .i64 ((K:Nat))))]]),(500,.own 2 ((l++[(setS s b).1]).map DtCSet.cells))] (by simp [zG20,KpR,renV2,renV,zby,DtCSet.cells];try (first | with_reducible rfl | omega|(simp;done))) (by simp [zG20,KpOX,renO,plO,cvO,renV,pl1,DtCSet.cells];try (first | with_reducible rfl|(simp [DtCSet.cells];done) | trace_state)) (by rfl) (by simp) (by simp) (by rfl) (by simp [formsX,List.range_succ,zbt,zb0]),_,?_,i+1,l++[(setS s b).1],(setS s b).2,rfl,?_,rfl⟩
            ·omega
            ·exact ⟨by omega,by simp;omega,zsc htx (by omega) (by omega),zsa s b hbl,by omega⟩
      ·try simp [zbk,zbh,zbb,zba] at hc2
       all_goals
        have hN:K-i=0:=by omega
        rw [hN,setsS] at htx
        obtain ⟨rfl,rfl⟩:=Prod.mk.inj htx
        refine zb4 ?_
        refine zbo ?_
        refine AW_x rfl rfl λK hK=>?_
        simp (disch:=omega) [zG21,cI,cS,DtState.cells,DtCatalog.cells,DtCSet.cells,DtSaid.cells,-aAppZ]
        repeat' first|(exfalso;omega)|(refine zb6 [] false [] (hv) ?_ ?_ ?_;(focus (simp [List.range_succ,nmC];done));(focus (simp (disch:=omega) [zG21,cI,cS,DtState.cells,DtCatalog.cells,DtCSet.cells,DtSaid.cells,-aAppZ];done));simp (disch:=omega) [zG21,cI,cS,DtState.cells,DtCatalog.cells,DtCSet.cells,DtSaid.cells,-aAppZ])|(refine zb6 [] false [] (hw) ?_ ?_ ?_;(focus (simp [List.range_succ,nmC];done));(focus (simp (disch:=omega) [zG21,cI,cS,DtState.cells,DtCatalog.cells,DtCSet.cells,DtSaid.cells,-aAppZ];done));simp (disch:=omega) [zG21,cI,cS,DtState.cells,DtCatalog.cells,DtCSet.cells,DtSaid.cells,-aAppZ])|(refine zb6 [] false [] (hv2) ?_ ?_ ?_;(focus (simp [List.range_succ,nmC];done));(focus (simp (disch:=omega) [zG21,cI,cS,DtState.cells,DtCatalog.cells,DtCSet.cells,DtSaid.cells,-aAppZ];done));simp (disch:=omega) [zG21,cI,cS,DtState.cells,DtCatalog.cells,DtCSet.cells,DtSaid.cells,-aAppZ])|(refine ⟨λ_=>?_,λ_=>?_⟩)|(refine ⟨by omega,?_⟩)|(simp (disch:=omega) [zG21,cI,cS,DtState.cells,DtCatalog.cells,DtCSet.cells,DtSaid.cells,-aAppZ])|(intro _)
        all_goals (refine hK _ ?_;clear hK K)
        all_goals
         refine zbf ?_
         refine AW_x rfl rfl λK hK=>?_
         simp (disch:=omega) [zG21,cI,cS,DtState.cells,DtCatalog.cells,DtCSet.cells,DtSaid.cells,-aAppZ]
         repeat' first|(exfalso;omega)|(refine ⟨λ_=>?_,λ_=>?_⟩)|(refine ⟨by omega,?_⟩)|(simp (disch:=omega) [zG21,cI,cS,DtState.cells,DtCatalog.cells,DtCSet.cells,DtSaid.cells,-aAppZ])|(intro _)
         all_goals (refine hK _ ?_;clear hK K)
         all_goals
          refine zbi rfl (λhc4=>?_) (λhc4=>?_)
          ·try simp [zbk,zbh,zbb,zba] at hc4
           all_goals
            refine AW_x rfl rfl λK hK=>?_
            simp (disch:=omega) [zG21,cI,cS,DtState.cells,DtCatalog.cells,DtCSet.cells,DtSaid.cells,-aAppZ]
            repeat' first|(exfalso;omega)|(refine ⟨λ_=>?_,λ_=>?_⟩)|(refine ⟨by omega,?_⟩)|(simp (disch:=omega) [zG21,cI,cS,DtState.cells,DtCatalog.cells,DtCSet.cells,DtSaid.cells,-aAppZ])|(intro _)
            all_goals (refine hK _ ?_;clear hK K)
            all_goals
             refine zbl (zcd [1000,1001] [(1000,2),(1001,3)] (by simp [zG20,List.range_succ]) (by simp) ?_)
             simp (disch:=omega) [zG21,cI,cS,DtState.cells,DtCatalog.cells,DtCSet.cells,DtSaid.cells,-aAppZ]
             all_goals first | exact ⟨rfl,rfl,rfl⟩ | rfl | omega | trace_state
          ·try simp [zbk,zbh,zbb,zba] at hc4
           all_goals
            refine zbj ?_
            refine zbo ?_
            refine zbf ?_
            refine AW_x rfl rfl λK hK=>?_
            simp (disch:=omega) [zG21,cI,cS,DtState.cells,DtCatalog.cells,DtCSet.cells,DtSaid.cells,-aAppZ]
            repeat' first|(exfalso;omega)|(refine ⟨λ_=>?_,λ_=>?_⟩)|(refine ⟨by omega,?_⟩)|(simp (disch:=omega) [zG21,cI,cS,DtState.cells,DtCatalog.cells,DtCSet.cells,DtSaid.cells,-aAppZ])|(intro _)
            all_goals (refine hK _ ?_;clear hK K)
            all_goals
             refine zbm ?_
             refine zbw (λmM sS=>∃(j:Nat) (k:List DtSaid) (d:Int),mM=K2-j∧(j≤K2∧k.length=j∧saidsS s (K2-j) (k,d)=bS s∧d≤s.length∧0≤d)∧sS = { env:=lkE [(0,.s s),(2,.ptr 48 0),(4,.ptr 80 0),(6,(.g (.int .i64 (d)))),(10,.arr 944 0 1),(11,(.g (.int .i64 ((j:Nat)))))],ob:=lk [(48,.cells [.g (.slice none 0 0),.g (.slice none 0 0)]),(80,.cells [.arr 500 0 l.length,.arr 501 0 k.length]),(944,.own 1 [[(.g (.int .i64 ((K2:Nat))))]]),(500,.own 2 (l.map DtCSet.cells)),(501,.own 3 (k.map DtSaid.cells))] }) ?_ ?_
             ·refine ⟨_,LeS.trans (LeS.znc (cs:=[.arr 500 0 l.length,.g (.slice none 0 0)]) 501 3 80 1 (by simp [zG20,zby]) (by simp [zG20,zby,DtCSet.cells,DtSaid.cells]) (by rfl)) (LeS.kx [(48,48),(80,80),(944,944),(500,500),(501,501)] [(0,.s s),(2,.ptr 48 0),(4,.ptr 80 0),(6,(.g (.int .i64 ((e2))))),(10,.arr 944 0 1),(11,(.g (.int .i64 (((0):Nat)))))] [(48,.cells [.g (.slice none 0 0),.g (.slice none 0 0)]),(80,.cells [.arr 500 0 l.length,.arr 501 0 ([]).length]),(944,.own 1 [[(.g (.int .i64 ((K2:Nat))))]]),(500,.own 2 (l.map DtCSet.cells)),(501,.own 3 (([]).map DtSaid.cells))] (by simp [zG20,KpR,renV2,renV,zby,DtCSet.cells,DtSaid.cells];try (first | with_reducible rfl | omega|(simp;done))) (by simp [zG20,KpOX,renO,plO,cvO,renV,pl1,DtCSet.cells,DtSaid.cells];try (first | with_reducible rfl|(simp [DtSaid.cells,hsd,hse,zbs];done) | trace_state)) (by rfl) (by simp) (by simp) (by rfl) (by simp [formsX,List.range_succ,zbt,zb0])),_,0,[],e2,rfl,?_,rfl⟩
              ·exact ⟨by omega,rfl,hB,by omega,by omega⟩
             ·rintro mM sS ⟨j,k,d,rfl,⟨hjn,hkj,htz,hdl,hd0⟩,rfl⟩
              refine zbf ?_
              refine AW_x rfl rfl λK hK=>?_
              simp (disch:=omega) [zG21,cI,cS,DtState.cells,DtCatalog.cells,DtCSet.cells,DtSaid.cells,-aAppZ]
              repeat' first|(refine ⟨by omega,?_⟩)|(intro _)
              refine hK _ ?_;clear hK K
              refine zbi rfl (λhc5=>?_) (λhc5=>?_)
              ·try simp [zbk,zbh,zbb,zba] at hc5
               all_goals
                have hv2:=zgg s d 2 hs (by omega)
                have hvb:=zx7 s 2 ([],d) hdl
                have hts:=l4Take s (varL s 2 ([],d)).2 hs
                have htk:=zn0 (s:=s) (a:=(varL s 2 ([],d)).2)
                have hse:(saidS s d).2=(takeS s (varL s 2 ([],d)).2).2:=rfl
                refine zbj ?_
                refine zbo ?_
                refine zbf ?_
                refine zbm ?_
                refine AW_x rfl rfl λK hK=>?_
                simp (disch:=omega) [zG21,cI,cS,DtState.cells,DtCatalog.cells,DtCSet.cells,DtSaid.cells,-aAppZ]
                repeat' first|(exfalso;omega)|(refine zb6 [] false [] (hv) ?_ ?_ ?_;(focus (simp [List.range_succ,nmC];done));(focus (simp (disch:=omega) [zG21,cI,cS,DtState.cells,DtCatalog.cells,DtCSet.cells,DtSaid.cells,-aAppZ];done));simp (disch:=omega) [zG21,cI,cS,DtState.cells,DtCatalog.cells,DtCSet.cells,DtSaid.cells,-aAppZ])|(refine zb6 [] false [] (hw) ?_ ?_ ?_;(focus (simp [List.range_succ,nmC];done));(focus (simp (disch:=omega) [zG21,cI,cS,DtState.cells,DtCatalog.cells,DtCSet.cells,DtSaid.cells,-aAppZ];done));simp (disch:=omega) [zG21,cI,cS,DtState.cells,DtCatalog.cells,DtCSet.cells,DtSaid.cells,-aAppZ])|(refine zb6 [] false [] (hv2) ?_ ?_ ?_;(focus (simp [List.range_succ,nmC];done));(focus (simp (disch:=omega) [zG21,cI,cS,DtState.cells,DtCatalog.cells,DtCSet.cells,DtSaid.cells,-aAppZ];done));simp (disch:=omega) [zG21,cI,cS,DtState.cells,DtCatalog.cells,DtCSet.cells,DtSaid.cells,-aAppZ])|(refine ⟨λ_=>?_,λ_=>?_⟩)|(refine ⟨by omega,?_⟩)|(simp (disch:=omega) [zG21,cI,cS,DtState.cells,DtCatalog.cells,DtCSet.cells,DtSaid.cells,-aAppZ])|(intro _)
                all_goals (refine hK _ ?_;clear hK K)
                all_goals
                 refine AW_x rfl rfl λK hK=>?_
                 simp (disch:=omega) [zG21,cI,cS,DtState.cells,DtCatalog.cells,DtCSet.cells,DtSaid.cells,-aAppZ]
                 repeat' first|(exfalso;omega)|(refine zb6 [] false [] (hts) ?_ ?_ ?_;(focus (simp [List.range_succ,nmC];done));(focus (simp (disch:=omega) [zG21,cI,cS,DtState.cells,DtCatalog.cells,DtCSet.cells,DtSaid.cells,-aAppZ];done));simp (disch:=omega) [zG21,cI,cS,DtState.cells,DtCatalog.cells,DtCSet.cells,DtSaid.cells,-aAppZ])|(refine ⟨by omega,?_⟩)|(simp (disch:=omega) [zG21,cI,cS,DtState.cells,DtCatalog.cells,DtCSet.cells,DtSaid.cells,-aAppZ])|(intro _)
                 refine hK _ ?_;clear hK K
                 refine zbf ?_
                 refine AW_x rfl rfl λK hK=>?_
                 simp (disch:=omega) [zG21,cI,cS,DtState.cells,DtCatalog.cells,DtCSet.cells,DtSaid.cells,-aAppZ]
                 repeat' first|(refine ⟨by omega,?_⟩)|(intro _)
                 refine hK _ ?_;clear hK K
                 refine zbi rfl (λhc6=>?_) (λhc6=>?_)
                 ·try simp [zbk,zbh,zbb,zba] at hc6
                  all_goals
                   have hz:=saidsS_f htz (by omega) (by omega)
                   have hfx:RSS s=(⟨⟨[]⟩,[]⟩,false):=znz (.inr (.inr (.inr (.inr (.inr (.inl (by rw [hz];show (-1:Int)<0;decide)))))))
                   rw [hfx]
                   refine AW_x rfl rfl λK hK=>?_
                   simp (disch:=omega) [zG21,cI,cS,DtState.cells,DtCatalog.cells,DtCSet.cells,DtSaid.cells,-aAppZ]
                   repeat' first|(exfalso;omega)|(refine ⟨λ_=>?_,λ_=>?_⟩)|(refine ⟨by omega,?_⟩)|(simp (disch:=omega) [zG21,cI,cS,DtState.cells,DtCatalog.cells,DtCSet.cells,DtSaid.cells,-aAppZ])|(intro _)
                   all_goals (refine hK _ ?_;clear hK K)
                   all_goals
                    refine zbl (zcd [1000,1001] [(1000,2),(1001,3)] (by simp [zG20,List.range_succ]) (by simp) ?_)
                    simp (disch:=omega) [zG21,cI,cS,DtState.cells,DtCatalog.cells,DtCSet.cells,DtSaid.cells,-aAppZ]
                    all_goals first | exact ⟨rfl,rfl,rfl⟩ | rfl | omega | trace_state
                 ·try simp [zbk,zbh,zbb,zba] at hc6
                  all_goals
                   refine zbj ?_
                   refine zbo ?_
                   obtain ⟨p,q,hpq⟩:∃p q,(varL s 2 ([],d)).1=[p,q]:=by have h2:=hvb.2 (htk (by omega)).1;generalize (varL s 2 ([],d)).1=m at h2;match m,h2 with | [p,q],_=>exact ⟨_,_,rfl⟩
                   have hsd:(saidS s d).1=⟨p,q,(takeS s (varL s 2 ([],d)).2).1⟩:=by unfold saidS;rw [hpq];rfl
                   simp only [hpq]
                   refine AW_d rfl mix (by kernel_rfl) (by kernel_rfl) λK hK=>?_
                   simp (disch:=omega) [zG21,cI,cS,DtState.cells,DtCatalog.cells,DtCSet.cells,DtSaid.cells,-aAppZ]
                   repeat' first|(exfalso;omega)|(refine ⟨λ_=>?_,λ_=>?_⟩)|(refine ⟨by omega,?_⟩)|(simp (disch:=omega) [zG21,cI,cS,DtState.cells,DtCatalog.cells,DtCSet.cells,DtSaid.cells,-aAppZ])|(intro _)
                   all_goals (refine hK _ _ (by kernel_rfl) ?_;clear hK K)
                   all_goals
                    refine zdc rfl rfl λK hK=>?_
                    simp (disch:=omega) [zG21,cI,cS,DtState.cells,DtCatalog.cells,DtCSet.cells,DtSaid.cells,-aAppZ]
                    repeat' first|(refine ⟨by omega,?_⟩)|(intro _)
                    refine hK _ ?_;clear hK K
                    refine zbo ?_
                    refine zdc rfl rfl λK hK=>?_
                    simp (disch:=omega) [zG21,cI,cS,DtState.cells,DtCatalog.cells,DtCSet.cells,DtSaid.cells,-aAppZ]
                    repeat' first|(refine ⟨by omega,?_⟩)|(intro _)
                    refine hK _ ?_;clear hK K
                    refine ⟨_,LeS.kx [(48,48),(80,80),(944,944),(500,500),(501,1664)] [(0,.s s),(2,.ptr 48 0),(4,.ptr 80 0),(6,(.g (.int .i64 (((saidS s d).2))))),(10,.arr 944 0 1),(11,(.g (.int .i64 (((j+1):Nat)))))] [(48,.cells [.g (.slice none 0 0),.g (.slice none 0 0)]),(80,.cells [.arr 500 0 l.length,.arr 501 0 (k++[(saidS s d).1]).length]),(944,.own 1 [[(.g (.int .i64 ((K2:Nat))))]]),(500,.own 2 (l.map DtCSet.cells)),(501,.own 3 ((k++[(saidS s d).1]).map DtSaid.cells))] (by simp [zG20,KpR,renV2,renV,zby,DtCSet.cells,DtSaid.cells];try (first | with_reducible rfl | omega|(simp;done))) (by simp [zG20,KpOX,renO,plO,cvO,renV,pl1,DtCSet.cells,DtSaid.cells];try (first | with_reducible rfl|(simp [DtSaid.cells,hsd,hse,zbs];done) | trace_state)) (by rfl) (by simp) (by simp) (by rfl) (by simp [formsX,List.range_succ,zbt,zb0]),_,?_,j+1,k++[(saidS s d).1],(saidS s d).2,rfl,?_,rfl⟩
                    ·omega
                    ·exact ⟨by omega,by simp;omega,saidsS_t htz (by omega) (by omega),ztc s d,by omega⟩
              ·try simp [zbk,zbh,zbb,zba] at hc5
               all_goals
                have hJ:K2-j=0:=by omega
                rw [hJ,saidsS] at htz
                refine zb4 ?_
                refine zbo ?_
                refine zbf ?_
                have hsz:DtState.sz ⟨⟨l⟩,k⟩≤1048576:=by have h9:=rdS_sz hb (by rw [hAs];exact hc) (by rw [←htz];exact hd0);rw [hAs,←htz] at h9;dsimp only at h9;omega
                refine AW_x rfl rfl λK hK=>?_
                simp (disch:=omega) [zG21,cI,cS,DtState.cells,DtCatalog.cells,DtCSet.cells,DtSaid.cells,-aAppZ]
                repeat' first|(exfalso;omega)|(refine zgh (zbe (zca rfl) zbn) (zhx ⟨⟨l⟩,k⟩ hsz) rfl ?_;simp (disch:=omega) [zG21,cI,cS,DtState.cells,DtCatalog.cells,DtCSet.cells,DtSaid.cells,-aAppZ])|(refine zgi (zhx ⟨⟨l⟩,k⟩ hsz) (by rfl) ?_ ?_;(focus (simp (disch:=omega) [zG21,cI,cS,DtState.cells,DtCatalog.cells,DtCSet.cells,DtSaid.cells,-aAppZ];done));simp (disch:=omega) [zG21,cI,cS,DtState.cells,DtCatalog.cells,DtCSet.cells,DtSaid.cells,-aAppZ])|(refine ⟨λ_=>?_,λ_=>?_⟩)|(refine ⟨by omega,?_⟩)|(simp (disch:=omega) [zG21,cI,cS,DtState.cells,DtCatalog.cells,DtCSet.cells,DtSaid.cells,-aAppZ])|(intro _)
                all_goals (refine hK _ ?_;clear hK K)
                all_goals
                 refine zbi rfl (λhc7=>?_) (λhc7=>?_)
                 ·try simp [zbk,zbh,zbb,zba] at hc7
                  all_goals
                   have hfx:RSS s=(⟨⟨[]⟩,[]⟩,false):=znz (.inr (.inr (.inr (.inr (.inr (.inr (by rw [hAs,←htz];assumption)))))))
                   rw [hfx]
                   refine AW_x rfl rfl λK hK=>?_
                   simp (disch:=omega) [zG21,cI,cS,DtState.cells,DtCatalog.cells,DtCSet.cells,DtSaid.cells,-aAppZ]
                   repeat' first|(exfalso;omega)|(refine ⟨λ_=>?_,λ_=>?_⟩)|(refine ⟨by omega,?_⟩)|(simp (disch:=omega) [zG21,cI,cS,DtState.cells,DtCatalog.cells,DtCSet.cells,DtSaid.cells,-aAppZ])|(intro _)
                   all_goals (refine hK _ ?_;clear hK K)
                   all_goals
                    refine zbl (zcd [1000,1001] [(1000,2),(1001,3)] (by simp [zG20,List.range_succ]) (by simp) ?_)
                    simp (disch:=omega) [zG21,cI,cS,DtState.cells,DtCatalog.cells,DtCSet.cells,DtSaid.cells,-aAppZ]
                    all_goals first | exact ⟨rfl,rfl,rfl⟩ | rfl | omega | trace_state
                 ·try simp [zbk,zbh,zbb,zba] at hc7
                  all_goals
                   refine zbj ?_
                   refine zbo ?_
                   have hfx:RSS s=(⟨⟨l⟩,k⟩,true):=(rss_t (by unfold fS;rw [hAs,←htz];rintro (h | h | h | h | h | h | h)<;>first | exact hb h | exact hc h | exact h5 h | exact h9 h|(dsimp only at h;omega) | exact h (by assumption))).trans (by rw [hAs,←htz])
                   rw [hfx]
                   refine AW_x rfl rfl λK hK=>?_
                   simp (disch:=omega) [zG21,cI,cS,DtState.cells,DtCatalog.cells,DtCSet.cells,DtSaid.cells,-aAppZ]
                   repeat' first|(exfalso;omega)|(refine ⟨λ_=>?_,λ_=>?_⟩)|(refine ⟨by omega,?_⟩)|(simp (disch:=omega) [zG21,cI,cS,DtState.cells,DtCatalog.cells,DtCSet.cells,DtSaid.cells,-aAppZ])|(intro _)
                   all_goals (refine hK _ ?_;clear hK K)
                   all_goals
                    refine zbl (zcd [500,501] [] (by simp [zG20,List.range_succ]) (by simp) ?_)
                    simp (disch:=omega) [zG21,cI,cS,DtState.cells,DtCatalog.cells,DtCSet.cells,DtSaid.cells,-aAppZ]
                    all_goals first | exact ⟨rfl,rfl,rfl⟩ | rfl | omega | trace_state
end Go.Proofs.Ytchpfloemfoomaa.Vs
end
