import Derived.Test.YtchpfloemfoomaaSM5
section
namespace Go.Proofs.Ytchpfloemfoomaa.Vs
set_option linter.all false
set_option maxRecDepth 100000
set_option maxHeartbeats 2000000
/-! The reader of the reference: a place in the text, -1 where it is spoilt -/
noncomputable def bdV(s:List UInt8)(a:Int):Bool:=decide (a<0∨(s.length:Int)<a∨(RV (s.drop a.toNat)).2=0)
noncomputable def varL(s:List UInt8):Nat→List Int × Int→List Int × Int
 | 0,x=>x
 | n+1,x=>if bdV s x.2=true then (x.1,-1) else varL s n (x.1++[(RV (s.drop x.2.toNat)).1],x.2+(RV (s.drop x.2.toNat)).2)
theorem varL_f{s:List UInt8}{n i:Nat}{l:List Int}{a:Int}{z:List Int × Int}(h:varL s (n-i) (l,a)=z)(hi:i<n)(hb:a<0∨(s.length:Int)<a∨(RV (s.drop a.toNat)).2=0):z=(l,-1):=by
 obtain ⟨q,hq⟩:∃q,n-i=q+1:=⟨n-i-1,by omega⟩
 rw [←h,hq,varL]
 have:bdV s (l,a).2=true:=decide_eq_true hb
 rw [if_pos this]
theorem varL_t{s:List UInt8}{n i:Nat}{l:List Int}{a:Int}{z:List Int × Int}(h:varL s (n-i) (l,a)=z)(hi:i<n)(h1:0≤a)(h2:a≤s.length)(h3:¬(RV (s.drop a.toNat)).2=0):varL s (n-(i+1)) (l++[(RV (s.drop a.toNat)).1],a+(RV (s.drop a.toNat)).2)=z:=by
 have hq:n-i=(n-(i+1))+1:=by omega
 rw [←h,hq,varL]
 have:¬bdV s (l,a).2=true:=by
  unfold bdV
  rw [decide_eq_true_iff]
  rintro (h | h | h)
  ·have h:a<0:=h;omega
  ·have h:(s.length:Int)<a:=h;omega
  ·exact h3 h
 rw [if_neg this]
def zG16:=And.intro @zce (And.intro @gE (And.intro @tP (And.intro @zh0 (And.intro @and_assoc (And.intro @List.range_succ (And.intro @zbz (And.intro @zbk @zbh)))))))
def zG17:=And.intro @zbk @zbh
def zG18:=And.intro @List.range_succ (And.intro @zbt (And.intro @zb0 @zcb))
theorem zgg(s:List UInt8)(at0:Int)(n:Nat)(hs:s.length≤1048576)(hn:n≤1048576):XCall Try.prog 9 [.s s,(.g (.int .i64 (at0))),(.g (.int .i64 ((n:Nat))))] [] (.tup [.arr 16 0 (varL s n ([],at0)).1.length,(.g (.int .i64 ((varL s n ([],at0)).2)))]) [] [.own 1 ((varL s n ([],at0)).1.map cI)]:=by
 refine zbu Try.func9 (by rfl) (by rfl) (by rw [Try.ntmps9];exact Nat.le_of_ble_eq_true rfl) rfl (by simp) rfl rfl ?_
 rw [Try.ntmps9]
 refine zf1   ?_
 refine AW_k [(0,_),(1,_),(2,_)] ⟨rfl,rfl,rfl,trivial⟩ ?_
 refine AW_x rfl rfl λK hK=>?_
 simp (disch:=omega) [zG16,cI,cS,zbd,zdj,-aAppZ]
 repeat' first|(refine ⟨by omega,?_⟩)|(intro _)
 refine hK _ ?_;clear hK K
 refine AW_x rfl rfl λK hK=>?_
 simp (disch:=omega) [zG16,cI,cS,zbd,zdj,-aAppZ]
 repeat' first|(refine ⟨by omega,?_⟩)|(simp (disch:=omega) [zG16,cI,cS,zbd,zdj,-aAppZ])|(intro _)
 refine hK _ ?_;clear hK K
 refine zbf ?_
 refine AW_x rfl rfl λK hK=>?_
 simp (disch:=omega) [zG16,cI,cS,zbd,zdj,-aAppZ]
 repeat' first|(refine ⟨by omega,?_⟩)|(intro _)
 refine hK _ ?_;clear hK K
 refine zbm ?_
 refine zbw (λmM sS=>∃(i:Nat) (l:List Int) (a:Int),mM=n-i∧(i≤n∧l.length=i∧varL s (n-i) (l,a)=varL s n ([],at0))∧sS = { env:=lkE [(0,.s s),(1,(.g (.int .i64 (a)))),(2,(.g (.int .i64 ((n:Nat))))),(8,.arr 500 0 l.length),(9,(.g (.int .i64 ((i:Nat)))))],ob:=lk [(500,.own 1 (l.map cI))] }) ?_ ?_
 ·refine ⟨_,LeS.kx [(500,208)] [(0,.s s),(1,(.g (.int .i64 ((at0))))),(2,(.g (.int .i64 ((n:Nat))))),(8,.arr 500 0 ([]).length),(9,(.g (.int .i64 (((0):Nat)))))] [(500,.own 1 (([]).map cI))] (by simp [KpR,renV2,renV,zcb,zby,zbt,zb0,cI];try (first | with_reducible rfl | omega|(simp;done))) (by simp [KpOX,renO,plO,cvO,renV,pl1,zbt,zb0,zcb,cI];try (first | with_reducible rfl | exact zdj l|(simp [cI];done) | trace_state)) (by rfl) (by simp) (by simp) (by rfl) (by simp [formsX,List.range_succ,zbt,zb0]),_,0,[],at0,rfl,?_,rfl⟩
  ·exact ⟨by omega,rfl,rfl⟩
 ·rintro mM sS ⟨i,l,a,rfl,⟨hin,hli,htx⟩,rfl⟩
  refine zbf ?_
  refine AW_x rfl rfl λK hK=>?_
  simp (disch:=omega) [zG16,cI,cS,zbd,zdj,-aAppZ]
  repeat' first|(refine ⟨by omega,?_⟩)|(intro _)
  refine hK _ ?_;clear hK K
  refine zbi rfl (λhc1=>?_) (λhc1=>?_)
  ·try simp [zG17,zbb,zba] at hc1
   all_goals
    have hrb:=zxu (s.drop a.toNat)
    refine zbj ?_
    refine zbo ?_
    refine zbf ?_
    refine zbm ?_
    refine zbf ?_
    refine AW_x rfl rfl λK hK=>?_
    simp (disch:=omega) [zG16,cI,cS,zbd,zdj,-aAppZ]
    repeat' first|(exfalso;omega)|(refine ⟨λ_=>?_,λ_=>?_⟩)|(refine ⟨by omega,?_⟩)|(simp (disch:=omega) [zG16,cI,cS,zbd,zdj,-aAppZ])|(intro _)
    all_goals (refine hK _ ?_;clear hK K)
    all_goals
     refine zbi rfl (λhc2=>?_) (λhc2=>?_)
     ·try simp [zG17,zbb,zba] at hc2
      all_goals
       rw [varL_f htx (by omega) (by omega)]
       refine AW_x rfl rfl λK hK=>?_
       simp (disch:=omega) [zG16,cI,cS,zbd,zdj,-aAppZ]
       repeat' first|(exfalso;omega)|(refine ⟨λ_=>?_,λ_=>?_⟩)|(refine ⟨by omega,?_⟩)|(simp (disch:=omega) [zG16,cI,cS,zbd,zdj,-aAppZ])|(intro _)
       all_goals (refine hK _ ?_;clear hK K)
       all_goals
        refine zbl (zcd [500] [] (by simp [zG18]) (by simp) ?_)
        simp (disch:=omega) [zG16,cI,cS,zbd,zdj,-aAppZ]
        all_goals first | exact ⟨rfl,rfl,rfl⟩|(rw [←htx];exact ⟨rfl,rfl,rfl⟩) | omega | trace_state
     ·try simp [zG17,zbb,zba] at hc2
      all_goals
       refine zbj ?_
       refine zbo ?_
       refine AW_x rfl rfl λK hK=>?_
       simp (disch:=omega) [zG16,cI,cS,zbd,zdj,-aAppZ]
       repeat' first|(exfalso;omega)|(refine zgh (zbe zg6 zbn) (zlv (s.drop a.toNat) (by simp;omega)) rfl ?_;simp (disch:=omega) [zG16,cI,cS,zbd,zdj,-aAppZ])|(refine zgi (zlv (s.drop a.toNat) (by simp;omega)) (by rfl) ?_ ?_;(focus (simp (disch:=omega) [zG16,cI,cS,zbd,zdj,-aAppZ];done));simp (disch:=omega) [zG16,cI,cS,zbd,zdj,-aAppZ])|(refine ⟨λ_=>?_,λ_=>?_⟩)|(refine ⟨by omega,?_⟩)|(simp (disch:=omega) [zG16,cI,cS,zbd,zdj,-aAppZ])|(intro _)
       all_goals (refine hK _ ?_;clear hK K)
       all_goals
        refine zbf ?_
        refine AW_x rfl rfl λK hK=>?_
        simp (disch:=omega) [zG16,cI,cS,zbd,zdj,-aAppZ]
        repeat' first|(refine ⟨by omega,?_⟩)|(intro _)
        refine hK _ ?_;clear hK K
        refine zbi rfl (λhc3=>?_) (λhc3=>?_)
        ·try simp [zG17,zbb,zba] at hc3
         all_goals
          rw [varL_f htx (by omega) (.inr (.inr (by assumption)))]
          refine AW_x rfl rfl λK hK=>?_
          simp (disch:=omega) [zG16,cI,cS,zbd,zdj,-aAppZ]
          repeat' first|(exfalso;omega)|(refine ⟨λ_=>?_,λ_=>?_⟩)|(refine ⟨by omega,?_⟩)|(simp (disch:=omega) [zG16,cI,cS,zbd,zdj,-aAppZ])|(intro _)
          all_goals (refine hK _ ?_;clear hK K)
          all_goals
           refine zbl (zcd [500] [] (by simp [zG18]) (by simp) ?_)
           simp (disch:=omega) [zG16,cI,cS,zbd,zdj,-aAppZ]
           all_goals first | exact ⟨rfl,rfl,rfl⟩|(rw [←htx];exact ⟨rfl,rfl,rfl⟩) | omega | trace_state
        ·try simp [zG17,zbb,zba] at hc3
         all_goals
          refine zbj ?_
          refine zbo ?_
          refine AW_x rfl rfl λK hK=>?_
          simp (disch:=omega) [zG16,cI,cS,zbd,zdj,-aAppZ]
          repeat' first|(exfalso;omega)|(refine ⟨λ_=>?_,λ_=>?_⟩)|(refine ⟨by omega,?_⟩)|(simp (disch:=omega) [zG16,cI,cS,zbd,zdj,-aAppZ])|(intro _)
          all_goals (refine hK _ ?_;clear hK K)
          all_goals
           refine zdc rfl rfl λK hK=>?_
           simp (disch:=omega) [zG16,cI,cS,zbd,zdj,-aAppZ]
           repeat' first|(refine ⟨by omega,?_⟩)|(intro _)
           refine hK _ ?_;clear hK K
           refine zbo ?_
           refine zdc rfl rfl λK hK=>?_
           simp (disch:=omega) [zG16,cI,cS,zbd,zdj,-aAppZ]
           repeat' first|(refine ⟨by omega,?_⟩)|(intro _)
           refine hK _ ?_;clear hK K
           refine ⟨_,LeS.kx [(500,656)] [(0,.s s),(1,(.g (.int .i64 ((a+(RV (s.drop a.toNat)).2))))),(2,(.g (.int .i64 ((n:Nat))))),(8,.arr 500 0 (l++[(RV (s.drop a.toNat)).1]).length),(9,(.g (.int .i64 (((i+1):Nat)))))] [(500,.own 1 ((l++[(RV (s.drop a.toNat)).1]).map cI))] (by simp [KpR,renV2,renV,zcb,zby,zbt,zb0,cI];try (first | with_reducible rfl | omega|(simp;done))) (by simp [KpOX,renO,plO,cvO,renV,pl1,zbt,zb0,zcb,cI];try (first | with_reducible rfl | exact zdj l|(simp [cI];done) | trace_state)) (by rfl) (by simp) (by simp) (by rfl) (by simp [formsX,List.range_succ,zbt,zb0]),_,?_,i+1,l++[(RV (s.drop a.toNat)).1],a+(RV (s.drop a.toNat)).2,rfl,?_,rfl⟩
           ·omega
           ·exact ⟨by omega,by simp;omega,varL_t htx (by omega) (by omega) (by omega) (by assumption)⟩
  ·try simp [zG17,zbb,zba] at hc1
   all_goals
    have hN:n-i=0:=by omega
    rw [hN,varL] at htx
    refine zb4 ?_
    refine zbo ?_
    refine AW_x rfl rfl λK hK=>?_
    simp (disch:=omega) [zG16,cI,cS,zbd,zdj,-aAppZ]
    repeat' first|(exfalso;omega)|(refine ⟨λ_=>?_,λ_=>?_⟩)|(refine ⟨by omega,?_⟩)|(simp (disch:=omega) [zG16,cI,cS,zbd,zdj,-aAppZ])|(intro _)
    all_goals (refine hK _ ?_;clear hK K)
    all_goals
     refine zbl (zcd [500] [] (by simp [zG18]) (by simp) ?_)
     simp (disch:=omega) [zG16,cI,cS,zbd,zdj,-aAppZ]
     all_goals first | exact ⟨rfl,rfl,rfl⟩|(rw [←htx];exact ⟨rfl,rfl,rfl⟩) | omega | trace_state
end Go.Proofs.Ytchpfloemfoomaa.Vs
end
section
namespace Go.Proofs.Ytchpfloemfoomaa.Vs
set_option linter.all false
set_option maxRecDepth 100000
set_option maxHeartbeats 2000000
noncomputable def v1(s:List UInt8)(a:Int):Int:=(RV (s.drop a.toNat)).1
noncomputable def e1(s:List UInt8)(a:Int):Int:=a+(RV (s.drop a.toNat)).2
noncomputable def takeS(s:List UInt8)(a:Int):List UInt8 × Int :=
 if bdV s a=true∨(s.length:Int)-e1 s a<v1 s a then ([],-1) else ((s.drop (e1 s a).toNat).take (v1 s a).toNat,e1 s a+v1 s a)
theorem zlw{s:List UInt8}{a:Int}(h:bdV s a=true):varL s 1 ([],a)=([],-1):=by
 rw [varL,if_pos h]
theorem zfu{s:List UInt8}{a:Int}(h:¬bdV s a=true):varL s 1 ([],a)=([v1 s a],e1 s a):=by
 rw [varL,if_neg h];rfl
theorem zfv{s:List UInt8}{a:Int}(h:¬bdV s a=true):0≤a∧a≤s.length∧0≤v1 s a∧v1 s a≤562949953421311∧a+1≤e1 s a∧e1 s a≤s.length:=by
 unfold bdV at h
 rw [decide_eq_true_iff] at h
 have hb:=zxu (s.drop a.toNat)
 have h3:¬(RV (s.drop a.toNat)).2=0:=λe=>h (.inr (.inr e))
 rw [List.length_drop] at hb
 unfold v1 e1
 omega
theorem zx3{s:List UInt8}{a:Int}(h:bdV s a=true∨(s.length:Int)-e1 s a<v1 s a):takeS s a=([],-1):=by
 unfold takeS;rw [if_pos h]
theorem zx4{s:List UInt8}{a:Int}(h:¬bdV s a=true)(h2:v1 s a≤(s.length:Int)-e1 s a):takeS s a=((s.drop (e1 s a).toNat).take (v1 s a).toNat,e1 s a+v1 s a):=by
 unfold takeS;rw [if_neg λhh=>hh.elim h λh3=>by omega]
theorem l4Take(s:List UInt8)(a:Int)(hs:s.length≤1048576):XCall Try.prog 11 [.s s,(.g (.int .i64 (a)))] [] (.tup [.s (takeS s a).1,(.g (.int .i64 ((takeS s a).2)))]) [] []:=by
 have hv:=zgg s a 1 hs (by omega)
 by_cases hb:bdV s a=true
 ·rw [zlw hb] at hv
  rw [zx3 (.inl hb)]
  refine zbu Try.func11 (by rfl) (by rfl) (by rw [Try.ntmps11];exact Nat.le_of_ble_eq_true rfl) rfl (by simp) rfl rfl ?_
  rw [Try.ntmps11]
  refine zf1   ?_
  refine AW_k [(0,_),(1,_)] ⟨rfl,rfl,trivial⟩ ?_
  refine AW_x rfl rfl λK hK=>?_
  simp (disch:=omega) [zG16,cI,cS]
  repeat' first|(refine ⟨by omega,?_⟩)|(intro _)
  refine hK _ ?_;clear hK K
  refine AW_x rfl rfl λK hK=>?_
  simp (disch:=omega) [zG16,cI,cS]
  repeat' first|(exfalso;omega)|(refine zb6 [] false [] (hv) ?_ ?_ ?_;(focus (simp [List.range_succ,nmC];done));(focus (simp (disch:=omega) [zG16,cI,cS];done));simp (disch:=omega) [zG16,cI,cS])|(refine ⟨by omega,?_⟩)|(simp (disch:=omega) [zG16,cI,cS])|(intro _)
  refine hK _ ?_;clear hK K
  refine zbf ?_
  refine AW_x rfl rfl λK hK=>?_
  simp (disch:=omega) [zG16,cI,cS]
  repeat' first|(exfalso;omega)|(refine ⟨λ_=>?_,λ_=>?_⟩)|(refine ⟨by omega,?_⟩)|(simp (disch:=omega) [zG16,cI,cS])|(intro _)
  all_goals (refine hK _ ?_;clear hK K)
  all_goals
   refine zbi rfl (λhc1=>?_) (λhc1=>?_)
   ·try simp [zG17,zbb,zba] at hc1
    all_goals
     refine AW_x rfl rfl λK hK=>?_
     simp (disch:=omega) [zG16,cI,cS]
     repeat' first|(exfalso;omega)|(refine ⟨λ_=>?_,λ_=>?_⟩)|(refine ⟨by omega,?_⟩)|(simp (disch:=omega) [zG16,cI,cS])|(intro _)
     all_goals (refine hK _ ?_;clear hK K)
     all_goals
      refine zbl (zcd [] [] (by simp [zG18]) (by simp) ?_)
      simp (disch:=omega) [zG16,cI,cS]
      all_goals first | rfl | omega | trace_state
   ·try simp [zG17,zbb,zba] at hc1
    all_goals
     refine zbj ?_
     refine zbo ?_
     refine AW_d rfl mix (by kernel_rfl) (by kernel_rfl) λK hK=>?_
     simp (disch:=omega) [zG16,cI,cS]
     repeat' first|(exfalso;omega)|(refine ⟨λ_=>?_,λ_=>?_⟩)|(refine ⟨by omega,?_⟩)|(simp (disch:=omega) [zG16,cI,cS])|(intro _)
     all_goals (refine hK _ _ (by kernel_rfl) ?_;clear hK K)
     all_goals
      refine zbl (zcd [] [] (by simp [zG18]) (by simp) ?_)
      simp (disch:=omega) [zG16,cI,cS]
      all_goals first | rfl | omega | trace_state
 ·rw [zfu hb] at hv
  have hbt:=zfv hb
  generalize hV:v1 s a=v at *
  generalize hE:e1 s a=e at *
  by_cases h2:v≤(s.length:Int)-e
  ·rw [zx4 hb (by omega),hV,hE]
   refine zbu Try.func11 (by rfl) (by rfl) (by rw [Try.ntmps11];exact Nat.le_of_ble_eq_true rfl) rfl (by simp) rfl rfl ?_
   rw [Try.ntmps11]
   refine zf1   ?_
   refine AW_k [(0,_),(1,_)] ⟨rfl,rfl,trivial⟩ ?_
   refine AW_x rfl rfl λK hK=>?_
   simp (disch:=omega) [zG16,cI,cS]
   repeat' first|(refine ⟨by omega,?_⟩)|(intro _)
   refine hK _ ?_;clear hK K
   refine AW_x rfl rfl λK hK=>?_
   simp (disch:=omega) [zG16,cI,cS]
   repeat' first|(exfalso;omega)|(refine zb6 [] false [] (hv) ?_ ?_ ?_;(focus (simp [List.range_succ,nmC];done));(focus (simp (disch:=omega) [zG16,cI,cS];done));simp (disch:=omega) [zG16,cI,cS])|(refine ⟨by omega,?_⟩)|(simp (disch:=omega) [zG16,cI,cS])|(intro _)
   refine hK _ ?_;clear hK K
   refine zbf ?_
   refine AW_x rfl rfl λK hK=>?_
   simp (disch:=omega) [zG16,cI,cS]
   repeat' first|(exfalso;omega)|(refine ⟨λ_=>?_,λ_=>?_⟩)|(refine ⟨by omega,?_⟩)|(simp (disch:=omega) [zG16,cI,cS])|(intro _)
   all_goals (refine hK _ ?_;clear hK K)
   all_goals
    refine zbi rfl (λhc2=>?_) (λhc2=>?_)
    ·try simp [zG17,zbb,zba] at hc2
     all_goals
      refine AW_x rfl rfl λK hK=>?_
      simp (disch:=omega) [zG16,cI,cS]
      repeat' first|(exfalso;omega)|(refine ⟨λ_=>?_,λ_=>?_⟩)|(refine ⟨by omega,?_⟩)|(simp (disch:=omega) [zG16,cI,cS])|(intro _)
      all_goals (refine hK _ ?_;clear hK K)
      all_goals
       refine zbl (zcd [] [] (by simp [zG18]) (by simp) ?_)
       simp (disch:=omega) [zG16,cI,cS]
       all_goals first | rfl | omega|(have hee:(e+v).toNat-e.toNat=v.toNat:=(by omega);rw [hee];done)|(have hee:(e+v).toNat-e.toNat=v.toNat:=(by omega);rw [hee];exact ⟨rfl,rfl⟩) | trace_state
    ·try simp [zG17,zbb,zba] at hc2
     all_goals
      refine zbj ?_
      refine zbo ?_
      refine AW_d rfl mix (by kernel_rfl) (by kernel_rfl) λK hK=>?_
      simp (disch:=omega) [zG16,cI,cS]
      repeat' first|(exfalso;omega)|(refine ⟨λ_=>?_,λ_=>?_⟩)|(refine ⟨by omega,?_⟩)|(simp (disch:=omega) [zG16,cI,cS])|(intro _)
      all_goals (refine hK _ _ (by kernel_rfl) ?_;clear hK K)
      all_goals
       refine zbl (zcd [] [] (by simp [zG18]) (by simp) ?_)
       simp (disch:=omega) [zG16,cI,cS]
       all_goals first | rfl | omega|(have hee:(e+v).toNat-e.toNat=v.toNat:=(by omega);rw [hee];done)|(have hee:(e+v).toNat-e.toNat=v.toNat:=(by omega);rw [hee];exact ⟨rfl,rfl⟩) | trace_state
  ·rw [zx3 (.inr (by omega))]
   refine zbu Try.func11 (by rfl) (by rfl) (by rw [Try.ntmps11];exact Nat.le_of_ble_eq_true rfl) rfl (by simp) rfl rfl ?_
   rw [Try.ntmps11]
   refine zf1   ?_
   refine AW_k [(0,_),(1,_)] ⟨rfl,rfl,trivial⟩ ?_
   refine AW_x rfl rfl λK hK=>?_
   simp (disch:=omega) [zG16,cI,cS]
   repeat' first|(refine ⟨by omega,?_⟩)|(intro _)
   refine hK _ ?_;clear hK K
   refine AW_x rfl rfl λK hK=>?_
   simp (disch:=omega) [zG16,cI,cS]
   repeat' first|(exfalso;omega)|(refine zb6 [] false [] (hv) ?_ ?_ ?_;(focus (simp [List.range_succ,nmC];done));(focus (simp (disch:=omega) [zG16,cI,cS];done));simp (disch:=omega) [zG16,cI,cS])|(refine ⟨by omega,?_⟩)|(simp (disch:=omega) [zG16,cI,cS])|(intro _)
   refine hK _ ?_;clear hK K
   refine zbf ?_
   refine AW_x rfl rfl λK hK=>?_
   simp (disch:=omega) [zG16,cI,cS]
   repeat' first|(exfalso;omega)|(refine ⟨λ_=>?_,λ_=>?_⟩)|(refine ⟨by omega,?_⟩)|(simp (disch:=omega) [zG16,cI,cS])|(intro _)
   all_goals (refine hK _ ?_;clear hK K)
   all_goals
    refine zbi rfl (λhc3=>?_) (λhc3=>?_)
    ·try simp [zG17,zbb,zba] at hc3
     all_goals
      refine AW_x rfl rfl λK hK=>?_
      simp (disch:=omega) [zG16,cI,cS]
      repeat' first|(exfalso;omega)|(refine ⟨λ_=>?_,λ_=>?_⟩)|(refine ⟨by omega,?_⟩)|(simp (disch:=omega) [zG16,cI,cS])|(intro _)
      all_goals (refine hK _ ?_;clear hK K)
      all_goals
       refine zbl (zcd [] [] (by simp [zG18]) (by simp) ?_)
       simp (disch:=omega) [zG16,cI,cS]
       all_goals first | rfl | omega | trace_state
    ·try simp [zG17,zbb,zba] at hc3
     all_goals
      refine zbj ?_
      refine zbo ?_
      refine AW_d rfl mix (by kernel_rfl) (by kernel_rfl) λK hK=>?_
      simp (disch:=omega) [zG16,cI,cS]
      repeat' first|(exfalso;omega)|(refine ⟨λ_=>?_,λ_=>?_⟩)|(refine ⟨by omega,?_⟩)|(simp (disch:=omega) [zG16,cI,cS])|(intro _)
      all_goals (refine hK _ _ (by kernel_rfl) ?_;clear hK K)
      all_goals
       refine zbl (zcd [] [] (by simp [zG18]) (by simp) ?_)
       simp (disch:=omega) [zG16,cI,cS]
       all_goals first | rfl | omega | trace_state
noncomputable def readS(s:List UInt8):Nat→List (List UInt8) × Int→List (List UInt8) × Int
 | 0,x=>x
 | n+1,x=>if (takeS s x.2).2<0 then (x.1,-1) else readS s n (x.1++[(takeS s x.2).1],(takeS s x.2).2)
theorem readS_f{s:List UInt8}{n i:Nat}{l:List (List UInt8)}{a:Int}{z:List (List UInt8) × Int}(h:readS s (n-i) (l,a)=z)(hi:i<n)(hb:(takeS s a).2<0):z=(l,-1):=by
 obtain ⟨q,hq⟩:∃q,n-i=q+1:=⟨n-i-1,by omega⟩
 rw [←h,hq,readS,if_pos hb]
theorem readS_t{s:List UInt8}{n i:Nat}{l:List (List UInt8)}{a:Int}{z:List (List UInt8) × Int}(h:readS s (n-i) (l,a)=z)(hi:i<n)(hb:0≤(takeS s a).2):readS s (n-(i+1)) (l++[(takeS s a).1],(takeS s a).2)=z:=by
 have hq:n-i=(n-(i+1))+1:=by omega
 rw [←h,hq,readS,if_neg (show ¬(takeS s (l,a).2).2<0 by simp only;omega)]
theorem zlx(s:List UInt8)(at0:Int)(n:Nat)(hs:s.length≤1048576)(hn:n≤1048576):XCall Try.prog 25 [.s s,(.g (.int .i64 (at0))),(.g (.int .i64 ((n:Nat))))] [] (.tup [.arr 16 0 (readS s n ([],at0)).1.length,(.g (.int .i64 ((readS s n ([],at0)).2)))]) [] [.own 1 ((readS s n ([],at0)).1.map cS)]:=by
 refine zbu Try.func25 (by rfl) (by rfl) (by rw [Try.ntmps25];exact Nat.le_of_ble_eq_true rfl) rfl (by simp) rfl rfl ?_
 rw [Try.ntmps25]
 refine zf1   ?_
 refine AW_k [(0,_),(1,_),(2,_)] ⟨rfl,rfl,rfl,trivial⟩ ?_
 refine AW_x rfl rfl λK hK=>?_
 simp (disch:=omega) [zG16,cI,cS,zbd,zbv,-aAppZ]
 repeat' first|(refine ⟨by omega,?_⟩)|(intro _)
 refine hK _ ?_;clear hK K
 refine AW_x rfl rfl λK hK=>?_
 simp (disch:=omega) [zG16,cI,cS,zbd,zbv,-aAppZ]
 repeat' first|(refine ⟨by omega,?_⟩)|(simp (disch:=omega) [zG16,cI,cS,zbd,zbv,-aAppZ])|(intro _)
 refine hK _ ?_;clear hK K
 refine zbf ?_
 refine AW_x rfl rfl λK hK=>?_
 simp (disch:=omega) [zG16,cI,cS,zbd,zbv,-aAppZ]
 repeat' first|(refine ⟨by omega,?_⟩)|(intro _)
 refine hK _ ?_;clear hK K
 refine zbm ?_
 refine zbw (λmM sS=>∃(i:Nat) (l:List (List UInt8)) (a:Int),mM=n-i∧(i≤n∧l.length=i∧readS s (n-i) (l,a)=readS s n ([],at0))∧sS = { env:=lkE [(0,.s s),(1,(.g (.int .i64 (a)))),(2,(.g (.int .i64 ((n:Nat))))),(8,.arr 500 0 l.length),(9,(.g (.int .i64 ((i:Nat)))))],ob:=lk [(500,.own 1 (l.map cS))] }) ?_ ?_
 ·refine ⟨_,LeS.kx [(500,208)] [(0,.s s),(1,(.g (.int .i64 ((at0))))),(2,(.g (.int .i64 ((n:Nat))))),(8,.arr 500 0 ([]).length),(9,(.g (.int .i64 (((0):Nat)))))] [(500,.own 1 (([]).map cS))] (by simp [KpR,renV2,renV,zcb,zby,zbt,zb0,cS];try (first | with_reducible rfl | omega|(simp;done))) (by simp [KpOX,renO,plO,cvO,renV,pl1,zbt,zb0,zcb,cS];try (first | with_reducible rfl | exact zbv l|(simp [cS];done) | trace_state)) (by rfl) (by simp) (by simp) (by rfl) (by simp [formsX,List.range_succ,zbt,zb0]),_,0,[],at0,rfl,?_,rfl⟩
  ·exact ⟨by omega,rfl,rfl⟩
 ·rintro mM sS ⟨i,l,a,rfl,⟨hin,hli,htx⟩,rfl⟩
  refine zbf ?_
  refine AW_x rfl rfl λK hK=>?_
  simp (disch:=omega) [zG16,cI,cS,zbd,zbv,-aAppZ]
  repeat' first|(refine ⟨by omega,?_⟩)|(intro _)
  refine hK _ ?_;clear hK K
  refine zbi rfl (λhc4=>?_) (λhc4=>?_)
  ·try simp [zG17,zbb,zba] at hc4
   all_goals
    refine zbj ?_
    refine zbo ?_
    refine zbf ?_
    refine zbm ?_
    refine AW_x rfl rfl λK hK=>?_
    simp (disch:=omega) [zG16,cI,cS,zbd,zbv,-aAppZ]
    repeat' first|(exfalso;omega)|(refine zb6 [] false [] (l4Take s a hs) ?_ ?_ ?_;(focus (simp [List.range_succ,nmC];done));(focus (simp (disch:=omega) [zG16,cI,cS,zbd,zbv,-aAppZ];done));simp (disch:=omega) [zG16,cI,cS,zbd,zbv,-aAppZ])|(refine ⟨λ_=>?_,λ_=>?_⟩)|(refine ⟨by omega,?_⟩)|(simp (disch:=omega) [zG16,cI,cS,zbd,zbv,-aAppZ])|(intro _)
    all_goals (refine hK _ ?_;clear hK K)
    all_goals
     refine zbf ?_
     refine AW_x rfl rfl λK hK=>?_
     simp (disch:=omega) [zG16,cI,cS,zbd,zbv,-aAppZ]
     repeat' first|(refine ⟨by omega,?_⟩)|(intro _)
     refine hK _ ?_;clear hK K
     refine zbi rfl (λhc5=>?_) (λhc5=>?_)
     ·try simp [zG17,zbb,zba] at hc5
      all_goals
       rw [readS_f htx (by omega) (by omega)]
       refine AW_x rfl rfl λK hK=>?_
       simp (disch:=omega) [zG16,cI,cS,zbd,zbv,-aAppZ]
       repeat' first|(exfalso;omega)|(refine ⟨λ_=>?_,λ_=>?_⟩)|(refine ⟨by omega,?_⟩)|(simp (disch:=omega) [zG16,cI,cS,zbd,zbv,-aAppZ])|(intro _)
       all_goals (refine hK _ ?_;clear hK K)
       all_goals
        refine zbl (zcd [500] [] (by simp [zG18]) (by simp) ?_)
        simp (disch:=omega) [zG16,cI,cS,zbd,zbv,-aAppZ]
        all_goals first | exact ⟨rfl,rfl,rfl⟩|(rw [←htx];exact ⟨rfl,rfl,rfl⟩) | omega | trace_state
     ·try simp [zG17,zbb,zba] at hc5
      all_goals
       refine zbj ?_
       refine zbo ?_
       refine AW_x rfl rfl λK hK=>?_
       simp (disch:=omega) [zG16,cI,cS,zbd,zbv,-aAppZ]
       repeat' first|(exfalso;omega)|(refine ⟨λ_=>?_,λ_=>?_⟩)|(refine ⟨by omega,?_⟩)|(simp (disch:=omega) [zG16,cI,cS,zbd,zbv,-aAppZ])|(intro _)
       all_goals (refine hK _ ?_;clear hK K)
       all_goals
        refine zdc rfl rfl λK hK=>?_
        simp (disch:=omega) [zG16,cI,cS,zbd,zbv,-aAppZ]
        repeat' first|(refine ⟨by omega,?_⟩)|(intro _)
        refine hK _ ?_;clear hK K
        refine zbo ?_
        refine zdc rfl rfl λK hK=>?_
        simp (disch:=omega) [zG16,cI,cS,zbd,zbv,-aAppZ]
        repeat' first|(refine ⟨by omega,?_⟩)|(intro _)
        refine hK _ ?_;clear hK K
        refine ⟨_,LeS.kx [(500,496)] [(0,.s s),(1,(.g (.int .i64 (((takeS s a).2))))),(2,(.g (.int .i64 ((n:Nat))))),(8,.arr 500 0 (l++[(takeS s a).1]).length),(9,(.g (.int .i64 (((i+1):Nat)))))] [(500,.own 1 ((l++[(takeS s a).1]).map cS))] (by simp [KpR,renV2,renV,zcb,zby,zbt,zb0,cS];try (first | with_reducible rfl | omega|(simp;done))) (by simp [KpOX,renO,plO,cvO,renV,pl1,zbt,zb0,zcb,cS];try (first | with_reducible rfl | exact zbv l|(simp [cS];done) | trace_state)) (by rfl) (by simp) (by simp) (by rfl) (by simp [formsX,List.range_succ,zbt,zb0]),_,?_,i+1,l++[(takeS s a).1],(takeS s a).2,rfl,?_,rfl⟩
        ·omega
        ·exact ⟨by omega,by simp;omega,readS_t htx (by omega) (by omega)⟩
  ·try simp [zG17,zbb,zba] at hc4
   all_goals
    have hN:n-i=0:=by omega
    rw [hN,readS] at htx
    refine zb4 ?_
    refine zbo ?_
    refine AW_x rfl rfl λK hK=>?_
    simp (disch:=omega) [zG16,cI,cS,zbd,zbv,-aAppZ]
    repeat' first|(exfalso;omega)|(refine ⟨λ_=>?_,λ_=>?_⟩)|(refine ⟨by omega,?_⟩)|(simp (disch:=omega) [zG16,cI,cS,zbd,zbv,-aAppZ])|(intro _)
    all_goals (refine hK _ ?_;clear hK K)
    all_goals
     refine zbl (zcd [500] [] (by simp [zG18]) (by simp) ?_)
     simp (disch:=omega) [zG16,cI,cS,zbd,zbv,-aAppZ]
     all_goals first | exact ⟨rfl,rfl,rfl⟩|(rw [←htx];exact ⟨rfl,rfl,rfl⟩) | omega | trace_state
end Go.Proofs.Ytchpfloemfoomaa.Vs
end
section
namespace Go.Proofs.Ytchpfloemfoomaa.Vs
set_option linter.all false
set_option maxRecDepth 100000
set_option maxHeartbeats 2000000
theorem zta(s:List UInt8)(a:Int) : -1≤(takeS s a).2∧(takeS s a).2≤s.length∧(takeS s a).1.length≤s.length:=by
 unfold takeS
 split
 ·simp
 ·rename_i h
  have hb:=zfv λhh=>h (.inl hh)
  have h2:¬((s.length:Int)-e1 s a<v1 s a):=λhh=>h (.inr hh)
  simp only [List.length_take,List.length_drop]
  omega
theorem zkl(s:List UInt8):∀(n:Nat) (x:List (List UInt8) × Int),x.2≤s.length→(readS s n x).2≤s.length∧(0≤(readS s n x).2→(readS s n x).1.length=x.1.length+n)
 | 0,x,h=>⟨h,λ_=>rfl⟩
 | n+1,x,h=>by
  rw [readS]
  split
  ·exact ⟨by simp only;omega,λh=>by simp only at h;omega⟩
  ·obtain ⟨h1,h2⟩:=zkl s n (x.1++[(takeS s x.2).1],(takeS s x.2).2) (zta s x.2).2.1
   refine ⟨h1,λh=>?_⟩
   rw [h2 h]
   simp;omega
noncomputable def snapS(s:List UInt8)(a:Int):DtCSnap × Int :=
 if bdV s (readS s 2 ([],a)).2=true∨4<v1 s (readS s 2 ([],a)).2∨(readS s (v1 s (readS s 2 ([],a)).2).toNat ([],e1 s (readS s 2 ([],a)).2)).2<0 then (⟨[],[],[]⟩,-1)
 else (⟨(readS s 2 ([],a)).1.getD 0 [],(readS s 2 ([],a)).1.getD 1 [],(readS s (v1 s (readS s 2 ([],a)).2).toNat ([],e1 s (readS s 2 ([],a)).2)).1⟩,(readS s (v1 s (readS s 2 ([],a)).2).toNat ([],e1 s (readS s 2 ([],a)).2)).2)
theorem l26Snap(s:List UInt8)(a:Int)(hs:s.length≤1048576)(ha:a≤s.length):XCall Try.prog 26 [.s s,(.g (.int .i64 (a)))] [] (.tup [.agg [.s (snapS s a).1.fName,.s (snapS s a).1.fTag,.arr 16 0 (snapS s a).1.fChunks.length],(.g (.int .i64 ((snapS s a).2)))]) [] [.own 1 ((snapS s a).1.fChunks.map cS)]:=by
 have ht:=zlx s a 2 hs (by omega)
 have htb:=(zkl s 2 ([],a) ha).2
 have hsn:snapS s a=snapS s a:=rfl
 conv at hsn=>rhs;unfold snapS
 obtain ⟨tl,ta,et⟩:∃tl ta,readS s 2 ([],a)=(tl,ta):=⟨_,_,rfl⟩
 simp only [et] at ht htb hsn
 have hl:=zlx s (e1 s ta) 0 hs (by omega)
 have hv:=zgg s ta 1 hs (by omega)
 by_cases hb:bdV s ta=true
 ·rw [zlw hb] at hv
  rw [if_pos (.inl hb)] at hsn
  rw [hsn]
  refine zbu Try.func26 (by rfl) (by rfl) (by rw [Try.ntmps26];exact Nat.le_of_ble_eq_true rfl) rfl (by simp) rfl rfl ?_
  rw [Try.ntmps26]
  refine zf1   ?_
  refine AW_k [(0,_),(1,_)] ⟨rfl,rfl,trivial⟩ ?_
  refine AW_x rfl rfl λK hK=>?_
  simp (disch:=omega) [zG16,cI,cS,DtCSnap.cells,zbd,zbv,-aAppZ]
  repeat' first|(refine ⟨by omega,?_⟩)|(intro _)
  refine hK _ ?_;clear hK K
  refine AW_x rfl rfl λK hK=>?_
  simp (disch:=omega) [zG16,cI,cS,DtCSnap.cells,zbd,zbv,-aAppZ]
  repeat' first|(exfalso;omega)|(refine zb6 [] false [] (ht) ?_ ?_ ?_;(focus (simp [List.range_succ,nmC];done));(focus (simp (disch:=omega) [zG16,cI,cS,DtCSnap.cells,zbd,zbv,-aAppZ];done));simp (disch:=omega) [zG16,cI,cS,DtCSnap.cells,zbd,zbv,-aAppZ])|(refine zb6 [] false [] (hl) ?_ ?_ ?_;(focus (simp [List.range_succ,nmC];done));(focus (simp (disch:=omega) [zG16,cI,cS,DtCSnap.cells,zbd,zbv,-aAppZ];done));simp (disch:=omega) [zG16,cI,cS,DtCSnap.cells,zbd,zbv,-aAppZ])|(refine ⟨by omega,?_⟩)|(simp (disch:=omega) [zG16,cI,cS,DtCSnap.cells,zbd,zbv,-aAppZ])|(intro _)
  refine hK _ ?_;clear hK K
  refine AW_x rfl rfl λK hK=>?_
  simp (disch:=omega) [zG16,cI,cS,DtCSnap.cells,zbd,zbv,-aAppZ]
  repeat' first|(exfalso;omega)|(refine zb6 [] false [] (hv) ?_ ?_ ?_;(focus (simp [List.range_succ,nmC];done));(focus (simp (disch:=omega) [zG16,cI,cS,DtCSnap.cells,zbd,zbv,-aAppZ];done));simp (disch:=omega) [zG16,cI,cS,DtCSnap.cells,zbd,zbv,-aAppZ])|(refine ⟨by omega,?_⟩)|(simp (disch:=omega) [zG16,cI,cS,DtCSnap.cells,zbd,zbv,-aAppZ])|(intro _)
  refine hK _ ?_;clear hK K
  refine zbf ?_
  refine AW_x rfl rfl λK hK=>?_
  simp (disch:=omega) [zG16,cI,cS,DtCSnap.cells,zbd,zbv,-aAppZ]
  repeat' first|(exfalso;omega)|(refine ⟨λ_=>?_,λ_=>?_⟩)|(refine ⟨by omega,?_⟩)|(simp (disch:=omega) [zG16,cI,cS,DtCSnap.cells,zbd,zbv,-aAppZ])|(intro _)
  all_goals (refine hK _ ?_;clear hK K)
  all_goals
   refine zbi rfl (λhc1=>?_) (λhc1=>?_)
   ·try simp [zG17,zbb,zba] at hc1
    all_goals
     refine AW_x rfl rfl λK hK=>?_
     simp (disch:=omega) [zG16,cI,cS,DtCSnap.cells,zbd,zbv,-aAppZ]
     repeat' first|(exfalso;omega)|(refine ⟨λ_=>?_,λ_=>?_⟩)|(refine ⟨by omega,?_⟩)|(simp (disch:=omega) [zG16,cI,cS,DtCSnap.cells,zbd,zbv,-aAppZ])|(intro _)
     all_goals (refine hK _ ?_;clear hK K)
     all_goals
      refine zbl (zcd [1000] [(1000,1)] (by simp [zG18]) (by simp) ?_)
      simp (disch:=omega) [zG16,cI,cS,DtCSnap.cells,zbd,zbv,-aAppZ]
      all_goals first | exact ⟨rfl,rfl,rfl⟩ | rfl | omega | trace_state
   ·try simp [zG17,zbb,zba] at hc1
    all_goals
     refine zbj ?_
     refine zbo ?_
     refine AW_x rfl rfl λK hK=>?_
     simp (disch:=omega) [zG16,cI,cS,DtCSnap.cells,zbd,zbv,-aAppZ]
     repeat' first|(exfalso;omega)|(refine zb6 [] false [] (ht) ?_ ?_ ?_;(focus (simp [List.range_succ,nmC];done));(focus (simp (disch:=omega) [zG16,cI,cS,DtCSnap.cells,zbd,zbv,-aAppZ];done));simp (disch:=omega) [zG16,cI,cS,DtCSnap.cells,zbd,zbv,-aAppZ])|(refine zb6 [] false [] (hl) ?_ ?_ ?_;(focus (simp [List.range_succ,nmC];done));(focus (simp (disch:=omega) [zG16,cI,cS,DtCSnap.cells,zbd,zbv,-aAppZ];done));simp (disch:=omega) [zG16,cI,cS,DtCSnap.cells,zbd,zbv,-aAppZ])|(refine ⟨λ_=>?_,λ_=>?_⟩)|(refine ⟨by omega,?_⟩)|(simp (disch:=omega) [zG16,cI,cS,DtCSnap.cells,zbd,zbv,-aAppZ])|(intro _)
     all_goals (refine hK _ ?_;clear hK K)
     all_goals
      refine zbf ?_
      refine AW_x rfl rfl λK hK=>?_
      simp (disch:=omega) [zG16,cI,cS,DtCSnap.cells,zbd,zbv,-aAppZ]
      repeat' first|(refine ⟨by omega,?_⟩)|(intro _)
      refine hK _ ?_;clear hK K
      refine zbi rfl (λhc2=>?_) (λhc2=>?_)
      ·try simp [zG17,zbb,zba] at hc2
       all_goals
        refine AW_x rfl rfl λK hK=>?_
        simp (disch:=omega) [zG16,cI,cS,DtCSnap.cells,zbd,zbv,-aAppZ]
        repeat' first|(exfalso;omega)|(refine ⟨λ_=>?_,λ_=>?_⟩)|(refine ⟨by omega,?_⟩)|(simp (disch:=omega) [zG16,cI,cS,DtCSnap.cells,zbd,zbv,-aAppZ])|(intro _)
        all_goals (refine hK _ ?_;clear hK K)
        all_goals
         refine zbl (zcd [1000] [(1000,1)] (by simp [zG18]) (by simp) ?_)
         simp (disch:=omega) [zG16,cI,cS,DtCSnap.cells,zbd,zbv,-aAppZ]
         all_goals first | exact ⟨rfl,rfl,rfl⟩ | rfl | omega | trace_state
      ·try simp [zG17,zbb,zba] at hc2
       all_goals
        refine zbj ?_
        refine zbo ?_
        refine AW_d rfl mix (by kernel_rfl) (by kernel_rfl) λK hK=>?_
        simp (disch:=omega) [zG16,cI,cS,DtCSnap.cells,zbd,zbv,-aAppZ]
        repeat' first|(exfalso;omega)|(refine ⟨λ_=>?_,λ_=>?_⟩)|(refine ⟨by omega,?_⟩)|(simp (disch:=omega) [zG16,cI,cS,DtCSnap.cells,zbd,zbv,-aAppZ])|(intro _)
        all_goals (refine hK _ _ (by kernel_rfl) ?_;clear hK K)
        all_goals
         refine zbl (zcd [592] [] (by simp [zG18]) (by simp) ?_)
         simp (disch:=omega) [zG16,cI,cS,DtCSnap.cells,zbd,zbv,-aAppZ]
         all_goals first | exact ⟨rfl,rfl,rfl⟩ | rfl | omega | trace_state
 ·rw [zfu hb] at hv
  have hbt:=zfv hb
  have h2:=htb (by omega)
  obtain ⟨x0,x1,rfl⟩:∃x0 x1,tl=[x0,x1]:=by
   match tl,h2 with
   | [x0,x1],_=>exact ⟨_,_,rfl⟩
  clear hl
  obtain ⟨K,hK⟩:∃K:Nat,v1 s ta=K:=Int.eq_ofNat_of_zero_le (by omega)
  rw [hK] at hsn hv hbt
  have he1:e1 s ta=e1 s ta:=rfl
  generalize e1 s ta=e at *
  by_cases h4:4<(K:Int)
  ·rw [if_pos (.inr (.inl h4))] at hsn
   rw [hsn]
   have hl:=zlx s e 0 hs (by omega)
   refine zbu Try.func26 (by rfl) (by rfl) (by rw [Try.ntmps26];exact Nat.le_of_ble_eq_true rfl) rfl (by simp) rfl rfl ?_
   rw [Try.ntmps26]
   refine zf1   ?_
   refine AW_k [(0,_),(1,_)] ⟨rfl,rfl,trivial⟩ ?_
   refine AW_x rfl rfl λK hK=>?_
   simp (disch:=omega) [zG16,cI,cS,DtCSnap.cells,zbd,zbv,-aAppZ]
   repeat' first|(refine ⟨by omega,?_⟩)|(intro _)
   refine hK _ ?_;clear hK K
   refine AW_x rfl rfl λK hK=>?_
   simp (disch:=omega) [zG16,cI,cS,DtCSnap.cells,zbd,zbv,-aAppZ]
   repeat' first|(exfalso;omega)|(refine zb6 [] false [] (ht) ?_ ?_ ?_;(focus (simp [List.range_succ,nmC];done));(focus (simp (disch:=omega) [zG16,cI,cS,DtCSnap.cells,zbd,zbv,-aAppZ];done));simp (disch:=omega) [zG16,cI,cS,DtCSnap.cells,zbd,zbv,-aAppZ])|(refine zb6 [] false [] (hl) ?_ ?_ ?_;(focus (simp [List.range_succ,nmC];done));(focus (simp (disch:=omega) [zG16,cI,cS,DtCSnap.cells,zbd,zbv,-aAppZ];done));simp (disch:=omega) [zG16,cI,cS,DtCSnap.cells,zbd,zbv,-aAppZ])|(refine ⟨by omega,?_⟩)|(simp (disch:=omega) [zG16,cI,cS,DtCSnap.cells,zbd,zbv,-aAppZ])|(intro _)
   refine hK _ ?_;clear hK K
   refine AW_x rfl rfl λK hK=>?_
   simp (disch:=omega) [zG16,cI,cS,DtCSnap.cells,zbd,zbv,-aAppZ]
   repeat' first|(exfalso;omega)|(refine zb6 [] false [] (hv) ?_ ?_ ?_;(focus (simp [List.range_succ,nmC];done));(focus (simp (disch:=omega) [zG16,cI,cS,DtCSnap.cells,zbd,zbv,-aAppZ];done));simp (disch:=omega) [zG16,cI,cS,DtCSnap.cells,zbd,zbv,-aAppZ])|(refine ⟨by omega,?_⟩)|(simp (disch:=omega) [zG16,cI,cS,DtCSnap.cells,zbd,zbv,-aAppZ])|(intro _)
   refine hK _ ?_;clear hK K
   refine zbf ?_
   refine AW_x rfl rfl λK hK=>?_
   simp (disch:=omega) [zG16,cI,cS,DtCSnap.cells,zbd,zbv,-aAppZ]
   repeat' first|(exfalso;omega)|(refine ⟨λ_=>?_,λ_=>?_⟩)|(refine ⟨by omega,?_⟩)|(simp (disch:=omega) [zG16,cI,cS,DtCSnap.cells,zbd,zbv,-aAppZ])|(intro _)
   all_goals (refine hK _ ?_;clear hK K)
   all_goals
    refine zbi rfl (λhc3=>?_) (λhc3=>?_)
    ·try simp [zG17,zbb,zba] at hc3
     all_goals
      refine AW_x rfl rfl λK hK=>?_
      simp (disch:=omega) [zG16,cI,cS,DtCSnap.cells,zbd,zbv,-aAppZ]
      repeat' first|(exfalso;omega)|(refine ⟨λ_=>?_,λ_=>?_⟩)|(refine ⟨by omega,?_⟩)|(simp (disch:=omega) [zG16,cI,cS,DtCSnap.cells,zbd,zbv,-aAppZ])|(intro _)
      all_goals (refine hK _ ?_;clear hK K)
      all_goals
       refine zbl (zcd [1000] [(1000,1)] (by simp [zG18]) (by simp) ?_)
       simp (disch:=omega) [zG16,cI,cS,DtCSnap.cells,zbd,zbv,-aAppZ]
       all_goals first | exact ⟨rfl,rfl,rfl⟩ | rfl | omega | trace_state
    ·try simp [zG17,zbb,zba] at hc3
     all_goals
      refine zbj ?_
      refine zbo ?_
      refine AW_x rfl rfl λK hK=>?_
      simp (disch:=omega) [zG16,cI,cS,DtCSnap.cells,zbd,zbv,-aAppZ]
      repeat' first|(exfalso;omega)|(refine zb6 [] false [] (ht) ?_ ?_ ?_;(focus (simp [List.range_succ,nmC];done));(focus (simp (disch:=omega) [zG16,cI,cS,DtCSnap.cells,zbd,zbv,-aAppZ];done));simp (disch:=omega) [zG16,cI,cS,DtCSnap.cells,zbd,zbv,-aAppZ])|(refine zb6 [] false [] (hl) ?_ ?_ ?_;(focus (simp [List.range_succ,nmC];done));(focus (simp (disch:=omega) [zG16,cI,cS,DtCSnap.cells,zbd,zbv,-aAppZ];done));simp (disch:=omega) [zG16,cI,cS,DtCSnap.cells,zbd,zbv,-aAppZ])|(refine ⟨λ_=>?_,λ_=>?_⟩)|(refine ⟨by omega,?_⟩)|(simp (disch:=omega) [zG16,cI,cS,DtCSnap.cells,zbd,zbv,-aAppZ])|(intro _)
      all_goals (refine hK _ ?_;clear hK K)
      all_goals
       refine zbf ?_
       refine AW_x rfl rfl λK hK=>?_
       simp (disch:=omega) [zG16,cI,cS,DtCSnap.cells,zbd,zbv,-aAppZ]
       repeat' first|(refine ⟨by omega,?_⟩)|(intro _)
       refine hK _ ?_;clear hK K
       refine zbi rfl (λhc4=>?_) (λhc4=>?_)
       ·try simp [zG17,zbb,zba] at hc4
        all_goals
         refine AW_x rfl rfl λK hK=>?_
         simp (disch:=omega) [zG16,cI,cS,DtCSnap.cells,zbd,zbv,-aAppZ]
         repeat' first|(exfalso;omega)|(refine ⟨λ_=>?_,λ_=>?_⟩)|(refine ⟨by omega,?_⟩)|(simp (disch:=omega) [zG16,cI,cS,DtCSnap.cells,zbd,zbv,-aAppZ])|(intro _)
         all_goals (refine hK _ ?_;clear hK K)
         all_goals
          refine zbl (zcd [1000] [(1000,1)] (by simp [zG18]) (by simp) ?_)
          simp (disch:=omega) [zG16,cI,cS,DtCSnap.cells,zbd,zbv,-aAppZ]
          all_goals first | exact ⟨rfl,rfl,rfl⟩ | rfl | omega | trace_state
       ·try simp [zG17,zbb,zba] at hc4
        all_goals
         refine zbj ?_
         refine zbo ?_
         refine AW_d rfl mix (by kernel_rfl) (by kernel_rfl) λK hK=>?_
         simp (disch:=omega) [zG16,cI,cS,DtCSnap.cells,zbd,zbv,-aAppZ]
         repeat' first|(exfalso;omega)|(refine ⟨λ_=>?_,λ_=>?_⟩)|(refine ⟨by omega,?_⟩)|(simp (disch:=omega) [zG16,cI,cS,DtCSnap.cells,zbd,zbv,-aAppZ])|(intro _)
         all_goals (refine hK _ _ (by kernel_rfl) ?_;clear hK K)
         all_goals
          refine zbl (zcd [592] [] (by simp [zG18]) (by simp) ?_)
          simp (disch:=omega) [zG16,cI,cS,DtCSnap.cells,zbd,zbv,-aAppZ]
          all_goals first | exact ⟨rfl,rfl,rfl⟩ | rfl | omega | trace_state
  ·have hl:=zlx s e K hs (by omega)
   rw [Int.toNat_natCast] at hsn
   obtain ⟨l,a2,el⟩:∃l a2,readS s K ([],e)=(l,a2):=⟨_,_,rfl⟩
   simp only [el] at hl hsn
   by_cases h5:a2<0
   ·rw [if_pos (.inr (.inr h5))] at hsn
    rw [hsn]
    refine zbu Try.func26 (by rfl) (by rfl) (by rw [Try.ntmps26];exact Nat.le_of_ble_eq_true rfl) rfl (by simp) rfl rfl ?_
    rw [Try.ntmps26]
    refine zf1   ?_
    refine AW_k [(0,_),(1,_)] ⟨rfl,rfl,trivial⟩ ?_
    refine AW_x rfl rfl λK hK=>?_
    simp (disch:=omega) [zG16,cI,cS,DtCSnap.cells,zbd,zbv,-aAppZ]
    repeat' first|(refine ⟨by omega,?_⟩)|(intro _)
    refine hK _ ?_;clear hK K
    refine AW_x rfl rfl λK hK=>?_
    simp (disch:=omega) [zG16,cI,cS,DtCSnap.cells,zbd,zbv,-aAppZ]
    repeat' first|(exfalso;omega)|(refine zb6 [] false [] (ht) ?_ ?_ ?_;(focus (simp [List.range_succ,nmC];done));(focus (simp (disch:=omega) [zG16,cI,cS,DtCSnap.cells,zbd,zbv,-aAppZ];done));simp (disch:=omega) [zG16,cI,cS,DtCSnap.cells,zbd,zbv,-aAppZ])|(refine zb6 [] false [] (hl) ?_ ?_ ?_;(focus (simp [List.range_succ,nmC];done));(focus (simp (disch:=omega) [zG16,cI,cS,DtCSnap.cells,zbd,zbv,-aAppZ];done));simp (disch:=omega) [zG16,cI,cS,DtCSnap.cells,zbd,zbv,-aAppZ])|(refine ⟨by omega,?_⟩)|(simp (disch:=omega) [zG16,cI,cS,DtCSnap.cells,zbd,zbv,-aAppZ])|(intro _)
    refine hK _ ?_;clear hK K
    refine AW_x rfl rfl λK hK=>?_
    simp (disch:=omega) [zG16,cI,cS,DtCSnap.cells,zbd,zbv,-aAppZ]
    repeat' first|(exfalso;omega)|(refine zb6 [] false [] (hv) ?_ ?_ ?_;(focus (simp [List.range_succ,nmC];done));(focus (simp (disch:=omega) [zG16,cI,cS,DtCSnap.cells,zbd,zbv,-aAppZ];done));simp (disch:=omega) [zG16,cI,cS,DtCSnap.cells,zbd,zbv,-aAppZ])|(refine ⟨by omega,?_⟩)|(simp (disch:=omega) [zG16,cI,cS,DtCSnap.cells,zbd,zbv,-aAppZ])|(intro _)
    refine hK _ ?_;clear hK K
    refine zbf ?_
    refine AW_x rfl rfl λK hK=>?_
    simp (disch:=omega) [zG16,cI,cS,DtCSnap.cells,zbd,zbv,-aAppZ]
    repeat' first|(exfalso;omega)|(refine ⟨λ_=>?_,λ_=>?_⟩)|(refine ⟨by omega,?_⟩)|(simp (disch:=omega) [zG16,cI,cS,DtCSnap.cells,zbd,zbv,-aAppZ])|(intro _)
    all_goals (refine hK _ ?_;clear hK K)
    all_goals
     refine zbi rfl (λhc5=>?_) (λhc5=>?_)
     ·try simp [zG17,zbb,zba] at hc5
      all_goals
       refine AW_x rfl rfl λK hK=>?_
       simp (disch:=omega) [zG16,cI,cS,DtCSnap.cells,zbd,zbv,-aAppZ]
       repeat' first|(exfalso;omega)|(refine ⟨λ_=>?_,λ_=>?_⟩)|(refine ⟨by omega,?_⟩)|(simp (disch:=omega) [zG16,cI,cS,DtCSnap.cells,zbd,zbv,-aAppZ])|(intro _)
       all_goals (refine hK _ ?_;clear hK K)
       all_goals
        refine zbl (zcd [1000] [(1000,1)] (by simp [zG18]) (by simp) ?_)
        simp (disch:=omega) [zG16,cI,cS,DtCSnap.cells,zbd,zbv,-aAppZ]
        all_goals first | exact ⟨rfl,rfl,rfl⟩ | rfl | omega | trace_state
     ·try simp [zG17,zbb,zba] at hc5
      all_goals
       refine zbj ?_
       refine zbo ?_
       refine AW_x rfl rfl λK hK=>?_
       simp (disch:=omega) [zG16,cI,cS,DtCSnap.cells,zbd,zbv,-aAppZ]
       repeat' first|(exfalso;omega)|(refine zb6 [] false [] (ht) ?_ ?_ ?_;(focus (simp [List.range_succ,nmC];done));(focus (simp (disch:=omega) [zG16,cI,cS,DtCSnap.cells,zbd,zbv,-aAppZ];done));simp (disch:=omega) [zG16,cI,cS,DtCSnap.cells,zbd,zbv,-aAppZ])|(refine zb6 [] false [] (hl) ?_ ?_ ?_;(focus (simp [List.range_succ,nmC];done));(focus (simp (disch:=omega) [zG16,cI,cS,DtCSnap.cells,zbd,zbv,-aAppZ];done));simp (disch:=omega) [zG16,cI,cS,DtCSnap.cells,zbd,zbv,-aAppZ])|(refine ⟨λ_=>?_,λ_=>?_⟩)|(refine ⟨by omega,?_⟩)|(simp (disch:=omega) [zG16,cI,cS,DtCSnap.cells,zbd,zbv,-aAppZ])|(intro _)
       all_goals (refine hK _ ?_;clear hK K)
       all_goals
        refine zbf ?_
        refine AW_x rfl rfl λK hK=>?_
        simp (disch:=omega) [zG16,cI,cS,DtCSnap.cells,zbd,zbv,-aAppZ]
        repeat' first|(refine ⟨by omega,?_⟩)|(intro _)
        refine hK _ ?_;clear hK K
        refine zbi rfl (λhc6=>?_) (λhc6=>?_)
        ·try simp [zG17,zbb,zba] at hc6
         all_goals
          refine AW_x rfl rfl λK hK=>?_
          simp (disch:=omega) [zG16,cI,cS,DtCSnap.cells,zbd,zbv,-aAppZ]
          repeat' first|(exfalso;omega)|(refine ⟨λ_=>?_,λ_=>?_⟩)|(refine ⟨by omega,?_⟩)|(simp (disch:=omega) [zG16,cI,cS,DtCSnap.cells,zbd,zbv,-aAppZ])|(intro _)
          all_goals (refine hK _ ?_;clear hK K)
          all_goals
           refine zbl (zcd [1000] [(1000,1)] (by simp [zG18]) (by simp) ?_)
           simp (disch:=omega) [zG16,cI,cS,DtCSnap.cells,zbd,zbv,-aAppZ]
           all_goals first | exact ⟨rfl,rfl,rfl⟩ | rfl | omega | trace_state
        ·try simp [zG17,zbb,zba] at hc6
         all_goals
          refine zbj ?_
          refine zbo ?_
          refine AW_d rfl mix (by kernel_rfl) (by kernel_rfl) λK hK=>?_
          simp (disch:=omega) [zG16,cI,cS,DtCSnap.cells,zbd,zbv,-aAppZ]
          repeat' first|(exfalso;omega)|(refine ⟨λ_=>?_,λ_=>?_⟩)|(refine ⟨by omega,?_⟩)|(simp (disch:=omega) [zG16,cI,cS,DtCSnap.cells,zbd,zbv,-aAppZ])|(intro _)
          all_goals (refine hK _ _ (by kernel_rfl) ?_;clear hK K)
          all_goals
           refine zbl (zcd [592] [] (by simp [zG18]) (by simp) ?_)
           simp (disch:=omega) [zG16,cI,cS,DtCSnap.cells,zbd,zbv,-aAppZ]
           all_goals first | exact ⟨rfl,rfl,rfl⟩ | rfl | omega | trace_state
   ·rw [if_neg (by rintro (h | h | h)<;>first | exact hb h | omega)] at hsn
    rw [hsn]
    refine zbu Try.func26 (by rfl) (by rfl) (by rw [Try.ntmps26];exact Nat.le_of_ble_eq_true rfl) rfl (by simp) rfl rfl ?_
    rw [Try.ntmps26]
    refine zf1   ?_
    refine AW_k [(0,_),(1,_)] ⟨rfl,rfl,trivial⟩ ?_
    refine AW_x rfl rfl λK hK=>?_
    simp (disch:=omega) [zG16,cI,cS,DtCSnap.cells,zbd,zbv,-aAppZ]
    repeat' first|(refine ⟨by omega,?_⟩)|(intro _)
    refine hK _ ?_;clear hK K
    refine AW_x rfl rfl λK hK=>?_
    simp (disch:=omega) [zG16,cI,cS,DtCSnap.cells,zbd,zbv,-aAppZ]
    repeat' first|(exfalso;omega)|(refine zb6 [] false [] (ht) ?_ ?_ ?_;(focus (simp [List.range_succ,nmC];done));(focus (simp (disch:=omega) [zG16,cI,cS,DtCSnap.cells,zbd,zbv,-aAppZ];done));simp (disch:=omega) [zG16,cI,cS,DtCSnap.cells,zbd,zbv,-aAppZ])|(refine zb6 [] false [] (hl) ?_ ?_ ?_;(focus (simp [List.range_succ,nmC];done));(focus (simp (disch:=omega) [zG16,cI,cS,DtCSnap.cells,zbd,zbv,-aAppZ];done));simp (disch:=omega) [zG16,cI,cS,DtCSnap.cells,zbd,zbv,-aAppZ])|(refine ⟨by omega,?_⟩)|(simp (disch:=omega) [zG16,cI,cS,DtCSnap.cells,zbd,zbv,-aAppZ])|(intro _)
    refine hK _ ?_;clear hK K
    refine AW_x rfl rfl λK hK=>?_
    simp (disch:=omega) [zG16,cI,cS,DtCSnap.cells,zbd,zbv,-aAppZ]
    repeat' first|(exfalso;omega)|(refine zb6 [] false [] (hv) ?_ ?_ ?_;(focus (simp [List.range_succ,nmC];done));(focus (simp (disch:=omega) [zG16,cI,cS,DtCSnap.cells,zbd,zbv,-aAppZ];done));simp (disch:=omega) [zG16,cI,cS,DtCSnap.cells,zbd,zbv,-aAppZ])|(refine ⟨by omega,?_⟩)|(simp (disch:=omega) [zG16,cI,cS,DtCSnap.cells,zbd,zbv,-aAppZ])|(intro _)
    refine hK _ ?_;clear hK K
    refine zbf ?_
    refine AW_x rfl rfl λK hK=>?_
    simp (disch:=omega) [zG16,cI,cS,DtCSnap.cells,zbd,zbv,-aAppZ]
    repeat' first|(exfalso;omega)|(refine ⟨λ_=>?_,λ_=>?_⟩)|(refine ⟨by omega,?_⟩)|(simp (disch:=omega) [zG16,cI,cS,DtCSnap.cells,zbd,zbv,-aAppZ])|(intro _)
    all_goals (refine hK _ ?_;clear hK K)
    all_goals
     refine zbi rfl (λhc7=>?_) (λhc7=>?_)
     ·try simp [zG17,zbb,zba] at hc7
      all_goals
       refine AW_x rfl rfl λK hK=>?_
       simp (disch:=omega) [zG16,cI,cS,DtCSnap.cells,zbd,zbv,-aAppZ]
       repeat' first|(exfalso;omega)|(refine ⟨λ_=>?_,λ_=>?_⟩)|(refine ⟨by omega,?_⟩)|(simp (disch:=omega) [zG16,cI,cS,DtCSnap.cells,zbd,zbv,-aAppZ])|(intro _)
       all_goals (refine hK _ ?_;clear hK K)
       all_goals
        refine zbl (zcd [1000] [(1000,1)] (by simp [zG18]) (by simp) ?_)
        simp (disch:=omega) [zG16,cI,cS,DtCSnap.cells,zbd,zbv,-aAppZ]
        all_goals first | exact ⟨rfl,rfl,rfl⟩ | rfl | omega | trace_state
     ·try simp [zG17,zbb,zba] at hc7
      all_goals
       refine zbj ?_
       refine zbo ?_
       refine AW_x rfl rfl λK hK=>?_
       simp (disch:=omega) [zG16,cI,cS,DtCSnap.cells,zbd,zbv,-aAppZ]
       repeat' first|(exfalso;omega)|(refine zb6 [] false [] (ht) ?_ ?_ ?_;(focus (simp [List.range_succ,nmC];done));(focus (simp (disch:=omega) [zG16,cI,cS,DtCSnap.cells,zbd,zbv,-aAppZ];done));simp (disch:=omega) [zG16,cI,cS,DtCSnap.cells,zbd,zbv,-aAppZ])|(refine zb6 [] false [] (hl) ?_ ?_ ?_;(focus (simp [List.range_succ,nmC];done));(focus (simp (disch:=omega) [zG16,cI,cS,DtCSnap.cells,zbd,zbv,-aAppZ];done));simp (disch:=omega) [zG16,cI,cS,DtCSnap.cells,zbd,zbv,-aAppZ])|(refine ⟨λ_=>?_,λ_=>?_⟩)|(refine ⟨by omega,?_⟩)|(simp (disch:=omega) [zG16,cI,cS,DtCSnap.cells,zbd,zbv,-aAppZ])|(intro _)
       all_goals (refine hK _ ?_;clear hK K)
       all_goals
        refine zbf ?_
        refine AW_x rfl rfl λK hK=>?_
        simp (disch:=omega) [zG16,cI,cS,DtCSnap.cells,zbd,zbv,-aAppZ]
        repeat' first|(refine ⟨by omega,?_⟩)|(intro _)
        refine hK _ ?_;clear hK K
        refine zbi rfl (λhc8=>?_) (λhc8=>?_)
        ·try simp [zG17,zbb,zba] at hc8
         all_goals
          refine AW_x rfl rfl λK hK=>?_
          simp (disch:=omega) [zG16,cI,cS,DtCSnap.cells,zbd,zbv,-aAppZ]
          repeat' first|(exfalso;omega)|(refine ⟨λ_=>?_,λ_=>?_⟩)|(refine ⟨by omega,?_⟩)|(simp (disch:=omega) [zG16,cI,cS,DtCSnap.cells,zbd,zbv,-aAppZ])|(intro _)
          all_goals (refine hK _ ?_;clear hK K)
          all_goals
           refine zbl (zcd [1000] [(1000,1)] (by simp [zG18]) (by simp) ?_)
           simp (disch:=omega) [zG16,cI,cS,DtCSnap.cells,zbd,zbv,-aAppZ]
           all_goals first | exact ⟨rfl,rfl,rfl⟩ | rfl | omega | trace_state
        ·try simp [zG17,zbb,zba] at hc8
         all_goals
          refine zbj ?_
          refine zbo ?_
          refine AW_d rfl mix (by kernel_rfl) (by kernel_rfl) λK hK=>?_
          simp (disch:=omega) [zG16,cI,cS,DtCSnap.cells,zbd,zbv,-aAppZ]
          repeat' first|(exfalso;omega)|(refine ⟨λ_=>?_,λ_=>?_⟩)|(refine ⟨by omega,?_⟩)|(simp (disch:=omega) [zG16,cI,cS,DtCSnap.cells,zbd,zbv,-aAppZ])|(intro _)
          all_goals (refine hK _ _ (by kernel_rfl) ?_;clear hK K)
          all_goals
           refine zbl (zcd [592] [] (by simp [zG18]) (by simp) ?_)
           simp (disch:=omega) [zG16,cI,cS,DtCSnap.cells,zbd,zbv,-aAppZ]
           all_goals first | exact ⟨rfl,rfl,rfl⟩ | rfl | omega | trace_state
end Go.Proofs.Ytchpfloemfoomaa.Vs
end
