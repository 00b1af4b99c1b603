import Derived.Test.YtchpfloemfoomaaSM4
section
namespace Go.Proofs.Ytchpfloemfoomaa.Vs
set_option linter.all false
set_option maxRecDepth 100000
set_option maxHeartbeats 2000000
/-! The reader of the program: what is left, and is it spoilt? -/
abbrev Sc:=List UInt8 × Bool
def scC(x:Sc):List AV:=[.s x.1,.g (.bool x.2)]
attribute [local simp] scC
theorem zh0{α:Type}(r:List α)(k:Nat):List.take (r.length-k) (List.drop k r)=List.drop k r:=List.take_of_length_le (by simp)
noncomputable def numI(x:Sc):Int × Sc:=if x.2=true∨(RV x.1).2=0 then (0,(x.1,true)) else ((RV x.1).1,(x.1.drop (RV x.1).2.toNat,false))
def cutI(n:Int)(x:Sc):List UInt8 × Sc:=if x.2=true∨n<0∨(x.1.length:Int)<n then ([],(x.1,true)) else (x.1.take n.toNat,(x.1.drop n.toNat,false))
noncomputable def textI(x:Sc):List UInt8 × Sc:=cutI (numI x).1 (numI x).2
noncomputable def manyI(most:Int)(x:Sc):Int × Sc:=if most<(numI x).1∨(numI x).2.2=true then (0,((numI x).2.1,true)) else ((numI x).1,((numI x).2.1,false))
theorem zgd(x:Sc):(numI x).2.1.length≤x.1.length:=by
 unfold numI
 split
 ·exact Nat.le_refl _
 ·simp
theorem zjo{P:Program}{f:FuncId}{args:List AV}{wos wos' fos:List OB}{r:AV}(h:XCallE P f args wos fos.length (λr' w' f'=>r'=r∧w'=wos'∧f'=fos))(hlen:wos'.length=wos.length)(hxk':(wos'++fos).all OB.xk=true):XCall P f args wos r wos' fos:=by
 obtain ⟨h1,h2,h3⟩:=h
 refine ⟨h1,hlen,h2,hxk',λw I β χ vs g1 g2 g3 g4 g5 g6 g7=>(h3 w I β χ vs g1 g2 g3 g4 g5 g6 g7).mono ?_⟩
 rintro e w' ⟨r',w'',f',⟨rfl,rfl,rfl⟩,-,-,-,hh⟩
 exact hh
def zG14:=And.intro @zce (And.intro @gE (And.intro @tP (And.intro @zh0 (And.intro @and_assoc (And.intro @List.range_succ (And.intro @zbz (And.intro @zbk @zbh)))))))
def zG15:=And.intro @zbt (And.intro @zb0 @zcb)
theorem scanNumE(r:List UInt8)(b:Bool)(hs:r.length≤1048576):XCallE Try.prog 15 [.ptr 8 0] [.cells [.s r,(.g (.bool (b)))]] 0 (λr' w f=>r'=(.g (.int .i64 ((numI (r,b)).1)))∧w=[.cells (scC (numI (r,b)).2)]∧f=[]):=by
 refine zdt Try.func15 (by rfl) (by rfl) (by rw [Try.ntmps15];exact Nat.le_of_ble_eq_true rfl) (by simp) rfl ?_
 rw [Try.ntmps15]
 refine zlg (.cells [.s r,(.g (.bool (b)))]) (by simp [cvO]<;>assumption) ?_
 refine AW_k [(0,_)] ⟨rfl,trivial⟩ ?_
 refine AW_x rfl rfl λK hK=>?_
 simp (disch:=omega) [zG14,scC]
 repeat' first|(refine ⟨by omega,?_⟩)|(intro _)
 refine hK _ ?_;clear hK K
 have hv:=zxu r
 refine AW_x rfl rfl λK hK=>?_
 simp (disch:=omega) [zG14,scC]
 repeat' first|(exfalso;omega)|(refine zgh (zbe zg6 zbn) (zlu r hs) rfl ?_;simp (disch:=omega) [zG14,scC])|(refine zgi (zlu r hs) (by rfl) ?_ ?_;(focus (simp (disch:=omega) [zG14,scC];done));simp (disch:=omega) [zG14,scC])|(refine ⟨by omega,?_⟩)|(simp (disch:=omega) [zG14,scC])|(intro _)
 refine hK _ ?_;clear hK K
 refine zbf ?_
 refine AW_x rfl rfl λK hK=>?_
 simp (disch:=omega) [zG14,scC]
 repeat' first|(exfalso;omega)|(refine ⟨λ_=>?_,λ_=>?_⟩)|(refine ⟨by omega,?_⟩)|(simp (disch:=omega) [zG14,scC])|(intro _)
 all_goals (refine hK _ ?_;clear hK K)
 all_goals
  refine zbi rfl (λhc1=>?_) (λhc1=>?_)
  ·try simp [zbk,zbh,zbb,zba] at hc1
   all_goals
    refine AW_x rfl rfl λK hK=>?_
    simp (disch:=omega) [zG14,scC]
    repeat' first|(exfalso;omega)|(refine ⟨λ_=>?_,λ_=>?_⟩)|(refine ⟨by omega,?_⟩)|(simp (disch:=omega) [zG14,scC])|(intro _)
    all_goals (refine hK _ ?_;clear hK K)
    all_goals
     refine AW_x rfl rfl λK hK=>?_
     simp (disch:=omega) [zG14,scC]
     repeat' first|(refine ⟨by omega,?_⟩)|(intro _)
     refine hK _ ?_;clear hK K
     refine zbl ⟨((.g (.int .i64 ((0:Int))))),[.cells [.s r,(.g (.bool (true)))]],[],?po,(by simp),(by simp),(by simp [OB.xk]),(zcd [] [] (by simp [zG15,List.range_succ]) (by simp) ?en)⟩
     case en =>
      simp (disch:=omega) [zG14,scC]
      all_goals first | omega | trace_state
     case po=>first|(simp_all [numI,scC];done)
  ·try simp [zbk,zbh,zbb,zba] at hc1
   all_goals
    refine zbj ?_
    refine zbo ?_
    refine AW_x rfl rfl λK hK=>?_
    simp (disch:=omega) [zG14,scC]
    repeat' first|(exfalso;omega)|(refine ⟨λ_=>?_,λ_=>?_⟩)|(refine ⟨by omega,?_⟩)|(simp (disch:=omega) [zG14,scC])|(intro _)
    all_goals (refine hK _ ?_;clear hK K)
    all_goals
     refine AW_x rfl rfl λK hK=>?_
     simp (disch:=omega) [zG14,scC]
     repeat' first|(refine ⟨by omega,?_⟩)|(intro _)
     refine hK _ ?_;clear hK K
     refine zbl ⟨((.g (.int .i64 ((RV r).1)))),[.cells [.s (r.drop (RV r).2.toNat),(.g (.bool (b)))]],[],?po,(by simp),(by simp),(by simp [OB.xk]),(zcd [] [] (by simp [zG15,List.range_succ]) (by simp) ?en)⟩
     case en =>
      simp (disch:=omega) [zG14,scC]
      all_goals first | omega | trace_state
     case po=>first|(simp_all [numI,scC];done)
theorem zr9(r:List UInt8)(b:Bool)(hs:r.length≤1048576):XCall Try.prog 15 [.ptr 8 0] [.cells [.s r,(.g (.bool (b)))]] (.g (.int .i64 ((numI (r,b)).1))) [.cells (scC (numI (r,b)).2)] []:=zjo (scanNumE r b hs) rfl rfl
theorem scanCutE(r:List UInt8)(b:Bool)(n:Int)(hs:r.length≤1048576):XCallE Try.prog 33 [.ptr 8 0,(.g (.int .i64 (n)))] [.cells [.s r,(.g (.bool (b)))]] 0 (λr' w f=>r'=.s (cutI n (r,b)).1∧w=[.cells (scC (cutI n (r,b)).2)]∧f=[]):=by
 refine zdt Try.func33 (by rfl) (by rfl) (by rw [Try.ntmps33];exact Nat.le_of_ble_eq_true rfl) (by simp) rfl ?_
 rw [Try.ntmps33]
 refine zlg (.cells [.s r,(.g (.bool (b)))]) (by simp [cvO]<;>assumption) ?_
 refine AW_k [(0,_),(1,_)] ⟨rfl,rfl,trivial⟩ ?_
 refine AW_x rfl rfl λK hK=>?_
 simp (disch:=omega) [zG14,scC]
 repeat' first|(refine ⟨by omega,?_⟩)|(intro _)
 refine hK _ ?_;clear hK K
 refine zbf ?_
 refine AW_x rfl rfl λK hK=>?_
 simp (disch:=omega) [zG14,scC]
 repeat' first|(exfalso;omega)|(refine zgh (zbe zch (zbe zch (zbe zch zbn))) (zlo _ _ _) rfl ?_;simp (disch:=omega) [zG14,scC])|(refine zgi (zlo _ _ _) (by rfl) ?_ ?_;(focus (simp (disch:=omega) [zG14,scC];done));simp (disch:=omega) [zG14,scC])|(refine ⟨λ_=>?_,λ_=>?_⟩)|(refine ⟨by omega,?_⟩)|(simp (disch:=omega) [zG14,scC])|(intro _)
 all_goals (refine hK _ ?_;clear hK K)
 all_goals
  refine zbi rfl (λhc2=>?_) (λhc2=>?_)
  ·try simp [zbk,zbh,zbb,zba] at hc2
   all_goals
    refine AW_x rfl rfl λK hK=>?_
    simp (disch:=omega) [zG14,scC]
    repeat' first|(exfalso;omega)|(refine ⟨λ_=>?_,λ_=>?_⟩)|(refine ⟨by omega,?_⟩)|(simp (disch:=omega) [zG14,scC])|(intro _)
    all_goals (refine hK _ ?_;clear hK K)
    all_goals
     refine AW_x rfl rfl λK hK=>?_
     simp (disch:=omega) [zG14,scC]
     repeat' first|(refine ⟨by omega,?_⟩)|(intro _)
     refine hK _ ?_;clear hK K
     refine zbl ⟨(.s []),[.cells [.s r,(.g (.bool (true)))]],[],?po,(by simp),(by simp),(by simp [OB.xk]),(zcd [] [] (by simp [zG15,List.range_succ]) (by simp) ?en)⟩
     case en =>
      simp (disch:=omega) [zG14,scC]
      all_goals first | omega | trace_state
     case po=>first|(simp_all [cutI,scC];done)|(have hne:¬(b=true∨n<0∨(r.length:Int)<n):=(λh=>h.elim (λh=>by simp_all) (λh=>by omega));simp only [cutI,if_neg hne];simp_all [scC];done)
  ·try simp [zbk,zbh,zbb,zba] at hc2
   all_goals
    refine zbj ?_
    refine zbo ?_
    refine AW_x rfl rfl λK hK=>?_
    simp (disch:=omega) [zG14,scC]
    repeat' first|(exfalso;omega)|(refine ⟨λ_=>?_,λ_=>?_⟩)|(refine ⟨by omega,?_⟩)|(simp (disch:=omega) [zG14,scC])|(intro _)
    all_goals (refine hK _ ?_;clear hK K)
    all_goals
     refine AW_x rfl rfl λK hK=>?_
     simp (disch:=omega) [zG14,scC]
     repeat' first|(refine ⟨by omega,?_⟩)|(simp (disch:=omega) [zG14,scC])|(intro _)
     refine hK _ ?_;clear hK K
     refine AW_x rfl rfl λK hK=>?_
     simp (disch:=omega) [zG14,scC]
     repeat' first|(refine ⟨by omega,?_⟩)|(intro _)
     refine hK _ ?_;clear hK K
     refine zbl ⟨(.s (r.take n.toNat)),[.cells [.s (r.drop n.toNat),(.g (.bool (b)))]],[],?po,(by simp),(by simp),(by simp [OB.xk]),(zcd [] [] (by simp [zG15,List.range_succ]) (by simp) ?en)⟩
     case en =>
      simp (disch:=omega) [zG14,scC]
      all_goals first | omega | trace_state
     case po=>first|(simp_all [cutI,scC];done)|(have hne:¬(b=true∨n<0∨(r.length:Int)<n):=(λh=>h.elim (λh=>by simp_all) (λh=>by omega));simp only [cutI,if_neg hne];simp_all [scC];done)
theorem scanCut(r:List UInt8)(b:Bool)(n:Int)(hs:r.length≤1048576):XCall Try.prog 33 [.ptr 8 0,(.g (.int .i64 (n)))] [.cells [.s r,(.g (.bool (b)))]] (.s (cutI n (r,b)).1) [.cells (scC (cutI n (r,b)).2)] []:=zjo (scanCutE r b n hs) rfl rfl
theorem scanText(r:List UInt8)(b:Bool)(hs:r.length≤1048576):XCall Try.prog 16 [.ptr 8 0] [.cells [.s r,(.g (.bool (b)))]] (.s (textI (r,b)).1) [.cells (scC (textI (r,b)).2)] []:=by
 refine zbu Try.func16 (by rfl) (by rfl) (by rw [Try.ntmps16];exact Nat.le_of_ble_eq_true rfl) rfl (by simp) rfl rfl ?_
 rw [Try.ntmps16]
 refine zlg (.cells [.s r,(.g (.bool (b)))]) (by simp [cvO]<;>assumption) ?_
 refine AW_k [(0,_)] ⟨rfl,trivial⟩ ?_
 refine AW_x rfl rfl λK hK=>?_
 simp (disch:=omega) [zG14,scC]
 repeat' first|(refine ⟨by omega,?_⟩)|(intro _)
 refine hK _ ?_;clear hK K
 refine AW_x rfl rfl λK hK=>?_
 simp (disch:=omega) [zG14,scC]
 repeat' first|(exfalso;omega)|(refine zb6 [8] false [] (zr9 r b hs) ?_ ?_ ?_;(focus (simp [List.range_succ,nmC];done));(focus (simp (disch:=omega) [zG14,scC];done));simp (disch:=omega) [zG14,scC])|(refine ⟨by omega,?_⟩)|(simp (disch:=omega) [zG14,scC])|(intro _)
 refine hK _ ?_;clear hK K
 refine AW_x rfl rfl λK hK=>?_
 simp (disch:=omega) [zG14,scC]
 repeat' first|(exfalso;omega)|(refine zb6 [8] false [] (scanCut (numI (r,b)).2.1 (numI (r,b)).2.2 (numI (r,b)).1 (by have:=zgd (r,b);simp only at this;omega)) ?_ ?_ ?_;(focus (simp [List.range_succ,nmC];done));(focus (simp (disch:=omega) [zG14,scC];done));simp (disch:=omega) [zG14,scC])|(refine ⟨by omega,?_⟩)|(simp (disch:=omega) [zG14,scC])|(intro _)
 refine hK _ ?_;clear hK K
 refine zbl (zcd [] [] (by simp [zG15,List.range_succ]) (by simp) ?_)
 simp (disch:=omega) [zG14,scC]
 all_goals first | rfl|(simp_all [textI,scC];done) | trace_state
theorem zxz(r:List UInt8)(b:Bool)(m:Int)(hs:r.length≤1048576):XCallE Try.prog 13 [.ptr 8 0,(.g (.int .i64 (m)))] [.cells [.s r,(.g (.bool (b)))]] 0 (λr' w f=>r'=(.g (.int .i64 ((manyI m (r,b)).1)))∧w=[.cells (scC (manyI m (r,b)).2)]∧f=[]):=by
 refine zdt Try.func13 (by rfl) (by rfl) (by rw [Try.ntmps13];exact Nat.le_of_ble_eq_true rfl) (by simp) rfl ?_
 rw [Try.ntmps13]
 refine zlg (.cells [.s r,(.g (.bool (b)))]) (by simp [cvO]<;>assumption) ?_
 refine AW_k [(0,_),(1,_)] ⟨rfl,rfl,trivial⟩ ?_
 refine AW_x rfl rfl λK hK=>?_
 simp (disch:=omega) [zG14,scC]
 repeat' first|(refine ⟨by omega,?_⟩)|(intro _)
 refine hK _ ?_;clear hK K
 refine AW_x rfl rfl λK hK=>?_
 simp (disch:=omega) [zG14,scC]
 repeat' first|(exfalso;omega)|(refine zb6 [8] false [] (zr9 r b hs) ?_ ?_ ?_;(focus (simp [List.range_succ,nmC];done));(focus (simp (disch:=omega) [zG14,scC];done));simp (disch:=omega) [zG14,scC])|(refine ⟨by omega,?_⟩)|(simp (disch:=omega) [zG14,scC])|(intro _)
 refine hK _ ?_;clear hK K
 refine zbf ?_
 refine AW_x rfl rfl λK hK=>?_
 simp (disch:=omega) [zG14,scC]
 repeat' first|(refine ⟨by omega,?_⟩)|(intro _)
 refine hK _ ?_;clear hK K
 refine zbi rfl (λhc3=>?_) (λhc3=>?_)
 ·try simp [zbk,zbh,zbb,zba] at hc3
  all_goals
   refine zdc rfl rfl λK hK=>?_
   simp (disch:=omega) [zG14,scC]
   repeat' first|(exfalso;omega)|(refine ⟨λ_=>?_,λ_=>?_⟩)|(refine ⟨by omega,?_⟩)|(simp (disch:=omega) [zG14,scC])|(intro _)
   all_goals (refine hK _ ?_;clear hK K)
   all_goals
    refine zbo ?_
    refine zbf ?_
    refine AW_x rfl rfl λK hK=>?_
    simp (disch:=omega) [zG14,scC]
    repeat' first|(refine ⟨by omega,?_⟩)|(intro _)
    refine hK _ ?_;clear hK K
    refine zbi rfl (λhc4=>?_) (λhc4=>?_)
    ·try simp [zbk,zbh,zbb,zba] at hc4
     all_goals
      refine AW_x rfl rfl λK hK=>?_
      simp (disch:=omega) [zG14,scC]
      repeat' first|(exfalso;omega)|(refine ⟨λ_=>?_,λ_=>?_⟩)|(refine ⟨by omega,?_⟩)|(simp (disch:=omega) [zG14,scC])|(intro _)
      all_goals (refine hK _ ?_;clear hK K)
      all_goals
       refine zbl ⟨((.g (.int .i64 ((0:Int))))),[.cells [.s (numI (r,b)).2.1,(.g (.bool (true)))]],[],?po,(by simp),(by simp),(by simp [OB.xk]),(zcd [] [] (by simp [zG15,List.range_succ]) (by simp) ?en)⟩
       case en =>
        simp (disch:=omega) [zG14,scC]
        all_goals first | omega | trace_state
       case po=>first|(simp_all [manyI,scC];done)|(have hne:¬(m<(numI (r,b)).1∨(numI (r,b)).2.2=true):=(λh=>h.elim (λh=>by omega) (λh=>by simp_all));simp only [manyI,if_neg hne];simp_all [scC];done)
    ·try simp [zbk,zbh,zbb,zba] at hc4
     all_goals
      refine zbj ?_
      refine zbo ?_
      refine AW_x rfl rfl λK hK=>?_
      simp (disch:=omega) [zG14,scC]
      repeat' first|(exfalso;omega)|(refine ⟨λ_=>?_,λ_=>?_⟩)|(refine ⟨by omega,?_⟩)|(simp (disch:=omega) [zG14,scC])|(intro _)
      all_goals (refine hK _ ?_;clear hK K)
      all_goals
       refine zbl ⟨((.g (.int .i64 ((0:Int))))),[.cells [.s (numI (r,b)).2.1,(.g (.bool (true)))]],[],?po,(by simp),(by simp),(by simp [OB.xk]),(zcd [] [] (by simp [zG15,List.range_succ]) (by simp) ?en)⟩
       case en =>
        simp (disch:=omega) [zG14,scC]
        all_goals first | omega | trace_state
       case po=>first|(simp_all [manyI,scC];done)|(have hne:¬(m<(numI (r,b)).1∨(numI (r,b)).2.2=true):=(λh=>h.elim (λh=>by omega) (λh=>by simp_all));simp only [manyI,if_neg hne];simp_all [scC];done)
 ·try simp [zbk,zbh,zbb,zba] at hc3
  all_goals
   refine zbj ?_
   refine zbo ?_
   refine zbf ?_
   refine AW_x rfl rfl λK hK=>?_
   simp (disch:=omega) [zG14,scC]
   repeat' first|(exfalso;omega)|(refine ⟨λ_=>?_,λ_=>?_⟩)|(refine ⟨by omega,?_⟩)|(simp (disch:=omega) [zG14,scC])|(intro _)
   all_goals (refine hK _ ?_;clear hK K)
   all_goals
    refine zbi rfl (λhc5=>?_) (λhc5=>?_)
    ·try simp [zbk,zbh,zbb,zba] at hc5
     all_goals
      refine AW_x rfl rfl λK hK=>?_
      simp (disch:=omega) [zG14,scC]
      repeat' first|(exfalso;omega)|(refine ⟨λ_=>?_,λ_=>?_⟩)|(refine ⟨by omega,?_⟩)|(simp (disch:=omega) [zG14,scC])|(intro _)
      all_goals (refine hK _ ?_;clear hK K)
      all_goals
       refine zbl ⟨((.g (.int .i64 ((0:Int))))),[.cells [.s (numI (r,b)).2.1,(.g (.bool (true)))]],[],?po,(by simp),(by simp),(by simp [OB.xk]),(zcd [] [] (by simp [zG15,List.range_succ]) (by simp) ?en)⟩
       case en =>
        simp (disch:=omega) [zG14,scC]
        all_goals first | omega | trace_state
       case po=>first|(simp_all [manyI,scC];done)|(have hne:¬(m<(numI (r,b)).1∨(numI (r,b)).2.2=true):=(λh=>h.elim (λh=>by omega) (λh=>by simp_all));simp only [manyI,if_neg hne];simp_all [scC];done)
    ·try simp [zbk,zbh,zbb,zba] at hc5
     all_goals
      refine zbj ?_
      refine zbo ?_
      refine AW_x rfl rfl λK hK=>?_
      simp (disch:=omega) [zG14,scC]
      repeat' first|(exfalso;omega)|(refine ⟨λ_=>?_,λ_=>?_⟩)|(refine ⟨by omega,?_⟩)|(simp (disch:=omega) [zG14,scC])|(intro _)
      all_goals (refine hK _ ?_;clear hK K)
      all_goals
       refine zbl ⟨((.g (.int .i64 ((numI (r,b)).1)))),[.cells [.s (numI (r,b)).2.1,(.g (.bool ((numI (r,b)).2.2)))]],[],?po,(by simp),(by simp),(by simp [OB.xk]),(zcd [] [] (by simp [zG15,List.range_succ]) (by simp) ?en)⟩
       case en =>
        simp (disch:=omega) [zG14,scC]
        all_goals first | omega | trace_state
       case po=>first|(simp_all [manyI,scC];done)|(have hne:¬(m<(numI (r,b)).1∨(numI (r,b)).2.2=true):=(λh=>h.elim (λh=>by omega) (λh=>by simp_all));simp only [manyI,if_neg hne];simp_all [scC];done)
theorem scanMany(r:List UInt8)(b:Bool)(m:Int)(hs:r.length≤1048576):XCall Try.prog 13 [.ptr 8 0,(.g (.int .i64 (m)))] [.cells [.s r,(.g (.bool (b)))]] (.g (.int .i64 ((manyI m (r,b)).1))) [.cells (scC (manyI m (r,b)).2)] []:=zjo (zxz r b m hs) rfl rfl
end Go.Proofs.Ytchpfloemfoomaa.Vs
end
section
namespace Go.Proofs.Ytchpfloemfoomaa.Vs
set_option linter.all false
set_option maxRecDepth 100000
set_option maxHeartbeats 2000000
noncomputable def txsI:Nat→List (List UInt8) × Sc→List (List UInt8) × Sc
 | 0,s=>s
 | n+1,s=>txsI n (s.1++[(textI s.2).1],(textI s.2).2)
noncomputable def snapI(x:Sc):DtCSnap × Sc :=
 (⟨(textI x).1,(textI (textI x).2).1,(txsI (manyI 4 (textI (textI x).2).2).1.toNat ([],(manyI 4 (textI (textI x).2).2).2)).1⟩,(txsI (manyI 4 (textI (textI x).2).2).1.toNat ([],(manyI 4 (textI (textI x).2).2).2)).2)
theorem cutI_len(n:Int)(x:Sc):(cutI n x).2.1.length≤x.1.length:=by
 unfold cutI
 split
 ·exact Nat.le_refl _
 ·simp
theorem zdl(x:Sc):(textI x).2.1.length≤x.1.length:=Nat.le_trans (cutI_len _ _) (zgd x)
theorem zf5(m:Int)(x:Sc):(manyI m x).2.1.length≤x.1.length:=by
 have:=zgd x
 unfold manyI
 split
 ·exact this
 ·exact this
theorem numI_bd(x:Sc):0≤(numI x).1∧(numI x).1≤562949953421311:=by
 have:=zxu x.1
 unfold numI
 split
 ·simp
 ·exact ⟨this.1,this.2.1⟩
theorem zki{m:Int}(h:0≤m)(x:Sc):0≤(manyI m x).1∧(manyI m x).1≤m:=by
 have:=numI_bd x
 unfold manyI
 split
 ·simp [h]
 ·rename_i hn
  exact ⟨this.1,by show (numI x).1≤m;omega⟩
theorem zs6:∀(n:Nat) (s:List (List UInt8) × Sc),(txsI n s).2.1.length≤s.2.1.length
 | 0,s=>Nat.le_refl _
 | n+1,s=>by
  rw [txsI]
  exact Nat.le_trans (zs6 n _) (zdl s.2)
theorem zqh(x:Sc):(snapI x).2.1.length≤x.1.length:=by
 unfold snapI
 have h1:=zdl x
 have h2:=zdl (textI x).2
 have h3:=zf5 4 (textI (textI x).2).2
 have h4:=zs6 (manyI 4 (textI (textI x).2).2).1.toNat ([],(manyI 4 (textI (textI x).2).2).2)
 simp only at h4 ⊢
 omega
attribute [local simp] scC
theorem zfg(x:Sc)(hs:x.1.length≤1048576):XCall Try.prog 16 [.ptr 8 0] [.cells [.s x.1,(.g (.bool (x.2)))]] (.s (textI x).1) [.cells (scC (textI x).2)] []:=scanText x.1 x.2 hs
theorem zgu(m:Int)(x:Sc)(hs:x.1.length≤1048576):XCall Try.prog 13 [.ptr 8 0,(.g (.int .i64 (m)))] [.cells [.s x.1,(.g (.bool (x.2)))]] (.g (.int .i64 ((manyI m x).1))) [.cells (scC (manyI m x).2)] []:=scanMany x.1 x.2 m hs
theorem scanSnap(x:Sc)(hs:x.1.length≤1048576):XCall Try.prog 31 [.ptr 8 0] [.cells [.s x.1,(.g (.bool (x.2)))]] (.agg [.s (snapI x).1.fName,.s (snapI x).1.fTag,.arr 16 0 (snapI x).1.fChunks.length]) [.cells (scC (snapI x).2)] [.own 1 ((snapI x).1.fChunks.map cS)]:=by
 have ht1:=zfg x hs
 have hl1:=zdl x
 have ht2:=zfg (textI x).2 (by omega)
 have hl2:=zdl (textI x).2
 have hm1:=zgu 4 (textI (textI x).2).2 (by omega)
 have hl3:=zf5 4 (textI (textI x).2).2
 have hb3:=zki (m:=4) (by omega) (textI (textI x).2).2
 have hsn:snapI x=(⟨(textI x).1,(textI (textI x).2).1,(txsI (manyI 4 (textI (textI x).2).2).1.toNat ([],(manyI 4 (textI (textI x).2).2).2)).1⟩,(txsI (manyI 4 (textI (textI x).2).2).1.toNat ([],(manyI 4 (textI (textI x).2).2).2)).2):=rfl
 obtain ⟨a,y1,e1⟩:∃a y1,textI x=(a,y1):=⟨_,_,rfl⟩
 simp only [e1] at ht1 ht2 hm1 hl1 hl2 hl3 hb3 hsn
 obtain ⟨b2,y2,e2⟩:∃a y,textI y1=(a,y):=⟨_,_,rfl⟩
 simp only [e2] at ht2 hm1 hl2 hl3 hb3 hsn
 obtain ⟨K,y3,e3⟩:∃a y,manyI 4 y2=(a,y):=⟨_,_,rfl⟩
 simp only [e3] at hm1 hl3 hb3 hsn
 rw [hsn]
 refine zbu Try.func31 (by rfl) (by rfl) (by rw [Try.ntmps31];exact Nat.le_of_ble_eq_true rfl) rfl (by simp) rfl rfl ?_
 rw [Try.ntmps31]
 refine zlg (.cells [.s x.1,(.g (.bool (x.2)))]) (by simp [cvO]<;>assumption) ?_
 refine AW_k [(0,_)] ⟨rfl,trivial⟩ ?_
 refine AW_x rfl rfl λK hK=>?_
 simp (disch:=omega) [zG14,cS,scC]
 repeat' first|(refine ⟨by omega,?_⟩)|(intro _)
 refine hK _ ?_;clear hK K
 refine AW_x rfl rfl λK hK=>?_
 simp (disch:=omega) [zG14,cS,scC]
 repeat' first|(exfalso;omega)|(refine zb6 [8] false [] (ht1) ?_ ?_ ?_;(focus (simp [List.range_succ,nmC];done));(focus (simp (disch:=omega) [zG14,cS,scC];done));simp (disch:=omega) [zG14,cS,scC])|(refine zb6 [8] false [] (ht2) ?_ ?_ ?_;(focus (simp [List.range_succ,nmC];done));(focus (simp (disch:=omega) [zG14,cS,scC];done));simp (disch:=omega) [zG14,cS,scC])|(refine zb6 [8] false [] (zfg y hy) ?_ ?_ ?_;(focus (simp [List.range_succ,nmC];done));(focus (simp (disch:=omega) [zG14,cS,scC];done));simp (disch:=omega) [zG14,cS,scC])|(refine ⟨by omega,?_⟩)|(simp (disch:=omega) [zG14,cS,scC])|(intro _)
 refine hK _ ?_;clear hK K
 refine AW_x rfl rfl λK hK=>?_
 simp (disch:=omega) [zG14,cS,scC]
 repeat' first|(exfalso;omega)|(refine zb6 [8] false [] (ht1) ?_ ?_ ?_;(focus (simp [List.range_succ,nmC];done));(focus (simp (disch:=omega) [zG14,cS,scC];done));simp (disch:=omega) [zG14,cS,scC])|(refine zb6 [8] false [] (ht2) ?_ ?_ ?_;(focus (simp [List.range_succ,nmC];done));(focus (simp (disch:=omega) [zG14,cS,scC];done));simp (disch:=omega) [zG14,cS,scC])|(refine zb6 [8] false [] (zfg y hy) ?_ ?_ ?_;(focus (simp [List.range_succ,nmC];done));(focus (simp (disch:=omega) [zG14,cS,scC];done));simp (disch:=omega) [zG14,cS,scC])|(refine ⟨by omega,?_⟩)|(simp (disch:=omega) [zG14,cS,scC])|(intro _)
 refine hK _ ?_;clear hK K
 refine AW_x rfl rfl λK hK=>?_
 simp (disch:=omega) [zG14,cS,scC]
 repeat' first|(exfalso;omega)|(refine zb6 [8] false [] (hm1) ?_ ?_ ?_;(focus (simp [List.range_succ,nmC];done));(focus (simp (disch:=omega) [zG14,cS,scC];done));simp (disch:=omega) [zG14,cS,scC])|(refine ⟨by omega,?_⟩)|(simp (disch:=omega) [zG14,cS,scC])|(intro _)
 refine hK _ ?_;clear hK K
 refine zbf ?_
 refine AW_x rfl rfl λK hK=>?_
 simp (disch:=omega) [zG14,cS,scC]
 repeat' first|(refine ⟨by omega,?_⟩)|(intro _)
 refine hK _ ?_;clear hK K
 refine zbm ?_
 refine zbw (λmM sS=>∃(i:Nat) (l:List (List UInt8)) (y:Sc),mM=K.toNat-i∧((i:Int)≤K∧l.length=i∧txsI (K.toNat-i) (l,y)=txsI K.toNat ([],y3)∧y.1.length≤1048576)∧sS = { env:=lkE [(0,.ptr 8 0),(2,.ptr 48 0),(3,.ptr 64 0),(14,(.g (.int .i64 (K)))),(15,(.g (.int .i64 ((i:Nat)))))],ob:=lk [(8,.cells (scC y)),(48,.cells [.s [],.s [],.g (.slice none 0 0)]),(64,.cells [.s a,.s b2,.arr 500 0 l.length]),(500,.own 1 (l.map cS))] }) ?_ ?_
 ·refine ⟨_,LeS.trans (LeS.znc (cs:=[.s a,.s b2,.g (.slice none 0 0)]) 500 1 64 2 (by simp [zG15,zby]) (by simp [zG15,zby,cS]) (by rfl)) (LeS.kx [(8,8),(48,48),(64,64),(500,500)] [(0,.ptr 8 0),(2,.ptr 48 0),(3,.ptr 64 0),(14,(.g (.int .i64 (K)))),(15,(.g (.int .i64 (((0):Nat)))))] [(8,.cells (scC (y3))),(48,.cells [.s [],.s [],.g (.slice none 0 0)]),(64,.cells [.s a,.s b2,.arr 500 0 ([]).length]),(500,.own 1 (([]).map cS))] (by simp [zG15,KpR,renV2,renV,zby,cS];try (first | with_reducible rfl | omega|(simp;done))) (by simp [zG15,KpOX,renO,plO,cvO,renV,pl1,cS];try (first | with_reducible rfl|(simp [cS];done) | trace_state)) (by rfl) (by simp) (by simp) (by rfl) (by simp [formsX,List.range_succ,zbt,zb0])),_,0,[],y3,rfl,?_,rfl⟩
  ·exact ⟨by omega,rfl,rfl,by omega⟩
 ·rintro mM sS ⟨i,l,y,rfl,⟨hiK,hli,htx,hy⟩,rfl⟩
  refine AW_x rfl rfl λK hK=>?_
  simp (disch:=omega) [zG14,cS,scC]
  repeat' first|(refine ⟨by omega,?_⟩)|(intro _)
  refine hK _ ?_;clear hK K
  refine zbf ?_
  refine zbi rfl (λhc1=>?_) (λhc1=>?_)
  ·try simp [zbk,zbh,zbb,zba] at hc1
   all_goals
    refine zbj ?_
    refine zbo ?_
    refine zbf ?_
    refine zbm ?_
    refine AW_x rfl rfl λK hK=>?_
    simp (disch:=omega) [zG14,cS,scC]
    repeat' first|(exfalso;omega)|(refine zb6 [8] false [] (ht1) ?_ ?_ ?_;(focus (simp [List.range_succ,nmC];done));(focus (simp (disch:=omega) [zG14,cS,scC];done));simp (disch:=omega) [zG14,cS,scC])|(refine zb6 [8] false [] (ht2) ?_ ?_ ?_;(focus (simp [List.range_succ,nmC];done));(focus (simp (disch:=omega) [zG14,cS,scC];done));simp (disch:=omega) [zG14,cS,scC])|(refine zb6 [8] false [] (zfg y hy) ?_ ?_ ?_;(focus (simp [List.range_succ,nmC];done));(focus (simp (disch:=omega) [zG14,cS,scC];done));simp (disch:=omega) [zG14,cS,scC])|(refine ⟨λ_=>?_,λ_=>?_⟩)|(refine ⟨by omega,?_⟩)|(simp (disch:=omega) [zG14,cS,scC])|(intro _)
    all_goals (refine hK _ ?_;clear hK K)
    all_goals
     refine zdc rfl rfl λK hK=>?_
     simp (disch:=omega) [zG14,cS,scC]
     repeat' first|(refine ⟨by omega,?_⟩)|(simp (disch:=omega) [zG14,cS,scC])|(intro _)
     refine hK _ ?_;clear hK K
     refine zbo ?_
     refine zdc rfl rfl λK hK=>?_
     simp (disch:=omega) [zG14,cS,scC]
     repeat' first|(refine ⟨by omega,?_⟩)|(intro _)
     refine hK _ ?_;clear hK K
     refine ⟨_,LeS.kx [(8,8),(48,48),(64,64),(500,384)] [(0,.ptr 8 0),(2,.ptr 48 0),(3,.ptr 64 0),(14,(.g (.int .i64 (K)))),(15,(.g (.int .i64 (((i+1):Nat)))))] [(8,.cells (scC ((textI y).2))),(48,.cells [.s [],.s [],.g (.slice none 0 0)]),(64,.cells [.s a,.s b2,.arr 500 0 (l++[(textI y).1]).length]),(500,.own 1 ((l++[(textI y).1]).map cS))] (by simp [zG15,KpR,renV2,renV,zby,cS];try (first | with_reducible rfl | omega|(simp;done))) (by simp [zG15,KpOX,renO,plO,cvO,renV,pl1,cS];try (first | with_reducible rfl|(simp [cS];done) | trace_state)) (by rfl) (by simp) (by simp) (by rfl) (by simp [formsX,List.range_succ,zbt,zb0]),_,?_,i+1,l++[(textI y).1],(textI y).2,rfl,?_,rfl⟩
     ·omega
     ·have h5:=zdl y;refine ⟨by omega,by simp;omega,?_,by omega⟩;rw [←htx];have e:K.toNat-i=(K.toNat-(i+1))+1:=(by omega);rw [e,txsI]
  ·try simp [zbk,zbh,zbb,zba] at hc1
   all_goals
    have hK:K.toNat-i=0:=by omega
    rw [hK,txsI] at htx
    refine zb4 ?_
    refine zbo ?_
    refine AW_x rfl rfl λK hK=>?_
    simp (disch:=omega) [zG14,cS,scC]
    repeat' first|(exfalso;omega)|(refine ⟨λ_=>?_,λ_=>?_⟩)|(refine ⟨by omega,?_⟩)|(simp (disch:=omega) [zG14,cS,scC])|(intro _)
    all_goals (refine hK _ ?_;clear hK K)
    all_goals
     refine zbl (zcd [500] [] (by simp [zG15,List.range_succ]) (by simp) ?_)
     simp (disch:=omega) [zG14,cS,scC]
     all_goals first|(rw [←htx];first | rfl|(simp;done)) | omega | trace_state
end Go.Proofs.Ytchpfloemfoomaa.Vs
end
section
namespace Go.Proofs.Ytchpfloemfoomaa.Vs
set_option linter.all false
set_option maxRecDepth 100000
set_option maxHeartbeats 2000000
noncomputable def snsI:Nat→List DtCSnap × Sc→List DtCSnap × Sc
 | 0,s=>s
 | n+1,s=>snsI n (s.1++[(snapI s.2).1],(snapI s.2).2)
noncomputable def setI(x:Sc):DtCSet × Sc :=
 (⟨(textI x).1,(snsI (manyI 5 (textI x).2).1.toNat ([],(manyI 5 (textI x).2).2)).1⟩,(snsI (manyI 5 (textI x).2).1.toNat ([],(manyI 5 (textI x).2).2)).2)
theorem zs7:∀(n:Nat) (s:List DtCSnap × Sc),(snsI n s).2.1.length≤s.2.1.length
 | 0,s=>Nat.le_refl _
 | n+1,s=>by
  rw [snsI]
  exact Nat.le_trans (zs7 n _) (zqh s.2)
theorem setI_len(x:Sc):(setI x).2.1.length≤x.1.length:=by
 unfold setI
 have h1:=zdl x
 have h3:=zf5 5 (textI x).2
 have h4:=zs7 (manyI 5 (textI x).2).1.toNat ([],(manyI 5 (textI x).2).2)
 simp only at h4 ⊢
 omega
attribute [local simp] scC
theorem scanSet(x:Sc)(hs:x.1.length≤1048576):XCall Try.prog 14 [.ptr 8 0] [.cells [.s x.1,(.g (.bool (x.2)))]] (.agg [.s (setI x).1.fName,.arr 16 0 (setI x).1.fSnaps.length]) [.cells (scC (setI x).2)] [.own 3 ((setI x).1.fSnaps.map DtCSnap.cells)]:=by
 have ht1:=zfg x hs
 have hl1:=zdl x
 have hm1:=zgu 5 (textI x).2 (by omega)
 have hl3:=zf5 5 (textI x).2
 have hb3:=zki (m:=5) (by omega) (textI x).2
 have hsn:setI x=(⟨(textI x).1,(snsI (manyI 5 (textI x).2).1.toNat ([],(manyI 5 (textI x).2).2)).1⟩,(snsI (manyI 5 (textI x).2).1.toNat ([],(manyI 5 (textI x).2).2)).2):=rfl
 obtain ⟨a,y1,e1⟩:∃a y1,textI x=(a,y1):=⟨_,_,rfl⟩
 simp only [e1] at ht1 hm1 hl1 hl3 hb3 hsn
 obtain ⟨K,y3,e3⟩:∃a y,manyI 5 y1=(a,y):=⟨_,_,rfl⟩
 simp only [e3] at hm1 hl3 hb3 hsn
 rw [hsn]
 refine zbu Try.func14 (by rfl) (by rfl) (by rw [Try.ntmps14];exact Nat.le_of_ble_eq_true rfl) rfl (by simp) rfl rfl ?_
 rw [Try.ntmps14]
 refine zlg (.cells [.s x.1,(.g (.bool (x.2)))]) (by simp [cvO]<;>assumption) ?_
 refine AW_k [(0,_)] ⟨rfl,trivial⟩ ?_
 refine AW_x rfl rfl λK hK=>?_
 simp (disch:=omega) [zG14,cS,scC,DtCSnap.cells]
 repeat' first|(refine ⟨by omega,?_⟩)|(intro _)
 refine hK _ ?_;clear hK K
 refine AW_x rfl rfl λK hK=>?_
 simp (disch:=omega) [zG14,cS,scC,DtCSnap.cells]
 repeat' first|(exfalso;omega)|(refine zb6 [8] false [] (ht1) ?_ ?_ ?_;(focus (simp [List.range_succ,nmC];done));(focus (simp (disch:=omega) [zG14,cS,scC,DtCSnap.cells];done));simp (disch:=omega) [zG14,cS,scC,DtCSnap.cells])|(refine ⟨by omega,?_⟩)|(simp (disch:=omega) [zG14,cS,scC,DtCSnap.cells])|(intro _)
 refine hK _ ?_;clear hK K
 refine AW_x rfl rfl λK hK=>?_
 simp (disch:=omega) [zG14,cS,scC,DtCSnap.cells]
 repeat' first|(exfalso;omega)|(refine zb6 [8] false [] (hm1) ?_ ?_ ?_;(focus (simp [List.range_succ,nmC];done));(focus (simp (disch:=omega) [zG14,cS,scC,DtCSnap.cells];done));simp (disch:=omega) [zG14,cS,scC,DtCSnap.cells])|(refine ⟨by omega,?_⟩)|(simp (disch:=omega) [zG14,cS,scC,DtCSnap.cells])|(intro _)
 refine hK _ ?_;clear hK K
 refine zbf ?_
 refine AW_x rfl rfl λK hK=>?_
 simp (disch:=omega) [zG14,cS,scC,DtCSnap.cells]
 repeat' first|(refine ⟨by omega,?_⟩)|(intro _)
 refine hK _ ?_;clear hK K
 refine zbm ?_
 refine zbw (λmM sS=>∃(i:Nat) (l:List DtCSnap) (y:Sc),mM=K.toNat-i∧((i:Int)≤K∧l.length=i∧snsI (K.toNat-i) (l,y)=snsI K.toNat ([],y3)∧y.1.length≤1048576)∧sS = { env:=lkE [(0,.ptr 8 0),(2,.ptr 48 0),(3,.ptr 64 0),(11,(.g (.int .i64 (K)))),(12,(.g (.int .i64 ((i:Nat)))))],ob:=lk [(8,.cells (scC y)),(48,.cells [.s [],.g (.slice none 0 0)]),(64,.cells [.s a,.arr 501 0 l.length]),(501,.own 3 (l.map DtCSnap.cells))] }) ?_ ?_
 ·refine ⟨_,LeS.trans (LeS.znc (cs:=[.s a,.g (.slice none 0 0)]) 501 3 64 1 (by simp [zG15,zby]) (by simp [zG15,zby,DtCSnap.cells]) (by rfl)) (LeS.kx [(8,8),(48,48),(64,64),(501,501)] [(0,.ptr 8 0),(2,.ptr 48 0),(3,.ptr 64 0),(11,(.g (.int .i64 (K)))),(12,(.g (.int .i64 (((0):Nat)))))] [(8,.cells (scC (y3))),(48,.cells [.s [],.g (.slice none 0 0)]),(64,.cells [.s a,.arr 501 0 ([]).length]),(501,.own 3 (([]).map DtCSnap.cells))] (by simp [zG15,KpR,renV2,renV,zby,DtCSnap.cells];try (first | with_reducible rfl | omega|(simp;done))) (by simp [zG15,KpOX,renO,plO,cvO,renV,pl1,DtCSnap.cells];try (first | with_reducible rfl|(simp [DtCSnap.cells];done) | trace_state)) (by rfl) (by simp) (by simp) (by rfl) (by simp [formsX,List.range_succ,zbt,zb0])),_,0,[],y3,rfl,?_,rfl⟩
  ·exact ⟨by omega,rfl,rfl,by omega⟩
 ·rintro mM sS ⟨i,l,y,rfl,⟨hiK,hli,htx,hy⟩,rfl⟩
  refine AW_x rfl rfl λK hK=>?_
  simp (disch:=omega) [zG14,cS,scC,DtCSnap.cells]
  repeat' first|(refine ⟨by omega,?_⟩)|(intro _)
  refine hK _ ?_;clear hK K
  refine zbf ?_
  refine zbi rfl (λhc1=>?_) (λhc1=>?_)
  ·try simp [zbk,zbh,zbb,zba] at hc1
   all_goals
    refine zbj ?_
    refine zbo ?_
    refine zbf ?_
    refine zbm ?_
    refine AW_x rfl rfl λK hK=>?_
    simp (disch:=omega) [zG14,cS,scC,DtCSnap.cells]
    repeat' first|(exfalso;omega)|(refine zb6 [8] false [] (scanSnap y hy) ?_ ?_ ?_;(focus (simp [List.range_succ,nmC];done));(focus (simp (disch:=omega) [zG14,cS,scC,DtCSnap.cells];done));simp (disch:=omega) [zG14,cS,scC,DtCSnap.cells])|(refine ⟨λ_=>?_,λ_=>?_⟩)|(refine ⟨by omega,?_⟩)|(simp (disch:=omega) [zG14,cS,scC,DtCSnap.cells])|(intro _)
    all_goals (refine hK _ ?_;clear hK K)
    all_goals
     refine zdc rfl rfl λK hK=>?_
     simp (disch:=omega) [zG14,cS,scC,DtCSnap.cells]
     repeat' first|(refine ⟨by omega,?_⟩)|(simp (disch:=omega) [zG14,cS,scC,DtCSnap.cells])|(intro _)
     refine hK _ ?_;clear hK K
     refine zbo ?_
     refine zdc rfl rfl λK hK=>?_
     simp (disch:=omega) [zG14,cS,scC,DtCSnap.cells]
     repeat' first|(refine ⟨by omega,?_⟩)|(intro _)
     refine hK _ ?_;clear hK K
     refine ⟨_,LeS.kx [(8,8),(48,48),(64,64),(501,336)] [(0,.ptr 8 0),(2,.ptr 48 0),(3,.ptr 64 0),(11,(.g (.int .i64 (K)))),(12,(.g (.int .i64 (((i+1):Nat)))))] [(8,.cells (scC ((snapI y).2))),(48,.cells [.s [],.g (.slice none 0 0)]),(64,.cells [.s a,.arr 501 0 (l++[(snapI y).1]).length]),(501,.own 3 ((l++[(snapI y).1]).map DtCSnap.cells))] (by simp [zG15,KpR,renV2,renV,zby,DtCSnap.cells];try (first | with_reducible rfl | omega|(simp;done))) (by simp [zG15,KpOX,renO,plO,cvO,renV,pl1,DtCSnap.cells];try (first | with_reducible rfl|(simp [DtCSnap.cells];done) | trace_state)) (by rfl) (by simp) (by simp) (by rfl) (by simp [formsX,List.range_succ,zbt,zb0]),_,?_,i+1,l++[(snapI y).1],(snapI y).2,rfl,?_,rfl⟩
     ·omega
     ·have h5:=zqh y;refine ⟨by omega,by simp;omega,?_,by omega⟩;rw [←htx];have e:K.toNat-i=(K.toNat-(i+1))+1:=(by omega);rw [e,snsI]
  ·try simp [zbk,zbh,zbb,zba] at hc1
   all_goals
    have hK:K.toNat-i=0:=by omega
    rw [hK,snsI] at htx
    refine zb4 ?_
    refine zbo ?_
    refine AW_x rfl rfl λK hK=>?_
    simp (disch:=omega) [zG14,cS,scC,DtCSnap.cells]
    repeat' first|(exfalso;omega)|(refine ⟨λ_=>?_,λ_=>?_⟩)|(refine ⟨by omega,?_⟩)|(simp (disch:=omega) [zG14,cS,scC,DtCSnap.cells])|(intro _)
    all_goals (refine hK _ ?_;clear hK K)
    all_goals
     refine zbl (zcd [501] [] (by simp [zG15,List.range_succ]) (by simp) ?_)
     simp (disch:=omega) [zG14,cS,scC,DtCSnap.cells]
     all_goals first|(rw [←htx];first | rfl|(simp;done)) | omega | trace_state
end Go.Proofs.Ytchpfloemfoomaa.Vs
end
section
namespace Go.Proofs.Ytchpfloemfoomaa.Vs
set_option linter.all false
set_option maxRecDepth 100000
set_option maxHeartbeats 2000000
noncomputable def setsI:Nat→List DtCSet × Sc→List DtCSet × Sc
 | 0,s=>s
 | n+1,s=>setsI n (s.1++[(setI s.2).1],(setI s.2).2)
noncomputable def saidI(x:Sc):DtSaid × Sc:=(⟨(numI x).1,(numI (numI x).2).1,(textI (numI (numI x).2).2).1⟩,(textI (numI (numI x).2).2).2)
noncomputable def saidsI:Nat→List DtSaid × Sc→List DtSaid × Sc
 | 0,s=>s
 | n+1,s=>saidsI n (s.1++[(saidI s.2).1],(saidI s.2).2)
noncomputable def rsA(s:List UInt8):List DtCSet × Sc:=setsI (manyI 5 (s,false)).1.toNat ([],(manyI 5 (s,false)).2)
noncomputable def rsB(x:Sc):List DtSaid × Sc:=saidsI (manyI 9 x).1.toNat ([],(manyI 9 x).2)
noncomputable def readI(s:List UInt8):DtState × Sc:=(⟨⟨(rsA s).1⟩,(rsB (rsA s).2).1⟩,(rsB (rsA s).2).2)
open Classical in
noncomputable def RSI(s:List UInt8):DtState × Bool:=if (readI s).2.2=true∨s=[]∨showState (readI s).1≠s then (⟨⟨[]⟩,[]⟩,false) else ((readI s).1,true)
theorem zx0(x:Sc):(saidI x).2.1.length≤x.1.length:=by
 have h1:=zgd x
 have h2:=zgd (numI x).2
 have h3:=zdl (numI (numI x).2).2
 show (textI (numI (numI x).2).2).2.1.length≤_
 omega
/-! what a reading that is not spoilt takes -/
theorem znx{x:Sc}(h:(numI x).2.2=false):x.2=false∧1+(numI x).2.1.length≤x.1.length:=by
 unfold numI at h ⊢
 split at h
 ·cases h
 ·rename_i hn
  rw [if_neg hn]
  have hb:=zxu x.1
  have h2:¬(RV x.1).2=0:=λe=>hn (.inr e)
  refine ⟨by simpa using λe=>hn (.inl e),?_⟩
  simp only [List.length_drop]
  omega
theorem cutI_ok{n:Int}{x:Sc}(h:(cutI n x).2.2=false):x.2=false∧(cutI n x).1.length+(cutI n x).2.1.length≤x.1.length:=by
 unfold cutI at h ⊢
 split at h
 ·cases h
 ·rename_i hn
  rw [if_neg hn]
  refine ⟨by simpa using λe=>hn (.inl e),?_⟩
  simp only [List.length_drop,List.length_take]
  omega
theorem zh1{x:Sc}(h:(textI x).2.2=false):x.2=false∧1+(textI x).1.length+(textI x).2.1.length≤x.1.length:=by
 have h1:=cutI_ok (n:=(numI x).1) (x:=(numI x).2) h
 have h2:=znx h1.1
 refine ⟨h2.1,?_⟩
 have h3:=h1.2
 unfold textI
 omega
theorem zkj{m:Int}{x:Sc}(h:(manyI m x).2.2=false):x.2=false∧1+(manyI m x).2.1.length≤x.1.length:=by
 unfold manyI at h ⊢
 split at h
 ·cases h
 ·rename_i hn
  rw [if_neg hn]
  exact znx (by simpa using λe=>hn (.inr e))
theorem zfn{α:Type}(f:α→Int)(l:List α)(x:α):szS f (l++[x])=szS f l+f x+1:=by
 unfold szS
 have:∀l:List α,sumZ f (l++[x])=sumZ f l+f x:=by
  intro l
  induction l with
  | nil=>simp [zcs,zdi]
  | cons y l ih=>rw [List.cons_append,zdi,zdi,ih];omega
 rw [this]
 simp only [List.length_append,List.length_cons,List.length_nil]
 omega
theorem zx1:∀(n:Nat) (s:List (List UInt8) × Sc),(txsI n s).2.2=false→s.2.2=false∧szS lenZ (txsI n s).1+(txsI n s).2.1.length≤szS lenZ s.1+s.2.1.length
 | 0,s,h=>⟨h,Int.le_refl _⟩
 | n+1,s,h=>by
  rw [txsI] at h ⊢
  obtain ⟨h1,h2⟩:=zx1 n _ h
  obtain ⟨h3,h4⟩:=zh1 h1
  refine ⟨h3,?_⟩
  rw [zfn] at h2
  dsimp only at h2
  simp only [lenZ] at h2
  omega
theorem snapI_ok{x:Sc}(h:(snapI x).2.2=false):x.2=false∧DtCSnap.sz (snapI x).1+1+(snapI x).2.1.length≤x.1.length:=by
 obtain ⟨h1,h2⟩:=zx1 _ _ (show (txsI (manyI 4 (textI (textI x).2).2).1.toNat ([],(manyI 4 (textI (textI x).2).2).2)).2.2=false from h)
 obtain ⟨h3,h4⟩:=zkj h1
 obtain ⟨h5,h6⟩:=zh1 h3
 obtain ⟨h7,h8⟩:=zh1 h5
 refine ⟨h7,?_⟩
 have e0:szS lenZ ([]:List (List UInt8))=0:=by simp [szS,zcs]
 simp only [e0] at h2
 simp only [snapI,DtCSnap.sz]
 omega
theorem zx2:∀(n:Nat) (s:List DtCSnap × Sc),(snsI n s).2.2=false→s.2.2=false∧szS DtCSnap.sz (snsI n s).1+(snsI n s).2.1.length≤szS DtCSnap.sz s.1+s.2.1.length
 | 0,s,h=>⟨h,Int.le_refl _⟩
 | n+1,s,h=>by
  rw [snsI] at h ⊢
  obtain ⟨h1,h2⟩:=zx2 n _ h
  obtain ⟨h3,h4⟩:=snapI_ok h1
  refine ⟨h3,?_⟩
  rw [zfn] at h2
  dsimp only at h2
  omega
theorem setI_ok{x:Sc}(h:(setI x).2.2=false):x.2=false∧DtCSet.sz (setI x).1+1+(setI x).2.1.length≤x.1.length:=by
 obtain ⟨h1,h2⟩:=zx2 _ _ (show (snsI (manyI 5 (textI x).2).1.toNat ([],(manyI 5 (textI x).2).2)).2.2=false from h)
 obtain ⟨h3,h4⟩:=zkj h1
 obtain ⟨h7,h8⟩:=zh1 h3
 refine ⟨h7,?_⟩
 have e0:szS DtCSnap.sz []=0:=by simp [szS,zcs]
 simp only [e0] at h2
 simp only [setI,DtCSet.sz]
 omega
theorem zs8:∀(n:Nat) (s:List DtCSet × Sc),(setsI n s).2.2=false→s.2.2=false∧szS DtCSet.sz (setsI n s).1+(setsI n s).2.1.length≤szS DtCSet.sz s.1+s.2.1.length
 | 0,s,h=>⟨h,Int.le_refl _⟩
 | n+1,s,h=>by
  rw [setsI] at h ⊢
  obtain ⟨h1,h2⟩:=zs8 n _ h
  obtain ⟨h3,h4⟩:=setI_ok h1
  refine ⟨h3,?_⟩
  rw [zfn] at h2
  dsimp only at h2
  omega
theorem saidI_ok{x:Sc}(h:(saidI x).2.2=false):x.2=false∧DtSaid.sz (saidI x).1+1+(saidI x).2.1.length≤x.1.length:=by
 obtain ⟨h1,h2⟩:=zh1 (show (textI (numI (numI x).2).2).2.2=false from h)
 obtain ⟨h3,h4⟩:=znx h1
 obtain ⟨h5,h6⟩:=znx h3
 refine ⟨h5,?_⟩
 simp only [saidI,DtSaid.sz]
 omega
theorem zqi:∀(n:Nat) (s:List DtSaid × Sc),(saidsI n s).2.2=false→s.2.2=false∧szS DtSaid.sz (saidsI n s).1+(saidsI n s).2.1.length≤szS DtSaid.sz s.1+s.2.1.length
 | 0,s,h=>⟨h,Int.le_refl _⟩
 | n+1,s,h=>by
  rw [saidsI] at h ⊢
  obtain ⟨h1,h2⟩:=zqi n _ h
  obtain ⟨h3,h4⟩:=saidI_ok h1
  refine ⟨h3,?_⟩
  rw [zfn] at h2
  dsimp only at h2
  omega
theorem zs9{s:List UInt8}(h:(readI s).2.2=false):DtState.sz (readI s).1≤s.length:=by
 obtain ⟨h1,h2⟩:=zqi _ _ (show (saidsI (manyI 9 (rsA s).2).1.toNat ([],(manyI 9 (rsA s).2).2)).2.2=false from h)
 obtain ⟨h3,h4⟩:=zkj h1
 obtain ⟨h5,h6⟩:=zs8 _ _ (show (setsI (manyI 5 (s,false)).1.toNat ([],(manyI 5 (s,false)).2)).2.2=false from h3)
 obtain ⟨h7,h8⟩:=zkj h5
 have e0:szS DtSaid.sz []=0:=by simp [szS,zcs]
 have e1:szS DtCSet.sz []=0:=by simp [szS,zcs]
 simp only [e0] at h2
 simp only [e1] at h6
 have h9:szS DtCSet.sz (rsA s).1+(rsA s).2.1.length≤s.length:=by
  show szS DtCSet.sz (setsI (manyI 5 (s,false)).1.toNat ([],(manyI 5 (s,false)).2)).1+(setsI (manyI 5 (s,false)).1.toNat ([],(manyI 5 (s,false)).2)).2.1.length≤_
  simp only at h8
  omega
 show szS DtCSet.sz (rsA s).1+szS DtSaid.sz (rsB (rsA s).2).1≤_
 show szS DtCSet.sz (rsA s).1+szS DtSaid.sz (saidsI (manyI 9 (rsA s).2).1.toNat ([],(manyI 9 (rsA s).2).2)).1≤_
 omega
end Go.Proofs.Ytchpfloemfoomaa.Vs
end
section
namespace Go.Proofs.Ytchpfloemfoomaa.Vs
set_option linter.all false
set_option maxRecDepth 100000
set_option maxHeartbeats 2000000
attribute [local simp] scC
theorem zbd{P:Program}{st:St}(nm:Nat)(ts:List TypeId)(s:AV)(n o l:Nat):aAppZ P st nm ts s (.arr n o l)=none:=by
 unfold aAppZ
 split
 ·rename_i h;cases h
 ·rfl
theorem zbs(k:List DtSaid):scR (k.map DtSaid.cells)=true:=zm0 _ (λ_=>rfl) k
theorem zkk(x:Sc)(hs:x.1.length≤1048576):XCall Try.prog 15 [.ptr 8 0] [.cells [.s x.1,(.g (.bool (x.2)))]] (.g (.int .i64 ((numI x).1))) [.cells (scC (numI x).2)] []:=zr9 x.1 x.2 hs
theorem rsi_f{s:List UInt8}(h:(readI s).2.2=true∨s=[]∨¬showState (readI s).1=s):RSI s=(⟨⟨[]⟩,[]⟩,false):=by
 unfold RSI
 rw [if_pos h]
theorem rsi_t{s:List UInt8}(h1:¬(readI s).2.2=true)(h2:¬s=[])(h3:showState (readI s).1=s):RSI s=((readI s).1,true):=by
 unfold RSI
 rw [if_neg λh=>h.elim h1 λh=>h.elim h2 λh=>h h3]
theorem zny(s:List UInt8)(hs:s.length≤1048576):XCall Try.prog 5 [.s s] [] (.tup [.agg [.arr 16 0 (RSI s).1.fCat.fSets.length,.arr 17 0 (RSI s).1.fSaid.length],(.g (.bool ((RSI s).2)))]) [] [.own 2 ((RSI s).1.fCat.fSets.map DtCSet.cells),.own 3 ((RSI s).1.fSaid.map DtSaid.cells)]:=by
 have hm1:=zgu 5 (s,false) hs
 have hl3:=zf5 5 (s,false)
 have hb3:=zki (m:=5) (by omega) (s,false)
 have hrA:rsA s=setsI (manyI 5 (s,false)).1.toNat ([],(manyI 5 (s,false)).2):=rfl
 obtain ⟨K,y3,e3⟩:∃a y,manyI 5 (s,false)=(a,y):=⟨_,_,rfl⟩
 simp only [e3] at hm1 hl3 hb3 hrA
 refine zbu Try.func5 (by rfl) (by rfl) (by rw [Try.ntmps5];exact Nat.le_of_ble_eq_true rfl) rfl (by simp) rfl rfl ?_
 rw [Try.ntmps5]
 refine zf1   ?_
 refine AW_k [(0,_)] ⟨rfl,trivial⟩ ?_
 refine AW_x rfl rfl λK hK=>?_
 simp (disch:=omega) [zG14,cS,scC,DtState.cells,DtCatalog.cells,DtCSet.cells,DtSaid.cells,zbd,zbs,-aAppZ]
 repeat' first|(refine ⟨by omega,?_⟩)|(intro _)
 refine hK _ ?_;clear hK K
 refine AW_x rfl rfl λK hK=>?_
 simp (disch:=omega) [zG14,cS,scC,DtState.cells,DtCatalog.cells,DtCSet.cells,DtSaid.cells,zbd,zbs,-aAppZ]
 repeat' first|(refine ⟨by omega,?_⟩)|(intro _)
 refine hK _ ?_;clear hK K
 refine AW_x rfl rfl λK hK=>?_
 simp (disch:=omega) [zG14,cS,scC,DtState.cells,DtCatalog.cells,DtCSet.cells,DtSaid.cells,zbd,zbs,-aAppZ]
 repeat' first|(refine ⟨by omega,?_⟩)|(simp (disch:=omega) [zG14,cS,scC,DtState.cells,DtCatalog.cells,DtCSet.cells,DtSaid.cells,zbd,zbs,-aAppZ])|(intro _)
 refine hK _ ?_;clear hK K
 refine AW_x rfl rfl λK hK=>?_
 simp (disch:=omega) [zG14,cS,scC,DtState.cells,DtCatalog.cells,DtCSet.cells,DtSaid.cells,zbd,zbs,-aAppZ]
 repeat' first|(exfalso;omega)|(refine zb6 [192] false [] (hm1) ?_ ?_ ?_;(focus (simp [List.range_succ,nmC];done));(focus (simp (disch:=omega) [zG14,cS,scC,DtState.cells,DtCatalog.cells,DtCSet.cells,DtSaid.cells,zbd,zbs,-aAppZ];done));simp (disch:=omega) [zG14,cS,scC,DtState.cells,DtCatalog.cells,DtCSet.cells,DtSaid.cells,zbd,zbs,-aAppZ])|(refine zb6 [192] false [] (zgu 9 y hy) ?_ ?_ ?_;(focus (simp [List.range_succ,nmC];done));(focus (simp (disch:=omega) [zG14,cS,scC,DtState.cells,DtCatalog.cells,DtCSet.cells,DtSaid.cells,zbd,zbs,-aAppZ];done));simp (disch:=omega) [zG14,cS,scC,DtState.cells,DtCatalog.cells,DtCSet.cells,DtSaid.cells,zbd,zbs,-aAppZ])|(refine ⟨by omega,?_⟩)|(simp (disch:=omega) [zG14,cS,scC,DtState.cells,DtCatalog.cells,DtCSet.cells,DtSaid.cells,zbd,zbs,-aAppZ])|(intro _)
 refine hK _ ?_;clear hK K
 refine zbf ?_
 refine AW_x rfl rfl λK hK=>?_
 simp (disch:=omega) [zG14,cS,scC,DtState.cells,DtCatalog.cells,DtCSet.cells,DtSaid.cells,zbd,zbs,-aAppZ]
 repeat' first|(refine ⟨by omega,?_⟩)|(intro _)
 refine hK _ ?_;clear hK K
 refine zbm ?_
 refine zbw (λmM sS=>∃(i:Nat) (l:List DtCSet) (y:Sc),mM=K.toNat-i∧((i:Int)≤K∧l.length=i∧setsI (K.toNat-i) (l,y)=rsA s∧y.1.length≤1048576)∧sS = { env:=lkE [(0,.s s),(2,.ptr 48 0),(4,.ptr 192 0),(5,.ptr 96 0),(15,(.g (.int .i64 (K)))),(16,(.g (.int .i64 ((i:Nat)))))],ob:=lk [(192,.cells (scC y)),(48,.cells [.g (.slice none 0 0),.g (.slice none 0 0)]),(96,.cells [.arr 500 0 l.length,.g (.slice none 0 0)]),(500,.own 2 (l.map DtCSet.cells))] }) ?_ ?_
 ·refine ⟨_,LeS.trans (LeS.znc (cs:=[.g (.slice none 0 0),.g (.slice none 0 0)]) 500 2 96 0 (by simp [zG15,zby]) (by simp [zG15,zby,DtCSet.cells]) (by rfl)) (LeS.kx [(192,192),(48,48),(96,96),(500,500)] [(0,.s s),(2,.ptr 48 0),(4,.ptr 192 0),(5,.ptr 96 0),(15,(.g (.int .i64 (K)))),(16,(.g (.int .i64 (((0):Nat)))))] [(192,.cells (scC (y3))),(48,.cells [.g (.slice none 0 0),.g (.slice none 0 0)]),(96,.cells [.arr 500 0 ([]).length,.g (.slice none 0 0)]),(500,.own 2 (([]).map DtCSet.cells))] (by simp [zG15,KpR,renV2,renV,zby,DtCSet.cells];try (first | with_reducible rfl | omega|(simp;done))) (by simp [zG15,KpOX,renO,plO,cvO,renV,pl1,DtCSet.cells];try (first | with_reducible rfl|(simp [DtCSet.cells];done) | trace_state)) (by rfl) (by simp) (by simp) (by rfl) (by simp [formsX,List.range_succ,zbt,zb0])),_,0,[],y3,rfl,?_,rfl⟩
  ·exact ⟨by omega,rfl,hrA.symm,by omega⟩
 ·rintro mM sS ⟨i,l,y,rfl,⟨hiK,hli,htx,hy⟩,rfl⟩
  refine AW_x rfl rfl λK hK=>?_
  simp (disch:=omega) [zG14,cS,scC,DtState.cells,DtCatalog.cells,DtCSet.cells,DtSaid.cells,zbd,zbs,-aAppZ]
  repeat' first|(refine ⟨by omega,?_⟩)|(intro _)
  refine hK _ ?_;clear hK K
  refine zbf ?_
  refine zbi rfl (λhc1=>?_) (λhc1=>?_)
  ·try simp [zbk,zbh,zbb,zba] at hc1
   all_goals
    refine zbj ?_
    refine zbo ?_
    refine zbf ?_
    refine zbm ?_
    refine AW_x rfl rfl λK hK=>?_
    simp (disch:=omega) [zG14,cS,scC,DtState.cells,DtCatalog.cells,DtCSet.cells,DtSaid.cells,zbd,zbs,-aAppZ]
    repeat' first|(exfalso;omega)|(refine zb6 [192] false [] (scanSet y hy) ?_ ?_ ?_;(focus (simp [List.range_succ,nmC];done));(focus (simp (disch:=omega) [zG14,cS,scC,DtState.cells,DtCatalog.cells,DtCSet.cells,DtSaid.cells,zbd,zbs,-aAppZ];done));simp (disch:=omega) [zG14,cS,scC,DtState.cells,DtCatalog.cells,DtCSet.cells,DtSaid.cells,zbd,zbs,-aAppZ])|(refine ⟨λ_=>?_,λ_=>?_⟩)|(refine ⟨by omega,?_⟩)|(simp (disch:=omega) [zG14,cS,scC,DtState.cells,DtCatalog.cells,DtCSet.cells,DtSaid.cells,zbd,zbs,-aAppZ])|(intro _)
    all_goals (refine hK _ ?_;clear hK K)
    all_goals
     refine zdc rfl rfl λK hK=>?_
     simp (disch:=omega) [zG14,cS,scC,DtState.cells,DtCatalog.cells,DtCSet.cells,DtSaid.cells,zbd,zbs,-aAppZ]
     repeat' first|(refine ⟨by omega,?_⟩)|(simp (disch:=omega) [zG14,cS,scC,DtState.cells,DtCatalog.cells,DtCSet.cells,DtSaid.cells,zbd,zbs,-aAppZ])|(intro _)
     refine hK _ ?_;clear hK K
     refine zbo ?_
     refine zdc rfl rfl λK hK=>?_
     simp (disch:=omega) [zG14,cS,scC,DtState.cells,DtCatalog.cells,DtCSet.cells,DtSaid.cells,zbd,zbs,-aAppZ]
     repeat' first|(refine ⟨by omega,?_⟩)|(intro _)
     refine hK _ ?_;clear hK K
     refine ⟨_,LeS.kx [(192,192),(48,48),(96,96),(500,416)] [(0,.s s),(2,.ptr 48 0),(4,.ptr 192 0),(5,.ptr 96 0),(15,(.g (.int .i64 (K)))),(16,(.g (.int .i64 (((i+1):Nat)))))] [(192,.cells (scC ((setI y).2))),(48,.cells [.g (.slice none 0 0),.g (.slice none 0 0)]),(96,.cells [.arr 500 0 (l++[(setI y).1]).length,.g (.slice none 0 0)]),(500,.own 2 ((l++[(setI y).1]).map DtCSet.cells))] (by simp [zG15,KpR,renV2,renV,zby,DtCSet.cells];try (first | with_reducible rfl | omega|(simp;done))) (by simp [zG15,KpOX,renO,plO,cvO,renV,pl1,DtCSet.cells];try (first | with_reducible rfl|(simp [DtCSet.cells];done) | trace_state)) (by rfl) (by simp) (by simp) (by rfl) (by simp [formsX,List.range_succ,zbt,zb0]),_,?_,i+1,l++[(setI y).1],(setI y).2,rfl,?_,rfl⟩
     ·omega
     ·have h5:=setI_len y;refine ⟨by omega,by simp;omega,?_,by omega⟩;rw [←htx];have e:K.toNat-i=(K.toNat-(i+1))+1:=(by omega);rw [e,setsI]
  ·try simp [zbk,zbh,zbb,zba] at hc1
   all_goals
    have hK:K.toNat-i=0:=by omega
    rw [hK,setsI] at htx
    have hb9:=zki (m:=9) (by omega) y
    have hl9:=zf5 9 y
    have hrB:saidsI (manyI 9 y).1.toNat ([],(manyI 9 y).2)=rsB (rsA s).2:=by rw [←htx];rfl
    refine zb4 ?_
    refine zbo ?_
    refine AW_x rfl rfl λK hK=>?_
    simp (disch:=omega) [zG14,cS,scC,DtState.cells,DtCatalog.cells,DtCSet.cells,DtSaid.cells,zbd,zbs,-aAppZ]
    repeat' first|(exfalso;omega)|(refine zb6 [192] false [] (hm1) ?_ ?_ ?_;(focus (simp [List.range_succ,nmC];done));(focus (simp (disch:=omega) [zG14,cS,scC,DtState.cells,DtCatalog.cells,DtCSet.cells,DtSaid.cells,zbd,zbs,-aAppZ];done));simp (disch:=omega) [zG14,cS,scC,DtState.cells,DtCatalog.cells,DtCSet.cells,DtSaid.cells,zbd,zbs,-aAppZ])|(refine zb6 [192] false [] (zgu 9 y hy) ?_ ?_ ?_;(focus (simp [List.range_succ,nmC];done));(focus (simp (disch:=omega) [zG14,cS,scC,DtState.cells,DtCatalog.cells,DtCSet.cells,DtSaid.cells,zbd,zbs,-aAppZ];done));simp (disch:=omega) [zG14,cS,scC,DtState.cells,DtCatalog.cells,DtCSet.cells,DtSaid.cells,zbd,zbs,-aAppZ])|(refine ⟨λ_=>?_,λ_=>?_⟩)|(refine ⟨by omega,?_⟩)|(simp (disch:=omega) [zG14,cS,scC,DtState.cells,DtCatalog.cells,DtCSet.cells,DtSaid.cells,zbd,zbs,-aAppZ])|(intro _)
    all_goals (refine hK _ ?_;clear hK K)
    all_goals
     refine zbf ?_
     refine AW_x rfl rfl λK hK=>?_
     simp (disch:=omega) [zG14,cS,scC,DtState.cells,DtCatalog.cells,DtCSet.cells,DtSaid.cells,zbd,zbs,-aAppZ]
     repeat' first|(refine ⟨by omega,?_⟩)|(intro _)
     refine hK _ ?_;clear hK K
     refine zbm ?_
     refine zbw (λmM sS=>∃(j:Nat) (k:List DtSaid) (z:Sc),mM=(manyI 9 y).1.toNat-j∧((j:Int)≤(manyI 9 y).1∧k.length=j∧saidsI ((manyI 9 y).1.toNat-j) (k,z)=rsB (rsA s).2∧z.1.length≤1048576)∧sS = { env:=lkE [(0,.s s),(2,.ptr 48 0),(4,.ptr 192 0),(5,.ptr 96 0),(31,(.g (.int .i64 ((manyI 9 y).1)))),(32,(.g (.int .i64 ((j:Nat)))))],ob:=lk [(192,.cells (scC z)),(48,.cells [.g (.slice none 0 0),.g (.slice none 0 0)]),(96,.cells [.arr 500 0 l.length,.arr 501 0 k.length]),(500,.own 2 (l.map DtCSet.cells)),(501,.own 3 (k.map DtSaid.cells))] }) ?_ ?_
     ·refine ⟨_,LeS.trans (LeS.znc (cs:=[.arr 500 0 l.length,.g (.slice none 0 0)]) 501 3 96 1 (by simp [zG15,zby]) (by simp [zG15,zby,DtCSet.cells,DtSaid.cells]) (by rfl)) (LeS.kx [(192,192),(48,48),(96,96),(500,500),(501,501)] [(0,.s s),(2,.ptr 48 0),(4,.ptr 192 0),(5,.ptr 96 0),(31,(.g (.int .i64 ((manyI 9 y).1)))),(32,(.g (.int .i64 (((0):Nat)))))] [(192,.cells (scC ((manyI 9 y).2))),(48,.cells [.g (.slice none 0 0),.g (.slice none 0 0)]),(96,.cells [.arr 500 0 l.length,.arr 501 0 ([]).length]),(500,.own 2 (l.map DtCSet.cells)),(501,.own 3 (([]).map DtSaid.cells))] (by simp [zG15,KpR,renV2,renV,zby,DtCSet.cells,DtSaid.cells];try (first | with_reducible rfl | omega|(simp;done))) (by simp [zG15,KpOX,renO,plO,cvO,renV,pl1,DtCSet.cells,DtSaid.cells];try (first | with_reducible rfl | exact ⟨⟨rfl,rfl⟩,⟨rfl,rfl,rfl⟩,zbs k⟩|(simp [DtSaid.cells,saidI];done) | trace_state)) (by rfl) (by simp) (by simp) (by rfl) (by simp [formsX,List.range_succ,zbt,zb0])),_,0,[],(manyI 9 y).2,rfl,?_,rfl⟩
      ·exact ⟨by omega,rfl,hrB,by omega⟩
     ·rintro mM sS ⟨j,k,z,rfl,⟨hjK,hkj,htz,hz⟩,rfl⟩
      refine AW_x rfl rfl λK hK=>?_
      simp (disch:=omega) [zG14,cS,scC,DtState.cells,DtCatalog.cells,DtCSet.cells,DtSaid.cells,zbd,zbs,-aAppZ]
      repeat' first|(refine ⟨by omega,?_⟩)|(intro _)
      refine hK _ ?_;clear hK K
      refine zbf ?_
      refine zbi rfl (λhc2=>?_) (λhc2=>?_)
      ·try simp [zbk,zbh,zbb,zba] at hc2
       all_goals
        have hz1:(numI z).2.1.length≤1048576:=by have:=zgd z;omega
        have hz2:(numI (numI z).2).2.1.length≤1048576:=by have:=zgd (numI z).2;omega
        refine zbj ?_
        refine zbo ?_
        refine zbf ?_
        refine zbm ?_
        refine AW_x rfl rfl λK hK=>?_
        simp (disch:=omega) [zG14,cS,scC,DtState.cells,DtCatalog.cells,DtCSet.cells,DtSaid.cells,zbd,zbs,-aAppZ]
        repeat' first|(exfalso;omega)|(refine zb6 [192] false [] (zkk z hz) ?_ ?_ ?_;(focus (simp [List.range_succ,nmC];done));(focus (simp (disch:=omega) [zG14,cS,scC,DtState.cells,DtCatalog.cells,DtCSet.cells,DtSaid.cells,zbd,zbs,-aAppZ];done));simp (disch:=omega) [zG14,cS,scC,DtState.cells,DtCatalog.cells,DtCSet.cells,DtSaid.cells,zbd,zbs,-aAppZ])|(refine zb6 [192] false [] (zkk (numI z).2 hz1) ?_ ?_ ?_;(focus (simp [List.range_succ,nmC];done));(focus (simp (disch:=omega) [zG14,cS,scC,DtState.cells,DtCatalog.cells,DtCSet.cells,DtSaid.cells,zbd,zbs,-aAppZ];done));simp (disch:=omega) [zG14,cS,scC,DtState.cells,DtCatalog.cells,DtCSet.cells,DtSaid.cells,zbd,zbs,-aAppZ])|(refine ⟨λ_=>?_,λ_=>?_⟩)|(refine ⟨by omega,?_⟩)|(simp (disch:=omega) [zG14,cS,scC,DtState.cells,DtCatalog.cells,DtCSet.cells,DtSaid.cells,zbd,zbs,-aAppZ])|(intro _)
        all_goals (refine hK _ ?_;clear hK K)
        all_goals
         refine AW_x rfl rfl λK hK=>?_
         simp (disch:=omega) [zG14,cS,scC,DtState.cells,DtCatalog.cells,DtCSet.cells,DtSaid.cells,zbd,zbs,-aAppZ]
         repeat' first|(exfalso;omega)|(refine zb6 [192] false [] (zkk z hz) ?_ ?_ ?_;(focus (simp [List.range_succ,nmC];done));(focus (simp (disch:=omega) [zG14,cS,scC,DtState.cells,DtCatalog.cells,DtCSet.cells,DtSaid.cells,zbd,zbs,-aAppZ];done));simp (disch:=omega) [zG14,cS,scC,DtState.cells,DtCatalog.cells,DtCSet.cells,DtSaid.cells,zbd,zbs,-aAppZ])|(refine zb6 [192] false [] (zkk (numI z).2 hz1) ?_ ?_ ?_;(focus (simp [List.range_succ,nmC];done));(focus (simp (disch:=omega) [zG14,cS,scC,DtState.cells,DtCatalog.cells,DtCSet.cells,DtSaid.cells,zbd,zbs,-aAppZ];done));simp (disch:=omega) [zG14,cS,scC,DtState.cells,DtCatalog.cells,DtCSet.cells,DtSaid.cells,zbd,zbs,-aAppZ])|(refine ⟨by omega,?_⟩)|(simp (disch:=omega) [zG14,cS,scC,DtState.cells,DtCatalog.cells,DtCSet.cells,DtSaid.cells,zbd,zbs,-aAppZ])|(intro _)
         refine hK _ ?_;clear hK K
         refine AW_x rfl rfl λK hK=>?_
         simp (disch:=omega) [zG14,cS,scC,DtState.cells,DtCatalog.cells,DtCSet.cells,DtSaid.cells,zbd,zbs,-aAppZ]
         repeat' first|(exfalso;omega)|(refine zb6 [192] false [] (zfg (numI (numI z).2).2 hz2) ?_ ?_ ?_;(focus (simp [List.range_succ,nmC];done));(focus (simp (disch:=omega) [zG14,cS,scC,DtState.cells,DtCatalog.cells,DtCSet.cells,DtSaid.cells,zbd,zbs,-aAppZ];done));simp (disch:=omega) [zG14,cS,scC,DtState.cells,DtCatalog.cells,DtCSet.cells,DtSaid.cells,zbd,zbs,-aAppZ])|(refine ⟨by omega,?_⟩)|(simp (disch:=omega) [zG14,cS,scC,DtState.cells,DtCatalog.cells,DtCSet.cells,DtSaid.cells,zbd,zbs,-aAppZ])|(intro _)
         refine hK _ ?_;clear hK K
         refine zdc rfl rfl λK hK=>?_
         simp (disch:=omega) [zG14,cS,scC,DtState.cells,DtCatalog.cells,DtCSet.cells,DtSaid.cells,zbd,zbs,-aAppZ]
         repeat' first|(refine ⟨by omega,?_⟩)|(simp (disch:=omega) [zG14,cS,scC,DtState.cells,DtCatalog.cells,DtCSet.cells,DtSaid.cells,zbd,zbs,-aAppZ])|(intro _)
         refine hK _ ?_;clear hK K
         refine zbo ?_
         refine zdc rfl rfl λK hK=>?_
         simp (disch:=omega) [zG14,cS,scC,DtState.cells,DtCatalog.cells,DtCSet.cells,DtSaid.cells,zbd,zbs,-aAppZ]
         repeat' first|(refine ⟨by omega,?_⟩)|(intro _)
         refine hK _ ?_;clear hK K
         refine ⟨_,LeS.kx [(192,192),(48,48),(96,96),(500,500),(501,768)] [(0,.s s),(2,.ptr 48 0),(4,.ptr 192 0),(5,.ptr 96 0),(31,(.g (.int .i64 ((manyI 9 y).1)))),(32,(.g (.int .i64 (((j+1):Nat)))))] [(192,.cells (scC ((saidI z).2))),(48,.cells [.g (.slice none 0 0),.g (.slice none 0 0)]),(96,.cells [.arr 500 0 l.length,.arr 501 0 (k++[(saidI z).1]).length]),(500,.own 2 (l.map DtCSet.cells)),(501,.own 3 ((k++[(saidI z).1]).map DtSaid.cells))] (by simp [zG15,KpR,renV2,renV,zby,DtCSet.cells,DtSaid.cells];try (first | with_reducible rfl | omega|(simp;done))) (by simp [zG15,KpOX,renO,plO,cvO,renV,pl1,DtCSet.cells,DtSaid.cells];try (first | with_reducible rfl | exact ⟨⟨rfl,rfl⟩,⟨rfl,rfl,rfl⟩,zbs k⟩|(simp [DtSaid.cells,saidI];done) | trace_state)) (by rfl) (by simp) (by simp) (by rfl) (by simp [formsX,List.range_succ,zbt,zb0]),_,?_,j+1,k++[(saidI z).1],(saidI z).2,rfl,?_,rfl⟩
         ·omega
         ·have h5:=zx0 z;refine ⟨by omega,by simp;omega,?_,by omega⟩;rw [←htz];have e:(manyI 9 y).1.toNat-j=((manyI 9 y).1.toNat-(j+1))+1:=(by omega);rw [e,saidsI]
      ·try simp [zbk,zbh,zbb,zba] at hc2
       all_goals
        have hJ:(manyI 9 y).1.toNat-j=0:=by omega
        rw [hJ,saidsI] at htz
        have hrd:readI s=(⟨⟨l⟩,k⟩,z):=by unfold readI;rw [←htz,←htx]
        have hsz:z.2=false→DtState.sz ⟨⟨l⟩,k⟩≤1048576:=λh=>by have:=zs9 (s:=s) (by rw [hrd];exact h);rw [hrd] at this;show DtState.sz ⟨⟨l⟩,k⟩≤_;dsimp only at this;omega
        refine zb4 ?_
        refine zbo ?_
        refine zbf ?_
        refine AW_x rfl rfl λK hK=>?_
        simp (disch:=omega) [zG14,cS,scC,DtState.cells,DtCatalog.cells,DtCSet.cells,DtSaid.cells,zbd,zbs,-aAppZ]
        repeat' first|(exfalso;omega)|(refine zgh (zbe (zca rfl) zbn) (zhy ⟨⟨l⟩,k⟩ (hsz (by assumption))) rfl ?_;simp (disch:=omega) [zG14,cS,scC,DtState.cells,DtCatalog.cells,DtCSet.cells,DtSaid.cells,zbd,zbs,-aAppZ])|(refine zgi (zhy ⟨⟨l⟩,k⟩ (hsz (by assumption))) (by rfl) ?_ ?_;(focus (simp (disch:=omega) [zG14,cS,scC,DtState.cells,DtCatalog.cells,DtCSet.cells,DtSaid.cells,zbd,zbs,-aAppZ];done));simp (disch:=omega) [zG14,cS,scC,DtState.cells,DtCatalog.cells,DtCSet.cells,DtSaid.cells,zbd,zbs,-aAppZ])|(refine ⟨λ_=>?_,λ_=>?_⟩)|(refine ⟨by omega,?_⟩)|(simp (disch:=omega) [zG14,cS,scC,DtState.cells,DtCatalog.cells,DtCSet.cells,DtSaid.cells,zbd,zbs,-aAppZ])|(intro _)
        all_goals (refine hK _ ?_;clear hK K)
        all_goals
         refine zbi rfl (λhc3=>?_) (λhc3=>?_)
         ·try simp [zbk,zbh,zbb,zba] at hc3
          all_goals
           have hri:RSI s=(⟨⟨[]⟩,[]⟩,false):=rsi_f (by rw [hrd];simp_all)
           rw [hri]
           refine AW_x rfl rfl λK hK=>?_
           simp (disch:=omega) [zG14,cS,scC,DtState.cells,DtCatalog.cells,DtCSet.cells,DtSaid.cells,zbd,zbs,-aAppZ]
           repeat' first|(exfalso;omega)|(refine ⟨λ_=>?_,λ_=>?_⟩)|(refine ⟨by omega,?_⟩)|(simp (disch:=omega) [zG14,cS,scC,DtState.cells,DtCatalog.cells,DtCSet.cells,DtSaid.cells,zbd,zbs,-aAppZ])|(intro _)
           all_goals (refine hK _ ?_;clear hK K)
           all_goals
            refine zbl (zcd [1000,1001] [(1000,2),(1001,3)] (by simp [zG15,List.range_succ]) (by simp) ?_)
            simp (disch:=omega) [zG14,cS,scC,DtState.cells,DtCatalog.cells,DtCSet.cells,DtSaid.cells,zbd,zbs,-aAppZ]
            all_goals first | exact ⟨rfl,rfl,rfl⟩ | omega | trace_state
         ·try simp [zbk,zbh,zbb,zba] at hc3
          all_goals
           refine zbj ?_
           refine zbo ?_
           have hri:RSI s=(⟨⟨l⟩,k⟩,true):=(rsi_t (by rw [hrd];simp_all) (by simp_all) (by rw [hrd];simp_all)).trans (by rw [hrd])
           rw [hri]
           refine AW_x rfl rfl λK hK=>?_
           simp (disch:=omega) [zG14,cS,scC,DtState.cells,DtCatalog.cells,DtCSet.cells,DtSaid.cells,zbd,zbs,-aAppZ]
           repeat' first|(exfalso;omega)|(refine ⟨λ_=>?_,λ_=>?_⟩)|(refine ⟨by omega,?_⟩)|(simp (disch:=omega) [zG14,cS,scC,DtState.cells,DtCatalog.cells,DtCSet.cells,DtSaid.cells,zbd,zbs,-aAppZ])|(intro _)
           all_goals (refine hK _ ?_;clear hK K)
           all_goals
            refine zbl (zcd [500,501] [] (by simp [zG15,List.range_succ]) (by simp) ?_)
            simp (disch:=omega) [zG14,cS,scC,DtState.cells,DtCatalog.cells,DtCSet.cells,DtSaid.cells,zbd,zbs,-aAppZ]
            all_goals first | exact ⟨rfl,rfl,rfl⟩ | omega | trace_state
end Go.Proofs.Ytchpfloemfoomaa.Vs
end
