import Derived.Test.YtchpfloemfoomaaDoorSM4
import Derived.Test.YtchpfloemfoomaaDoorSM1
import Derived.LaidLaws
import Derived.ChangeVars
import Derived.OpenShut
section
open Go Go.Proofs Go.Proofs.YtchpfloemfoomaaDoor.Vs
namespace Go.Proofs.YtchpfloemfoomaaDoor.Vs
set_option linter.all false
set_option maxRecDepth 100000
set_option maxHeartbeats 2000000
def zG8:=And.intro @zjo (And.intro @gE @tP)
theorem l15In(l:List (List UInt8))(x:List UInt8)(hn:l.length≤1048576):PCall Tryd.prog 23 [.sl 1 (l.map cS),.s x] (.g (.bool (decB (x∈l)))):=by
 refine zbl Tryd.func23 (by rfl) (by rfl) (by rw [Tryd.ntmps23];exact Nat.le_of_ble_eq_true rfl) rfl (by decide) ?_
 rw [Tryd.ntmps23]
 refine AW_k [(0,_),(1,_)] ⟨rfl,rfl,trivial⟩ ?_
 refine AW_r rfl rfl λK hK=>?_
 simp (disch:=omega) [zG8]
 repeat' first|(refine ⟨by omega,?_⟩)|(intro _)
 refine hK _ ?_;clear hK K
 refine zbf ?_
 refine AW_r rfl rfl λK hK=>?_
 simp (disch:=omega) [zG8]
 repeat' first|(refine ⟨by omega,?_⟩)|(intro _)
 refine hK _ ?_;clear hK K
 refine zbg ?_
 refine zbr (λmM sS=>∃(i:Nat),mM=l.length-i∧(i≤l.length∧∀(j:Nat) y,j<i→l[j]? = some y→y≠x)∧sS = { env:=lkE [(0,.sl 1 (l.map cS)),(1,.s x),(5,(.g (.int .i64 ((i:Nat)))))],ob:=formOb [] [] }) ?_ ?_
 ·refine ⟨_,LeS.kp [(0,.sl 1 (l.map cS)),(1,.s x),(5,(.g (.int .i64 (((0):Nat)))))] (by simp [KpE,zc0,zbh,zce];try rfl),_,0,rfl,?_,rfl⟩
  ·simp
 ·rintro mM sS ⟨i,rfl,⟨hi,hpre⟩,rfl⟩
  refine zbf ?_
  refine AW_r rfl rfl λK hK=>?_
  simp (disch:=omega) [zG8,cS]
  repeat' first|(refine ⟨by omega,?_⟩)|(intro _)
  refine hK _ ?_;clear hK K
  refine zbo rfl (λhc1=>?_) (λhc1=>?_)
  ·try simp [zbw,zbs,zb0,zbv] at hc1
   all_goals
    have hg:l[i]? = some l[i]:=List.getElem?_eq_getElem (by omega)
    refine zbn ?_
    refine zbj ?_
    refine zbf ?_
    refine zbg ?_
    refine AW_r rfl rfl λK hK=>?_
    simp (disch:=omega) [zG8,cS]
    repeat' first|(exfalso;omega)|(refine ⟨λ_=>?_,λ_=>?_⟩)|(refine ⟨by omega,?_⟩)|(intro _)
    all_goals (refine hK _ ?_;clear hK K)
    all_goals
     refine zbo rfl (λhc2=>?_) (λhc2=>?_)
     ·try simp [zbw,zbs,zb0,zbv] at hc2
      all_goals
       refine AW_r rfl rfl λK hK=>?_
       simp (disch:=omega) [zG8,cS]
       repeat' first|(exfalso;omega)|(refine ⟨λ_=>?_,λ_=>?_⟩)|(refine ⟨by omega,?_⟩)|(intro _)
       all_goals (refine hK _ ?_;clear hK K)
       all_goals
        refine zbz (zde ?_)
        simp (disch:=omega) [zG8,cS]
        all_goals first|(refine zq6 λh=>?_;grind [List.mem_iff_getElem?])|(refine zq5 ?_;grind [List.mem_iff_getElem?])
     ·try simp [zbw,zbs,zb0,zbv] at hc2
      all_goals
       refine zbn ?_
       refine zbj ?_
       refine zjm rfl rfl λK hK=>?_
       simp (disch:=omega) [zG8,cS]
       repeat' first|(exfalso;omega)|(refine ⟨λ_=>?_,λ_=>?_⟩)|(refine ⟨by omega,?_⟩)|(intro _)
       all_goals (refine hK _ ?_;clear hK K)
       all_goals
        refine ⟨_,LeS.kp [(0,.sl 1 (l.map cS)),(1,.s x),(5,(.g (.int .i64 (((i+1):Nat)))))] (by simp [KpE,zc0,zbh,zce];try rfl),_,?_,i+1,rfl,?_,rfl⟩
        ·omega
        ·refine ⟨by omega,?_⟩;grind
  ·try simp [zbw,zbs,zb0,zbv] at hc1
   all_goals
    refine zb4 ?_
    refine zbj ?_
    refine AW_r rfl rfl λK hK=>?_
    simp (disch:=omega) [zG8,cS]
    repeat' first|(exfalso;omega)|(refine ⟨λ_=>?_,λ_=>?_⟩)|(refine ⟨by omega,?_⟩)|(intro _)
    all_goals (refine hK _ ?_;clear hK K)
    all_goals
     refine zbz (zde ?_)
     simp (disch:=omega) [zG8,cS]
     all_goals first|(refine zq6 λh=>?_;grind [List.mem_iff_getElem?])|(refine zq5 ?_;grind [List.mem_iff_getElem?])
theorem indexS(l:List (List UInt8))(x:List UInt8)(hn:l.length≤1048576):PCall Tryd.prog 37 [.sl 1 (l.map cS),.s x] (.g (.int .i64 (idxZ (λy=>eqB x y) l))):=by
 refine zbl Tryd.func37 (by rfl) (by rfl) (by rw [Tryd.ntmps37];exact Nat.le_of_ble_eq_true rfl) rfl (by decide) ?_
 rw [Tryd.ntmps37]
 refine AW_k [(0,_),(1,_)] ⟨rfl,rfl,trivial⟩ ?_
 refine AW_r rfl rfl λK hK=>?_
 simp (disch:=omega) [zG8]
 repeat' first|(refine ⟨by omega,?_⟩)|(intro _)
 refine hK _ ?_;clear hK K
 refine zbf ?_
 refine AW_r rfl rfl λK hK=>?_
 simp (disch:=omega) [zG8]
 repeat' first|(refine ⟨by omega,?_⟩)|(intro _)
 refine hK _ ?_;clear hK K
 refine zbg ?_
 refine zbr (λmM sS=>∃(i:Nat),mM=l.length-i∧(i≤l.length∧∀(j:Nat) y,j<i→l[j]? = some y→eqB x y=false)∧sS = { env:=lkE [(0,.sl 1 (l.map cS)),(1,.s x),(6,.sl 1 (l.map cS)),(7,(.g (.int .i64 ((l.length:Nat))))),(8,(.g (.int .i64 ((i:Nat)))))],ob:=formOb [] [] }) ?_ ?_
 ·refine ⟨_,LeS.kp [(0,.sl 1 (l.map cS)),(1,.s x),(6,.sl 1 (l.map cS)),(7,(.g (.int .i64 ((l.length:Nat))))),(8,(.g (.int .i64 (((0):Nat)))))] (by simp [KpE,zc0,zbh,zce];try rfl),_,0,rfl,?_,rfl⟩
  ·simp
 ·rintro mM sS ⟨i,rfl,⟨hi,hpre⟩,rfl⟩
  refine AW_r rfl rfl λK hK=>?_
  simp (disch:=omega) [zG8,cS]
  repeat' first|(refine ⟨by omega,?_⟩)|(intro _)
  refine hK _ ?_;clear hK K
  refine zbf ?_
  refine zbo rfl (λhc3=>?_) (λhc3=>?_)
  ·try simp [zbw,zbs,zb0,zbv] at hc3
   all_goals
    have hg:l[i]? = some l[i]:=List.getElem?_eq_getElem (by omega)
    refine zbn ?_
    refine zbj ?_
    refine zbf ?_
    refine zbg ?_
    refine AW_r rfl rfl λK hK=>?_
    simp (disch:=omega) [zG8,cS]
    repeat' first|(exfalso;omega)|(refine ⟨λ_=>?_,λ_=>?_⟩)|(refine ⟨by omega,?_⟩)|(intro _)
    all_goals (refine hK _ ?_;clear hK K)
    all_goals
     refine AW_r rfl rfl λK hK=>?_
     simp (disch:=omega) [zG8,cS]
     repeat' first|(refine ⟨by omega,?_⟩)|(intro _)
     refine hK _ ?_;clear hK K
     refine zbo rfl (λhc4=>?_) (λhc4=>?_)
     ·try simp [zbw,zbs,zb0,zbv] at hc4
      all_goals
       refine AW_r rfl rfl λK hK=>?_
       simp (disch:=omega) [zG8,cS]
       repeat' first|(exfalso;omega)|(refine ⟨λ_=>?_,λ_=>?_⟩)|(refine ⟨by omega,?_⟩)|(intro _)
       all_goals (refine hK _ ?_;clear hK K)
       all_goals
        refine zbz (zde ?_)
        simp (disch:=omega) [zG8,cS]
        all_goals first|(exact zk8 (by assumption) (by simp_all [zb0]) hpre)|(exact znk (λj x h=>hpre j x (by omega)))
     ·try simp [zbw,zbs,zb0,zbv] at hc4
      all_goals
       refine zbn ?_
       refine zbj ?_
       refine zjm rfl rfl λK hK=>?_
       simp (disch:=omega) [zG8,cS]
       repeat' first|(exfalso;omega)|(refine ⟨λ_=>?_,λ_=>?_⟩)|(refine ⟨by omega,?_⟩)|(intro _)
       all_goals (refine hK _ ?_;clear hK K)
       all_goals
        refine ⟨_,LeS.kp [(0,.sl 1 (l.map cS)),(1,.s x),(6,.sl 1 (l.map cS)),(7,(.g (.int .i64 ((l.length:Nat))))),(8,(.g (.int .i64 (((i+1):Nat)))))] (by simp [KpE,zc0,zbh,zce];try rfl),_,?_,i+1,rfl,?_,rfl⟩
        ·omega
        ·refine ⟨by omega,?_⟩;grind [zbv]
  ·try simp [zbw,zbs,zb0,zbv] at hc3
   all_goals
    refine zb4 ?_
    refine zbj ?_
    refine AW_r rfl rfl λK hK=>?_
    simp (disch:=omega) [zG8,cS]
    repeat' first|(exfalso;omega)|(refine ⟨λ_=>?_,λ_=>?_⟩)|(refine ⟨by omega,?_⟩)|(intro _)
    all_goals (refine hK _ ?_;clear hK K)
    all_goals
     refine zbz (zde ?_)
     simp (disch:=omega) [zG8,cS]
     all_goals first|(exact zk8 (by assumption) (by simp_all [zb0]) hpre)|(exact znk (λj x h=>hpre j x (by omega)))
theorem zhu(l:List (List UInt8))(x:List UInt8):decide (0≤idxZ (λy=>eqB x y) l)=decB (x∈l):=by
 rw [Bool.eq_iff_iff,zbw]
 simp only [decide_eq_true_eq]
 unfold idxZ
 split
 ·rename_i i h
  obtain ⟨h1,h2,-⟩:=List.findIdx?_eq_some_iff_getElem.1 h
  rw [zb0] at h2
  exact ⟨λ_=>h2 ▸ List.getElem_mem _,λ_=>by omega⟩
 ·rename_i h
  rw [List.findIdx?_eq_none_iff] at h
  refine ⟨λh=>by omega,λhx=>?_⟩
  have:=h x hx
  simp [zb5] at this
theorem zn1(l:List (List UInt8))(x:List UInt8)(hn:l.length≤1048576):PCall Tryd.prog 24 [.sl 1 (l.map cS),.s x] (.g (.bool (decB (x∈l)))):=by
 refine zbl Tryd.func24 (by rfl) (by rfl) (by rw [Tryd.ntmps24];exact Nat.le_of_ble_eq_true rfl) rfl (by decide) ?_
 rw [Tryd.ntmps24]
 refine AW_k [(0,_),(1,_)] ⟨rfl,rfl,trivial⟩ ?_
 refine AW_r rfl rfl λK hK=>?_
 simp (disch:=omega) [zG8,zhu]
 repeat' first|(refine ⟨by omega,?_⟩)|(intro _)
 refine hK _ ?_;clear hK K
 refine AW_r rfl rfl λK hK=>?_
 simp (disch:=omega) [zG8,zhu]
 repeat' first|(exfalso;omega)|(refine zjn (zbd ztp (zbd zft zbk)) (indexS _ _ (by omega)) rfl ?_;simp (disch:=omega) [zG8,zhu])|(refine ⟨by omega,?_⟩)|(intro _)
 refine hK _ ?_;clear hK K
 refine zbz (zde ?_)
 simp (disch:=omega) [zG8,zhu]
 all_goals first | omega|(simp_all;done)|(simp [List.take_of_length_le];done)|((try simp_all);(try simp (disch:=omega) only [zjo,Int.tdiv_eq_ediv_of_nonneg,Int.tmod_eq_emod_of_nonneg,and_true,true_and]);done)|((try simp_all);(try simp (disch:=omega) only [zjo,Int.tdiv_eq_ediv_of_nonneg,Int.tmod_eq_emod_of_nonneg,and_true,true_and] at *);omega)
end Go.Proofs.YtchpfloemfoomaaDoor.Vs
end
section
open Go Go.Proofs Go.Proofs.YtchpfloemfoomaaDoor.Vs
namespace Go.Proofs.YtchpfloemfoomaaDoor.Vs
set_option linter.all false
set_option maxRecDepth 100000
set_option maxHeartbeats 2000000
/-- How many of the second text's pieces are among the first's. -/
noncomputable def shN(a b:List UInt8)(i:Nat):Nat:=(((idsL b).take i).filter λx=>decB (x∈idsL a)).length
theorem zv4(a b:List UInt8):shN a b 0=0:=by simp [shN]
theorem shN_s(a b:List UInt8)(i:Nat)(h:i<(idsL b).length):shN a b (i+1)=shN a b i+(if decB ((idsL b)[i]∈idsL a)=true then 1 else 0):=by
 unfold shN
 rw [List.take_succ_eq_append_getElem h,List.filter_append,List.length_append]
 cases hb:decB ((idsL b)[i]∈idsL a)<;>simp [hb]
theorem shN_le(a b:List UInt8)(i:Nat):shN a b i≤401:=by
 have h1:=zgb b
 have h2:=zht b
 unfold shN
 have h3:=List.length_filter_le (λx=>decB (x∈idsL a)) ((idsL b).take i)
 have h4:=List.length_take_le i (idsL b)
 have h5:((idsL b).take i).length≤(idsL b).length:=by rw [List.length_take];exact Nat.min_le_right _ _
 omega
theorem zgh(a:List UInt8):(idsL a).length≤1048576:=by have:=zgb a;have:=zht a;omega
def zG9:=And.intro @zjo (And.intro @gE (And.intro @tP (And.intro @zbe @zv4)))
def zG10:=And.intro @zce (And.intro @zfo (And.intro @zc0 @zv4))
theorem zsg(a b:List UInt8):PCall Tryd.prog 11 [.s a,.s b] (.g (.int .i64 ((shN a b (idsL b).length:Nat)))):=by
 refine zbl Tryd.func11 (by rfl) (by rfl) (by rw [Tryd.ntmps11];exact Nat.le_of_ble_eq_true rfl) rfl (by decide) ?_
 rw [Tryd.ntmps11]
 refine AW_k [(0,_),(1,_)] ⟨rfl,rfl,trivial⟩ ?_
 refine AW_r rfl rfl λK hK=>?_
 simp (disch:=omega) [zG9,cS]
 repeat' first|(refine ⟨by omega,?_⟩)|(intro _)
 refine hK _ ?_;clear hK K
 refine AW_r rfl rfl λK hK=>?_
 simp (disch:=omega) [zG9,cS]
 repeat' first|(exfalso;omega)|(refine zjn (zbd zft zbk) (zld _) rfl ?_;simp (disch:=omega) [zG9,cS])|(refine ⟨by omega,?_⟩)|(intro _)
 refine hK _ ?_;clear hK K
 refine AW_r rfl rfl λK hK=>?_
 simp (disch:=omega) [zG9,cS]
 repeat' first|(exfalso;omega)|(refine zjn (zbd zft zbk) (zld _) rfl ?_;simp (disch:=omega) [zG9,cS])|(refine ⟨by omega,?_⟩)|(intro _)
 refine hK _ ?_;clear hK K
 refine AW_r rfl rfl λK hK=>?_
 simp (disch:=omega) [zG9,cS]
 repeat' first|(refine ⟨by omega,?_⟩)|(intro _)
 refine hK _ ?_;clear hK K
 refine zbf ?_
 refine AW_r rfl rfl λK hK=>?_
 simp (disch:=omega) [zG9,cS]
 repeat' first|(refine ⟨by omega,?_⟩)|(intro _)
 refine hK _ ?_;clear hK K
 refine zbg ?_
 have hsn:True:=trivial
 refine zbr (λmM sS=>∃(i:Nat),mM=(idsL b).length-i∧(i≤(idsL b).length)∧sS = { env:=lkE [(5,.sl 1 ((idsL a).map cS)),(6,.sl 1 ((idsL b).map cS)),(7,(.g (.int .i64 ((shN a b i:Nat))))),(8,(.g (.int .i64 ((i:Nat)))))],ob:=lk [] }) ?_ ?_
 ·refine ⟨_,LeS.ko [(5,.sl 1 ((idsL a).map cS)),(6,.sl 1 ((idsL b).map cS)),(7,(.g (.int .i64 ((shN a b (0):Nat))))),(8,(.g (.int .i64 (((0):Nat)))))] [] (by simp [KpE,zc0,zbh,zce,zv4,hsn];first|(simp;done) | omega | trace_state) (by simp [zG10,KpO,zcs,hsn];try rfl) (by rfl) (by simp) (by rfl),_,0,rfl,?_,rfl⟩
  ·simp
 ·rintro mM sS ⟨i,rfl,hi,rfl⟩
  have hbl:=zgh b
  have hsl:=shN_le a b i
  refine zbf ?_
  refine AW_r rfl rfl λK hK=>?_
  simp (disch:=omega) [zG9,cS]
  repeat' first|(refine ⟨by omega,?_⟩)|(intro _)
  refine hK _ ?_;clear hK K
  refine zbo rfl (λhc1=>?_) (λhc1=>?_)
  ·try simp [zbw,zbs,zb0,zbv] at hc1
   all_goals
    refine zbn ?_
    refine zbj ?_
    refine zbf ?_
    refine zbg ?_
    refine AW_r rfl rfl λK hK=>?_
    simp (disch:=omega) [zG9,cS]
    repeat' first|(exfalso;omega)|(refine zjn (zbd ztp (zbd zft zbk)) (l15In _ _ (zgh a)) rfl ?_;simp (disch:=omega) [zG9,cS])|(refine ⟨λ_=>?_,λ_=>?_⟩)|(refine ⟨by omega,?_⟩)|(intro _)
    all_goals (refine hK _ ?_;clear hK K)
    all_goals
     refine zbo rfl (λhc2=>?_) (λhc2=>?_)
     ·try simp [zbw,zbs,zb0,zbv] at hc2
      all_goals
       refine zjm rfl rfl λK hK=>?_
       simp (disch:=omega) [zG9,cS]
       repeat' first|(exfalso;omega)|(refine ⟨λ_=>?_,λ_=>?_⟩)|(refine ⟨by omega,?_⟩)|(intro _)
       all_goals (refine hK _ ?_;clear hK K)
       all_goals
        refine zbj ?_
        refine zjm rfl rfl λK hK=>?_
        simp (disch:=omega) [zG9,cS]
        repeat' first|(refine ⟨by omega,?_⟩)|(intro _)
        refine hK _ ?_;clear hK K
        have hsn:shN a b (i+1)=shN a b i+1:=by rw [shN_s a b i (by omega),if_pos (zq5 (by assumption))]
        refine ⟨_,LeS.ko [(5,.sl 1 ((idsL a).map cS)),(6,.sl 1 ((idsL b).map cS)),(7,(.g (.int .i64 ((shN a b (i+1):Nat))))),(8,(.g (.int .i64 (((i+1):Nat)))))] [] (by simp [KpE,zc0,zbh,zce,zv4,hsn];first|(simp;done) | omega | trace_state) (by simp [zG10,KpO,zcs,hsn];try rfl) (by rfl) (by simp) (by rfl),_,?_,i+1,rfl,?_,rfl⟩
        ·omega
        ·omega
     ·try simp [zbw,zbs,zb0,zbv] at hc2
      all_goals
       refine zbn ?_
       refine zbj ?_
       refine zjm rfl rfl λK hK=>?_
       simp (disch:=omega) [zG9,cS]
       repeat' first|(exfalso;omega)|(refine ⟨λ_=>?_,λ_=>?_⟩)|(refine ⟨by omega,?_⟩)|(intro _)
       all_goals (refine hK _ ?_;clear hK K)
       all_goals
        have hsn:shN a b (i+1)=shN a b i:=by rw [shN_s a b i (by omega),if_neg (by rw [zq6 (by assumption)];simp)];rfl
        refine ⟨_,LeS.ko [(5,.sl 1 ((idsL a).map cS)),(6,.sl 1 ((idsL b).map cS)),(7,(.g (.int .i64 ((shN a b (i+1):Nat))))),(8,(.g (.int .i64 (((i+1):Nat)))))] [] (by simp [KpE,zc0,zbh,zce,zv4,hsn];first|(simp;done) | omega | trace_state) (by simp [zG10,KpO,zcs,hsn];try rfl) (by rfl) (by simp) (by rfl),_,?_,i+1,rfl,?_,rfl⟩
        ·omega
        ·omega
  ·try simp [zbw,zbs,zb0,zbv] at hc1
   all_goals
    have hil:i=(idsL b).length:=by omega
    refine zb4 ?_
    refine zbj ?_
    refine AW_r rfl rfl λK hK=>?_
    simp (disch:=omega) [zG9,cS]
    repeat' first|(exfalso;omega)|(refine ⟨λ_=>?_,λ_=>?_⟩)|(refine ⟨by omega,?_⟩)|(intro _)
    all_goals (refine hK _ ?_;clear hK K)
    all_goals
     refine zbz (zde ?_)
     simp (disch:=omega) [zG9,cS]
     all_goals first|(rw [hil];done)|(simp [hil];done) | trace_state
theorem zsh(a b:List UInt8):XCall Tryd.prog 12 [.s a,.s b] [] (.g (.int .i64 ((shN a b (idsL b).length:Nat)))) [] []:=by
 refine zb6 Tryd.func12 (by rfl) (by rfl) (by rw [Tryd.ntmps12];exact Nat.le_of_ble_eq_true rfl) rfl (by simp) rfl rfl ?_
 rw [Tryd.ntmps12]
 refine znn   ?_
 refine AW_k [(0,_),(1,_)] ⟨rfl,rfl,trivial⟩ ?_
 refine AW_x rfl rfl λK hK=>?_
 simp (disch:=omega) [zG9,cS]
 repeat' first|(refine ⟨by omega,?_⟩)|(intro _)
 refine hK _ ?_;clear hK K
 refine AW_x rfl rfl λK hK=>?_
 simp (disch:=omega) [zG9,cS]
 repeat' first|(exfalso;omega)|(refine zp3 [] true [] (zfl a) ?_ ?_ ?_;(focus (simp [List.range_succ,nmC];done));(focus (simp (disch:=omega) [zG9,cS];done));simp (disch:=omega) [zG9,cS])|(refine zp3 [] true [] (zfl b) ?_ ?_ ?_;(focus (simp [List.range_succ,nmC];done));(focus (simp (disch:=omega) [zG9,cS];done));simp (disch:=omega) [zG9,cS])|(refine ⟨by omega,?_⟩)|(simp (disch:=omega) [zG9,cS])|(intro _)
 refine hK _ ?_;clear hK K
 refine AW_x rfl rfl λK hK=>?_
 simp (disch:=omega) [zG9,cS]
 repeat' first|(refine ⟨by omega,?_⟩)|(intro _)
 refine hK _ ?_;clear hK K
 refine zbf ?_
 refine AW_x rfl rfl λK hK=>?_
 simp (disch:=omega) [zG9,cS]
 repeat' first|(exfalso;omega)|(refine zp3 [] true [] (zfl a) ?_ ?_ ?_;(focus (simp [List.range_succ,nmC];done));(focus (simp (disch:=omega) [zG9,cS];done));simp (disch:=omega) [zG9,cS])|(refine zp3 [] true [] (zfl b) ?_ ?_ ?_;(focus (simp [List.range_succ,nmC];done));(focus (simp (disch:=omega) [zG9,cS];done));simp (disch:=omega) [zG9,cS])|(refine ⟨by omega,?_⟩)|(simp (disch:=omega) [zG9,cS])|(intro _)
 refine hK _ ?_;clear hK K
 refine zbg ?_
 have hsn:True:=trivial
 refine zbr (λmM sS=>∃(i:Nat),mM=(idsL b).length-i∧(i≤(idsL b).length)∧sS = { env:=lkE [(5,.arr 176 0 (idsL a).length),(6,(.g (.int .i64 ((shN a b i:Nat))))),(12,.arr 208 0 (idsL b).length),(13,(.g (.int .i64 (((idsL b).length:Nat))))),(14,(.g (.int .i64 ((i:Nat)))))],ob:=lk [(176,.own 1 ((idsL a).map cS)),(208,.own 1 ((idsL b).map cS))] }) ?_ ?_
 ·refine ⟨_,LeS.kx [(176,176),(208,208)] [(5,.arr 176 0 (idsL a).length),(6,(.g (.int .i64 ((shN a b (0):Nat))))),(12,.arr 208 0 (idsL b).length),(13,(.g (.int .i64 (((idsL b).length:Nat))))),(14,(.g (.int .i64 (((0):Nat)))))] [(176,.own 1 ((idsL a).map cS)),(208,.own 1 ((idsL b).map cS))] (by simp [zG10,KpR,renV2,renV,zbh,hsn];first|(simp;done) | omega | trace_state) (by simp [zG10,KpOX,renO,plO,cvO,renV,pl1,hsn];try rfl) (by rfl) (by simp) (by simp) (by rfl) (by simp [formsX,List.range_succ,zce,zfo]),_,0,rfl,?_,rfl⟩
  ·simp
 ·rintro mM sS ⟨i,rfl,hi,rfl⟩
  have hbl:=zgh b
  have hsl:=shN_le a b i
  refine AW_x rfl rfl λK hK=>?_
  simp (disch:=omega) [zG9,cS]
  repeat' first|(refine ⟨by omega,?_⟩)|(intro _)
  refine hK _ ?_;clear hK K
  refine zbf ?_
  refine zbo rfl (λhc3=>?_) (λhc3=>?_)
  ·try simp [zbw,zbs,zb0,zbv] at hc3
   all_goals
    refine zbn ?_
    refine zbj ?_
    refine zbf ?_
    refine zbg ?_
    refine AW_x rfl rfl λK hK=>?_
    simp (disch:=omega) [zG9,cS]
    repeat' first|(exfalso;omega)|(refine ⟨λ_=>?_,λ_=>?_⟩)|(refine ⟨by omega,?_⟩)|(simp (disch:=omega) [zG9,cS])|(intro _)
    all_goals (refine hK _ ?_;clear hK K)
    all_goals
     refine AW_x rfl rfl λK hK=>?_
     simp (disch:=omega) [zG9,cS]
     repeat' first|(exfalso;omega)|(refine zjt (zbd ztp (zbd zft zbk)) (zn1 (idsL a) (idsL b)[i] (zgh a)) rfl ?_;simp (disch:=omega) [zG9,cS])|(refine zju (zn1 (idsL a) (idsL b)[i] (zgh a)) (by rfl) ?_ ?_;(focus (simp (disch:=omega) [zG9,cS];done));simp (disch:=omega) [zG9,cS])|(refine ⟨by omega,?_⟩)|(simp (disch:=omega) [zG9,cS])|(intro _)
     refine hK _ ?_;clear hK K
     refine zbo rfl (λhc4=>?_) (λhc4=>?_)
     ·try simp [zbw,zbs,zb0,zbv] at hc4
      all_goals
       refine zcp rfl rfl λK hK=>?_
       simp (disch:=omega) [zG9,cS]
       repeat' first|(exfalso;omega)|(refine ⟨λ_=>?_,λ_=>?_⟩)|(refine ⟨by omega,?_⟩)|(simp (disch:=omega) [zG9,cS])|(intro _)
       all_goals (refine hK _ ?_;clear hK K)
       all_goals
        refine zbj ?_
        refine zcp rfl rfl λK hK=>?_
        simp (disch:=omega) [zG9,cS]
        repeat' first|(refine ⟨by omega,?_⟩)|(intro _)
        refine hK _ ?_;clear hK K
        have hsn:shN a b (i+1)=shN a b i+1:=by rw [shN_s a b i (by omega),if_pos (zq5 (by assumption))]
        refine ⟨_,LeS.kx [(176,176),(208,208)] [(5,.arr 176 0 (idsL a).length),(6,(.g (.int .i64 ((shN a b (i+1):Nat))))),(12,.arr 208 0 (idsL b).length),(13,(.g (.int .i64 (((idsL b).length:Nat))))),(14,(.g (.int .i64 (((i+1):Nat)))))] [(176,.own 1 ((idsL a).map cS)),(208,.own 1 ((idsL b).map cS))] (by simp [zG10,KpR,renV2,renV,zbh,hsn];first|(simp;done) | omega | trace_state) (by simp [zG10,KpOX,renO,plO,cvO,renV,pl1,hsn];try rfl) (by rfl) (by simp) (by simp) (by rfl) (by simp [formsX,List.range_succ,zce,zfo]),_,?_,i+1,rfl,?_,rfl⟩
        ·omega
        ·omega
     ·try simp [zbw,zbs,zb0,zbv] at hc4
      all_goals
       refine zbn ?_
       refine zbj ?_
       refine zcp rfl rfl λK hK=>?_
       simp (disch:=omega) [zG9,cS]
       repeat' first|(exfalso;omega)|(refine ⟨λ_=>?_,λ_=>?_⟩)|(refine ⟨by omega,?_⟩)|(simp (disch:=omega) [zG9,cS])|(intro _)
       all_goals (refine hK _ ?_;clear hK K)
       all_goals
        have hsn:shN a b (i+1)=shN a b i:=by rw [shN_s a b i (by omega),if_neg (by rw [zq6 (by assumption)];simp)];rfl
        refine ⟨_,LeS.kx [(176,176),(208,208)] [(5,.arr 176 0 (idsL a).length),(6,(.g (.int .i64 ((shN a b (i+1):Nat))))),(12,.arr 208 0 (idsL b).length),(13,(.g (.int .i64 (((idsL b).length:Nat))))),(14,(.g (.int .i64 (((i+1):Nat)))))] [(176,.own 1 ((idsL a).map cS)),(208,.own 1 ((idsL b).map cS))] (by simp [zG10,KpR,renV2,renV,zbh,hsn];first|(simp;done) | omega | trace_state) (by simp [zG10,KpOX,renO,plO,cvO,renV,pl1,hsn];try rfl) (by rfl) (by simp) (by simp) (by rfl) (by simp [formsX,List.range_succ,zce,zfo]),_,?_,i+1,rfl,?_,rfl⟩
        ·omega
        ·omega
  ·try simp [zbw,zbs,zb0,zbv] at hc3
   all_goals
    have hil:i=(idsL b).length:=by omega
    refine zb4 ?_
    refine zbj ?_
    refine AW_x rfl rfl λK hK=>?_
    simp (disch:=omega) [zG9,cS]
    repeat' first|(exfalso;omega)|(refine ⟨λ_=>?_,λ_=>?_⟩)|(refine ⟨by omega,?_⟩)|(simp (disch:=omega) [zG9,cS])|(intro _)
    all_goals (refine hK _ ?_;clear hK K)
    all_goals
     refine zbz (zjv [] [] (by simp [List.range_succ,zce,zfo,zc0]) (by simp) ?_)
     simp (disch:=omega) [zG9,cS]
     all_goals first|(rw [hil];done)|(simp [hil];done) | trace_state
end Go.Proofs.YtchpfloemfoomaaDoor.Vs
end
section
open Go Go.Proofs Go.Proofs.YtchpfloemfoomaaDoor.Vs
namespace Go.Proofs.YtchpfloemfoomaaDoor.Vs
set_option linter.all false
set_option maxRecDepth 100000
/-! from what the row lists of the variable to what the walk asks of it -/
theorem zn2{w:World}{I:Nat→Prop}{b:Nat}:∀(ns:List Int) (o:Nat),(∀(i:Nat) n,ns[i]? = some n→w.cell? ⟨b,o+i,none⟩=some (.int .u32 n))→RIc w I b o (ns.map λn=>.g (.int .u32 n))
 | [],o,_=>by rw [List.map_nil,RIc];trivial
 | n :: ns,o,h=>by
  rw [List.map_cons,RIc]
  refine ⟨⟨.int .u32 n,by simpa using h 0 n rfl,by rw [RI];exact ⟨rfl,rfl⟩⟩,zn2 ns (o+1) λi m hm=>?_⟩
  have:=h (i+1) m (by simpa using hm)
  rwa [show o+1+i=o+(i+1) by omega]
theorem zsi{P:Program}{W:World}{vn:String}{vt e:TypeId}(hg:P.globalNamed vn=some 0)(ht:(P.globals[0]?).map (·.type)=some vt)(hu:P.underlying vt=some (.array 64 e))(he:P.underlying e=some (.int .u32))(hc:P.cellsOf e=1)
 (h:laidMet P [(vn,.agg (shaN.map λn=>.lit (.int .u32 n)))] W):GW W λb=>b<W.heap.size:=by
 obtain ⟨ps,⟨g,t,cs,fuel,p,q,h1,h2,h3,h4,-,-⟩,-,-⟩:=h
 obtain rfl:g=0:=Option.some.inj (h1.symm.trans hg)
 obtain rfl:t=vt:=Option.some.inj (h2.symm.trans ht)
 obtain ⟨xs,m,-,hx,hl,hn,hi⟩:=DataW.trod_array hu h4
 have hxs:xs.map (·.1)=shaN.map λn=>.lit (.int .u32 n):=by
  have:=congrArg Prod.fst hx
  simpa using this.symm
 have hcell:∀i,W.cell? ⟨0,i,none⟩=cs[i]?:=by
  intro i
  simp only [World.var?,h1,Option.bind_some] at h3
  split at h3<;>simp_all [World.cell?]
 have hsz:0<W.heap.size:=by
  simp only [World.var?,h1,Option.bind_some] at h3
  split at h3
  ·rename_i hh;exact (Array.getElem?_eq_some_iff.1 hh).1
  ·cases h3
 refine ⟨hsz,zn2 shaN 0 λi n hin=>?_⟩
 rw [Nat.zero_add,hcell]
 have hlen:shaN.length=64:=by have:=congrArg List.length hxs;simp only [List.length_map] at this;omega
 have hi64:i<64:=by have:=(List.getElem?_eq_some_iff.1 hin).1;omega
 have hxi:∃y,xs[i]? = some y∧y.1=.lit (.int .u32 n):=by
  have h5:=congrArg (·[i]?) hxs
  simp only [List.getElem?_map,hin,Option.map_some] at h5
  cases hy:xs[i]? with
  | none=>rw [hy] at h5;cases h5
  | some y=>rw [hy] at h5;exact ⟨y,rfl,Option.some.inj h5⟩
 obtain ⟨y,hy,hy1⟩:=hxi
 have h6:=hi i hi64
 rw [hy,hc,Nat.mul_one] at h6
 obtain ⟨n',h7,h8,-⟩:=DataW.trod_int he h6
 rw [h8] at hy1
 have hnn:n'=n:=by simpa using hy1
 subst hnn
 have h9:(cs.toList.drop i)[0]? = some (.int .u32 n'):=by
  have:=congrArg (·[0]?) h7
  simpa [List.getElem?_take] using this
 simpa using h9
end Go.Proofs.YtchpfloemfoomaaDoor.Vs
end
section
open Go Go.Proofs Go.Proofs.YtchpfloemfoomaaDoor.Vs
namespace Go.Proofs.YtchpfloemfoomaaDoor.Vs
set_option linter.all false
set_option maxRecDepth 100000
set_option maxHeartbeats 2000000
theorem zsj(a b:List UInt8):PCall Tryd.prog 4 [.s a,.s b] (.g (.bool (true))):=by
 refine zbl Tryd.func4 (by rfl) (by rfl) (by rw [Tryd.ntmps4];exact Nat.le_of_ble_eq_true rfl) rfl (by decide) ?_
 rw [Tryd.ntmps4]
 refine AW_k [(0,_),(1,_)] ⟨rfl,rfl,trivial⟩ ?_
 refine AW_r rfl rfl λK hK=>?_
 simp (disch:=omega) [zG8,zb5,zch,zb7]
 repeat' first|(refine ⟨by omega,?_⟩)|(intro _)
 refine hK _ ?_;clear hK K
 refine zbf ?_
 refine AW_r rfl rfl λK hK=>?_
 simp (disch:=omega) [zG8,zb5,zch,zb7]
 repeat' first|(refine ⟨by omega,?_⟩)|(intro _)
 refine hK _ ?_;clear hK K
 refine zbo rfl (λhc8=>?_) (λhc8=>?_)
 ·try simp at hc8
  all_goals
   refine AW_r rfl rfl λK hK=>?_
   simp (disch:=omega) [zG8,zb5,zch,zb7]
   repeat' first|(exfalso;omega)|(refine ⟨λ_=>?_,λ_=>?_⟩)|(refine ⟨by omega,?_⟩)|(intro _)
   all_goals (refine hK _ ?_;clear hK K)
   all_goals
    refine zbz (zde ?_)
    simp (disch:=omega) [zG8,zb5,zch,zb7]
    all_goals first | rfl|(simp_all;done) | trace_state
 ·try simp at hc8
  all_goals
   refine zbn ?_
   refine zbj ?_
   refine zbf ?_
   refine AW_r rfl rfl λK hK=>?_
   simp (disch:=omega) [zG8,zb5,zch,zb7]
   repeat' first|(exfalso;omega)|(refine ⟨λ_=>?_,λ_=>?_⟩)|(refine ⟨by omega,?_⟩)|(intro _)
   all_goals (refine hK _ ?_;clear hK K)
   all_goals
    refine zbo rfl (λhc9=>?_) (λhc9=>?_)
    ·try simp at hc9
     all_goals
      refine AW_r rfl rfl λK hK=>?_
      simp (disch:=omega) [zG8,zb5,zch,zb7]
      repeat' first|(exfalso;omega)|(refine ⟨λ_=>?_,λ_=>?_⟩)|(refine ⟨by omega,?_⟩)|(intro _)
      all_goals (refine hK _ ?_;clear hK K)
      all_goals
       refine zbz (zde ?_)
       simp (disch:=omega) [zG8,zb5,zch,zb7]
       all_goals first | rfl|(simp_all;done) | trace_state
    ·try simp at hc9
     all_goals
      refine zbn ?_
      refine zbj ?_
      refine AW_r rfl rfl λK hK=>?_
      simp (disch:=omega) [zG8,zb5,zch,zb7]
      repeat' first|(exfalso;omega)|(refine zjn (zbd zft (zbd zft zbk)) (zsg a b) rfl ?_;simp (disch:=omega) [zG8,zb5,zch,zb7])|(refine ⟨λ_=>?_,λ_=>?_⟩)|(refine ⟨by omega,?_⟩)|(intro _)
      all_goals (refine hK _ ?_;clear hK K)
      all_goals
       refine AW_r rfl rfl λK hK=>?_
       simp (disch:=omega) [zG8,zb5,zch,zb7]
       repeat' first|(exfalso;omega)|(refine zjn (zbd zft (zbd zft zbk)) (zsa (zsh a b)) rfl ?_;simp (disch:=omega) [zG8,zb5,zch,zb7])|(refine ⟨by omega,?_⟩)|(intro _)
       refine hK _ ?_;clear hK K
       refine zbf ?_
       refine AW_r rfl rfl λK hK=>?_
       simp (disch:=omega) [zG8,zb5,zch,zb7]
       repeat' first|(refine ⟨by omega,?_⟩)|(intro _)
       refine hK _ ?_;clear hK K
       refine zbo rfl (λhc10=>?_) (λhc10=>?_)
       ·try simp at hc10
        all_goals
         refine AW_r rfl rfl λK hK=>?_
         simp (disch:=omega) [zG8,zb5,zch,zb7]
         repeat' first|(exfalso;omega)|(refine ⟨λ_=>?_,λ_=>?_⟩)|(refine ⟨by omega,?_⟩)|(intro _)
         all_goals (refine hK _ ?_;clear hK K)
         all_goals
          refine zbz (zde ?_)
          simp (disch:=omega) [zG8,zb5,zch,zb7]
          all_goals first | rfl|(simp_all;done) | trace_state
       ·try simp at hc10
        all_goals
         refine zbn ?_
         refine zbj ?_
         refine AW_r rfl rfl λK hK=>?_
         simp (disch:=omega) [zG8,zb5,zch,zb7]
         repeat' first|(exfalso;omega)|(refine ⟨λ_=>?_,λ_=>?_⟩)|(refine ⟨by omega,?_⟩)|(intro _)
         all_goals (refine hK _ ?_;clear hK K)
         all_goals
          refine zbz (zde ?_)
          simp (disch:=omega) [zG8,zb5,zch,zb7]
          all_goals first | rfl|(simp_all;done) | trace_state
theorem zv5(a:List UInt8)(ha:wfL a)(b:List UInt8)(hb:wfL b):PCall Tryd.prog 4 [.s a,.s b] (.g (.bool (true))):=zsj a b
end Go.Proofs.YtchpfloemfoomaaDoor.Vs
end
