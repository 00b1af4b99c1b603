import Derived.Test.YtchpfloemfoomaaDoorSM1
import Derived.Test.YtchpfloemfoomaaDoorSM2
import Derived.Test.YtchpfloemfoomaaDoorVs9
section
open Go Go.Proofs Go.Proofs.YtchpfloemfoomaaDoor.Vs
namespace Go.Proofs.YtchpfloemfoomaaDoor.Vs
set_option linter.all false
set_option maxRecDepth 100000
/-- Is there a cut behind byte i, where the piece began at f? -/
def cutAt(s:List UInt8)(i f:Nat):Prop:=(i:Int)+1-f=12∨(3≤(i:Int)+1-f∧((s.getD i 0).toNat:Int) % 8=0)
instance (s:List UInt8) (i f:Nat):Decidable (cutAt s i f):=by unfold cutAt;infer_instance
/-- Where the piece under way began, and the pieces, behind i bytes. -/
def cs(s:List UInt8):Nat→Nat × List (List UInt8)
 | 0=>(0,[])
 | i+1=>if cutAt s i (cs s i).1 then (i+1,(cs s i).2++[(s.drop (cs s i).1).take (i+1-(cs s i).1)]) else cs s i
def cutL(s:List UInt8):List (List UInt8):=if 400<s.length then [] else if (cs s s.length).1<s.length then (cs s s.length).2++[s.drop (cs s s.length).1] else (cs s s.length).2
theorem cs_0(s:List UInt8):cs s 0=(0,[]):=rfl
theorem zf9{s:List UInt8}(h:400<(s.length:Int)):cutL s=[]:=by unfold cutL;rw [if_pos (by omega)]
theorem zga{s:List UInt8}(h:(s.length:Int)≤400)(h2:(cs s s.length).1<s.length):cutL s=(cs s s.length).2++[s.drop (cs s s.length).1]:=by unfold cutL;rw [if_neg (by omega),if_pos h2]
theorem zd1{s:List UInt8}(h:(s.length:Int)≤400)(h2:s.length≤(cs s s.length).1):cutL s=(cs s s.length).2:=by unfold cutL;rw [if_neg (by omega),if_neg (by omega)]
theorem cs_t(s:List UInt8)(i:Nat)(h:cutAt s i (cs s i).1):cs s (i+1)=(i+1,(cs s i).2++[(s.drop (cs s i).1).take (i+1-(cs s i).1)]):=by
 rw [cs,if_pos h]
theorem cs_f(s:List UInt8)(i:Nat)(h:¬cutAt s i (cs s i).1):cs s (i+1)=cs s i:=by
 rw [cs,if_neg h]
theorem cs_b(s:List UInt8):∀(i:Nat),(cs s i).1≤i∧i≤(cs s i).1+11∧(cs s i).2.length≤i
 | 0=>by simp [cs]
 | i+1=>by
  obtain ⟨h1,h2,h3⟩:=cs_b s i
  by_cases h:cutAt s i (cs s i).1
  ·rw [cs_t s i h]
   exact ⟨Nat.le_refl _,by show i+1≤i+1+11;omega,by simpa using h3⟩
  ·rw [cs_f s i h]
   unfold cutAt at h
   exact ⟨by omega,by omega,by omega⟩
def zG0:=And.intro @zjo (And.intro @zr1 @zbe)
def zG1:=And.intro @zce (And.intro @zfo @zc0)
theorem specCut(s:List UInt8):PCall Tryd.prog 18 [.s s] (.sl 1 ((cutL s).map cS)):=by
 refine zbl Tryd.func18 (by rfl) (by rfl) (by rw [Tryd.ntmps18];exact Nat.le_of_ble_eq_true rfl) rfl (by decide) ?_
 rw [Tryd.ntmps18]
 refine AW_k [(0,_)] ⟨rfl,trivial⟩ ?_
 refine AW_r rfl rfl λK hK=>?_
 simp (disch:=omega) [zG0,List.getElem?_eq_getElem,Int.tdiv_eq_ediv_of_nonneg,Int.tmod_eq_emod_of_nonneg,cS]
 repeat' first|(refine ⟨by omega,?_⟩)|(intro _)
 refine hK _ ?_;clear hK K
 refine AW_r rfl rfl λK hK=>?_
 simp (disch:=omega) [zG0,List.getElem?_eq_getElem,Int.tdiv_eq_ediv_of_nonneg,Int.tmod_eq_emod_of_nonneg,cS]
 repeat' first|(refine ⟨by omega,?_⟩)|(intro _)
 refine hK _ ?_;clear hK K
 refine zbf ?_
 refine AW_r rfl rfl λK hK=>?_
 simp (disch:=omega) [zG0,List.getElem?_eq_getElem,Int.tdiv_eq_ediv_of_nonneg,Int.tmod_eq_emod_of_nonneg,cS]
 repeat' first|(refine ⟨by omega,?_⟩)|(intro _)
 refine hK _ ?_;clear hK K
 refine zbo rfl (λhc1=>?_) (λhc1=>?_)
 ·try simp at hc1
  all_goals
   refine AW_r rfl rfl λK hK=>?_
   simp (disch:=omega) [zG0,List.getElem?_eq_getElem,Int.tdiv_eq_ediv_of_nonneg,Int.tmod_eq_emod_of_nonneg,cS]
   repeat' first|(exfalso;omega)|(refine ⟨λ_=>?_,λ_=>?_⟩)|(refine ⟨by omega,?_⟩)|(intro _)
   all_goals (refine hK _ ?_;clear hK K)
   all_goals
    refine zbz (zde ?_)
    simp (disch:=omega) [zG0,List.getElem?_eq_getElem,Int.tdiv_eq_ediv_of_nonneg,Int.tmod_eq_emod_of_nonneg,cS]
    all_goals first|(exact zf9 hc1)|((have e:i=s.length:=by omega);subst e;first|(rw [zd1 hc1 (by omega)];done)|(rw [zd1 hc1 (by omega)];simp;done)|(rw [zga hc1 (by omega)];simp [cS,List.take_of_length_le];done)) | trace_state
 ·try simp at hc1
  all_goals
   refine zbn ?_
   refine zbj ?_
   refine AW_r rfl rfl λK hK=>?_
   simp (disch:=omega) [zG0,List.getElem?_eq_getElem,Int.tdiv_eq_ediv_of_nonneg,Int.tmod_eq_emod_of_nonneg,cS]
   repeat' first|(exfalso;omega)|(refine ⟨λ_=>?_,λ_=>?_⟩)|(refine ⟨by omega,?_⟩)|(intro _)
   all_goals (refine hK _ ?_;clear hK K)
   all_goals
    refine zbf ?_
    refine AW_r rfl rfl λK hK=>?_
    simp (disch:=omega) [zG0,List.getElem?_eq_getElem,Int.tdiv_eq_ediv_of_nonneg,Int.tmod_eq_emod_of_nonneg,cS]
    repeat' first|(refine ⟨by omega,?_⟩)|(intro _)
    refine hK _ ?_;clear hK K
    refine zbg ?_
    refine zbr (λmM sS=>∃(i:Nat),mM=s.length-i∧(i≤s.length)∧sS = { env:=lkE [(0,.s s),(3,.arr 128 0 (cs s i).2.length),(4,(.g (.int .i64 (((cs s i).1:Nat))))),(5,(.g (.int .i64 ((i:Nat)))))],ob:=lk [(128,.flat 1 ((cs s i).2.map cS))] }) ?_ ?_
    ·refine ⟨_,LeS.kr [(128,128)] [(0,.s s),(3,.arr 128 0 (cs s (0)).2.length),(4,(.g (.int .i64 (((cs s (0)).1:Nat))))),(5,(.g (.int .i64 (((0):Nat)))))] [(128,.flat 1 ((cs s (0)).2.map cS))] (by simp [zG1,KpR,renV2,renV,zbh,cs_0,cS,zbe];try (first | rfl|(rw [hs];done)|(rw [hs];simp;done))) (by simp [zG1,KpOR,renO,renV,zcs,cs_0,cS,zbe];try (first | rfl|(rw [hs];done)|(rw [hs];simp [cS];done))) (by rfl) (by rfl) (by simp) (by simp) (by rfl) (by simp [forms]),_,0,rfl,?_,rfl⟩
     ·simp
    ·rintro mM sS ⟨i,rfl,hi,rfl⟩
     obtain ⟨hb1,hb2,hb3⟩:=cs_b s i
     refine zbf ?_
     refine AW_r rfl rfl λK hK=>?_
     simp (disch:=omega) [zG0,List.getElem?_eq_getElem,Int.tdiv_eq_ediv_of_nonneg,Int.tmod_eq_emod_of_nonneg,cS]
     repeat' first|(refine ⟨by omega,?_⟩)|(intro _)
     refine hK _ ?_;clear hK K
     refine zbo rfl (λhc2=>?_) (λhc2=>?_)
     ·try simp at hc2
      all_goals
       have hgd:s.getD i 0=s[i]:=by simp [List.getD,show i<s.length by omega]
       refine zbn ?_
       refine zbj ?_
       refine zbf ?_
       refine zbg ?_
       refine AW_r rfl rfl λK hK=>?_
       simp (disch:=omega) [zG0,List.getElem?_eq_getElem,Int.tdiv_eq_ediv_of_nonneg,Int.tmod_eq_emod_of_nonneg,cS]
       repeat' first|(exfalso;omega)|(refine ⟨λ_=>?_,λ_=>?_⟩)|(refine ⟨by omega,?_⟩)|(intro _)
       all_goals (refine hK _ ?_;clear hK K)
       all_goals
        refine AW_r rfl rfl λK hK=>?_
        simp (disch:=omega) [zG0,List.getElem?_eq_getElem,Int.tdiv_eq_ediv_of_nonneg,Int.tmod_eq_emod_of_nonneg,cS]
        repeat' first|(exfalso;omega)|(refine ⟨λ_=>?_,λ_=>?_⟩)|(refine ⟨by omega,?_⟩)|(intro _)
        all_goals (refine hK _ ?_;clear hK K)
        all_goals
         refine zbo rfl (λhc3=>?_) (λhc3=>?_)
         ·try simp at hc3
          all_goals
           refine AW_r rfl rfl λK hK=>?_
           simp (disch:=omega) [zG0,List.getElem?_eq_getElem,Int.tdiv_eq_ediv_of_nonneg,Int.tmod_eq_emod_of_nonneg,cS]
           repeat' first|(exfalso;omega)|(refine ⟨λ_=>?_,λ_=>?_⟩)|(refine ⟨by omega,?_⟩)|(intro _)
           all_goals (refine hK _ ?_;clear hK K)
           all_goals
            refine zjm rfl rfl λK hK=>?_
            simp (disch:=omega) [zG0,List.getElem?_eq_getElem,Int.tdiv_eq_ediv_of_nonneg,Int.tmod_eq_emod_of_nonneg,cS]
            repeat' first|(refine ⟨by omega,?_⟩)|(intro _)
            refine hK _ ?_;clear hK K
            refine zbj ?_
            refine zjm rfl rfl λK hK=>?_
            simp (disch:=omega) [zG0,List.getElem?_eq_getElem,Int.tdiv_eq_ediv_of_nonneg,Int.tmod_eq_emod_of_nonneg,cS]
            repeat' first|(refine ⟨by omega,?_⟩)|(intro _)
            refine hK _ ?_;clear hK K
            first | have hs:=cs_t s i (by unfold cutAt;grind) | have hs:=cs_f s i (by unfold cutAt;grind) | trace_state
            refine ⟨_,LeS.kr [(128,688)] [(0,.s s),(3,.arr 128 0 (cs s (i+1)).2.length),(4,(.g (.int .i64 (((cs s (i+1)).1:Nat))))),(5,(.g (.int .i64 (((i+1):Nat)))))] [(128,.flat 1 ((cs s (i+1)).2.map cS))] (by simp [zG1,KpR,renV2,renV,zbh,cs_0,cS,zbe];try (first | rfl|(rw [hs];done)|(rw [hs];simp;done))) (by simp [zG1,KpOR,renO,renV,zcs,cs_0,cS,zbe];try (first | rfl|(rw [hs];done)|(rw [hs];simp [cS];done))) (by rfl) (by rfl) (by simp) (by simp) (by rfl) (by simp [forms]),_,?_,i+1,rfl,?_,rfl⟩
            ·omega
            ·omega
         ·try simp at hc3
          all_goals
           refine zbn ?_
           refine zbj ?_
           refine zjm rfl rfl λK hK=>?_
           simp (disch:=omega) [zG0,List.getElem?_eq_getElem,Int.tdiv_eq_ediv_of_nonneg,Int.tmod_eq_emod_of_nonneg,cS]
           repeat' first|(exfalso;omega)|(refine ⟨λ_=>?_,λ_=>?_⟩)|(refine ⟨by omega,?_⟩)|(intro _)
           all_goals (refine hK _ ?_;clear hK K)
           all_goals
            first | have hs:=cs_t s i (by unfold cutAt;grind) | have hs:=cs_f s i (by unfold cutAt;grind) | trace_state
            refine ⟨_,LeS.kr [(128,128)] [(0,.s s),(3,.arr 128 0 (cs s (i+1)).2.length),(4,(.g (.int .i64 (((cs s (i+1)).1:Nat))))),(5,(.g (.int .i64 (((i+1):Nat)))))] [(128,.flat 1 ((cs s (i+1)).2.map cS))] (by simp [zG1,KpR,renV2,renV,zbh,cs_0,cS,zbe];try (first | rfl|(rw [hs];done)|(rw [hs];simp;done))) (by simp [zG1,KpOR,renO,renV,zcs,cs_0,cS,zbe];try (first | rfl|(rw [hs];done)|(rw [hs];simp [cS];done))) (by rfl) (by rfl) (by simp) (by simp) (by rfl) (by simp [forms]),_,?_,i+1,rfl,?_,rfl⟩
            ·omega
            ·omega
     ·try simp at hc2
      all_goals
       refine zb4 ?_
       refine zbj ?_
       refine zbf ?_
       refine AW_r rfl rfl λK hK=>?_
       simp (disch:=omega) [zG0,List.getElem?_eq_getElem,Int.tdiv_eq_ediv_of_nonneg,Int.tmod_eq_emod_of_nonneg,cS]
       repeat' first|(exfalso;omega)|(refine ⟨λ_=>?_,λ_=>?_⟩)|(refine ⟨by omega,?_⟩)|(intro _)
       all_goals (refine hK _ ?_;clear hK K)
       all_goals
        refine zbo rfl (λhc4=>?_) (λhc4=>?_)
        ·try simp at hc4
         all_goals
          refine zjm rfl rfl λK hK=>?_
          simp (disch:=omega) [zG0,List.getElem?_eq_getElem,Int.tdiv_eq_ediv_of_nonneg,Int.tmod_eq_emod_of_nonneg,cS]
          repeat' first|(exfalso;omega)|(refine ⟨λ_=>?_,λ_=>?_⟩)|(refine ⟨by omega,?_⟩)|(intro _)
          all_goals (refine hK _ ?_;clear hK K)
          all_goals
           refine zbj ?_
           refine AW_r rfl rfl λK hK=>?_
           simp (disch:=omega) [zG0,List.getElem?_eq_getElem,Int.tdiv_eq_ediv_of_nonneg,Int.tmod_eq_emod_of_nonneg,cS]
           repeat' first|(refine ⟨by omega,?_⟩)|(intro _)
           refine hK _ ?_;clear hK K
           refine zbz (zde ?_)
           simp (disch:=omega) [zG0,List.getElem?_eq_getElem,Int.tdiv_eq_ediv_of_nonneg,Int.tmod_eq_emod_of_nonneg,cS]
           all_goals first|(exact zf9 hc1)|((have e:i=s.length:=by omega);subst e;first|(rw [zd1 hc1 (by omega)];done)|(rw [zd1 hc1 (by omega)];simp;done)|(rw [zga hc1 (by omega)];simp [cS,List.take_of_length_le];done)) | trace_state
        ·try simp at hc4
         all_goals
          refine zbn ?_
          refine zbj ?_
          refine AW_r rfl rfl λK hK=>?_
          simp (disch:=omega) [zG0,List.getElem?_eq_getElem,Int.tdiv_eq_ediv_of_nonneg,Int.tmod_eq_emod_of_nonneg,cS]
          repeat' first|(exfalso;omega)|(refine ⟨λ_=>?_,λ_=>?_⟩)|(refine ⟨by omega,?_⟩)|(intro _)
          all_goals (refine hK _ ?_;clear hK K)
          all_goals
           refine zbz (zde ?_)
           simp (disch:=omega) [zG0,List.getElem?_eq_getElem,Int.tdiv_eq_ediv_of_nonneg,Int.tmod_eq_emod_of_nonneg,cS]
           all_goals first|(exact zf9 hc1)|((have e:i=s.length:=by omega);subst e;first|(rw [zd1 hc1 (by omega)];done)|(rw [zd1 hc1 (by omega)];simp;done)|(rw [zga hc1 (by omega)];simp [cS,List.take_of_length_le];done)) | trace_state
def zG2:=And.intro @List.range_succ (And.intro @zce @zfo)
theorem implCut(s:List UInt8):XCall Tryd.prog 20 [.s s] [] (.arr 16 0 (cutL s).length) [] [.own 1 ((cutL s).map cS)]:=by
 refine zb6 Tryd.func20 (by rfl) (by rfl) (by rw [Tryd.ntmps20];exact Nat.le_of_ble_eq_true rfl) rfl (by simp) rfl rfl ?_
 rw [Tryd.ntmps20]
 refine znn   ?_
 refine AW_k [(0,_)] ⟨rfl,trivial⟩ ?_
 refine AW_x rfl rfl λK hK=>?_
 simp (disch:=omega) [zG0,List.getElem?_eq_getElem,Int.tdiv_eq_ediv_of_nonneg,Int.tmod_eq_emod_of_nonneg,cS]
 repeat' first|(refine ⟨by omega,?_⟩)|(intro _)
 refine hK _ ?_;clear hK K
 refine zbf ?_
 refine AW_x rfl rfl λK hK=>?_
 simp (disch:=omega) [zG0,List.getElem?_eq_getElem,Int.tdiv_eq_ediv_of_nonneg,Int.tmod_eq_emod_of_nonneg,cS]
 repeat' first|(refine ⟨by omega,?_⟩)|(intro _)
 refine hK _ ?_;clear hK K
 refine zbo rfl (λhc5=>?_) (λhc5=>?_)
 ·try simp at hc5
  all_goals
   refine AW_x rfl rfl λK hK=>?_
   simp (disch:=omega) [zG0,List.getElem?_eq_getElem,Int.tdiv_eq_ediv_of_nonneg,Int.tmod_eq_emod_of_nonneg,cS]
   repeat' first|(exfalso;omega)|(refine ⟨λ_=>?_,λ_=>?_⟩)|(refine ⟨by omega,?_⟩)|(intro _)
   all_goals (refine hK _ ?_;clear hK K)
   all_goals
    refine zbz (zjv [1000] [(1000,1)] (by simp [zG1,List.range_succ]) (by simp) ?_)
    simp (disch:=omega) [zG0,List.getElem?_eq_getElem,Int.tdiv_eq_ediv_of_nonneg,Int.tmod_eq_emod_of_nonneg,cS]
    all_goals first|(exact zf9 hc5)|(rw [zf9 hc5];simp;done)|((have e:i=s.length:=by omega);subst e;first|(rw [zd1 hc5 (by omega)];done)|(rw [zd1 hc5 (by omega)];simp;done)|(rw [zga hc5 (by omega)];simp [cS,List.take_of_length_le];done)|(rw [zga hc5 (by omega)];refine ⟨by simp,by simp [cS,List.take_of_length_le],by simp⟩)) | trace_state
 ·try simp at hc5
  all_goals
   refine zbn ?_
   refine zbj ?_
   refine AW_x rfl rfl λK hK=>?_
   simp (disch:=omega) [zG0,List.getElem?_eq_getElem,Int.tdiv_eq_ediv_of_nonneg,Int.tmod_eq_emod_of_nonneg,cS]
   repeat' first|(exfalso;omega)|(refine ⟨λ_=>?_,λ_=>?_⟩)|(refine ⟨by omega,?_⟩)|(intro _)
   all_goals (refine hK _ ?_;clear hK K)
   all_goals
    refine AW_x rfl rfl λK hK=>?_
    simp (disch:=omega) [zG0,List.getElem?_eq_getElem,Int.tdiv_eq_ediv_of_nonneg,Int.tmod_eq_emod_of_nonneg,cS]
    repeat' first|(refine ⟨by omega,?_⟩)|(intro _)
    refine hK _ ?_;clear hK K
    refine zbf ?_
    refine AW_x rfl rfl λK hK=>?_
    simp (disch:=omega) [zG0,List.getElem?_eq_getElem,Int.tdiv_eq_ediv_of_nonneg,Int.tmod_eq_emod_of_nonneg,cS]
    repeat' first|(refine ⟨by omega,?_⟩)|(intro _)
    refine hK _ ?_;clear hK K
    refine zbg ?_
    refine zbr (λmM sS=>∃(i:Nat),mM=s.length-i∧(i≤s.length)∧sS = { env:=lkE [(0,.s s),(3,.arr 176 0 (cs s i).2.length),(4,(.g (.int .i64 (((cs s i).1:Nat))))),(5,(.g (.int .i64 ((i:Nat)))))],ob:=lk [(176,.flat 1 ((cs s i).2.map cS))] }) ?_ ?_
    ·refine ⟨_,LeS.kx [(176,176)] [(0,.s s),(3,.arr 176 0 (cs s (0)).2.length),(4,(.g (.int .i64 (((cs s (0)).1:Nat))))),(5,(.g (.int .i64 (((0):Nat)))))] [(176,.flat 1 ((cs s (0)).2.map cS))] (by simp [zG1,KpR,renV2,renV,zbh,cs_0,cS,zbe];try (first | rfl|(rw [hs];done)|(rw [hs];simp;done))) (by simp [zG1,KpOX,renO,plO,cvO,renV,pl1,cs_0,cS,zbe];try (first | rfl|(rw [hs];done)|(rw [hs];simp [cS];done))) (by rfl) (by simp) (by simp) (by rfl) (by simp [zG2,formsX]),_,0,rfl,?_,rfl⟩
     ·simp
    ·rintro mM sS ⟨i,rfl,hi,rfl⟩
     obtain ⟨hb1,hb2,hb3⟩:=cs_b s i
     refine zbf ?_
     refine AW_x rfl rfl λK hK=>?_
     simp (disch:=omega) [zG0,List.getElem?_eq_getElem,Int.tdiv_eq_ediv_of_nonneg,Int.tmod_eq_emod_of_nonneg,cS]
     repeat' first|(refine ⟨by omega,?_⟩)|(intro _)
     refine hK _ ?_;clear hK K
     refine zbo rfl (λhc6=>?_) (λhc6=>?_)
     ·try simp at hc6
      all_goals
       have hgd:s.getD i 0=s[i]:=by simp [List.getD,show i<s.length by omega]
       refine zbn ?_
       refine zbj ?_
       refine zbf ?_
       refine zbg ?_
       refine AW_x rfl rfl λK hK=>?_
       simp (disch:=omega) [zG0,List.getElem?_eq_getElem,Int.tdiv_eq_ediv_of_nonneg,Int.tmod_eq_emod_of_nonneg,cS]
       repeat' first|(exfalso;omega)|(refine ⟨λ_=>?_,λ_=>?_⟩)|(refine ⟨by omega,?_⟩)|(intro _)
       all_goals (refine hK _ ?_;clear hK K)
       all_goals
        refine AW_x rfl rfl λK hK=>?_
        simp (disch:=omega) [zG0,List.getElem?_eq_getElem,Int.tdiv_eq_ediv_of_nonneg,Int.tmod_eq_emod_of_nonneg,cS]
        repeat' first|(exfalso;omega)|(refine ⟨λ_=>?_,λ_=>?_⟩)|(refine ⟨by omega,?_⟩)|(intro _)
        all_goals (refine hK _ ?_;clear hK K)
        all_goals
         refine zbo rfl (λhc7=>?_) (λhc7=>?_)
         ·try simp at hc7
          all_goals
           refine AW_x rfl rfl λK hK=>?_
           simp (disch:=omega) [zG0,List.getElem?_eq_getElem,Int.tdiv_eq_ediv_of_nonneg,Int.tmod_eq_emod_of_nonneg,cS]
           repeat' first|(exfalso;omega)|(refine ⟨λ_=>?_,λ_=>?_⟩)|(refine ⟨by omega,?_⟩)|(intro _)
           all_goals (refine hK _ ?_;clear hK K)
           all_goals
            refine zcp rfl rfl λK hK=>?_
            simp (disch:=omega) [zG0,List.getElem?_eq_getElem,Int.tdiv_eq_ediv_of_nonneg,Int.tmod_eq_emod_of_nonneg,cS]
            repeat' first|(refine ⟨by omega,?_⟩)|(intro _)
            refine hK _ ?_;clear hK K
            refine zbj ?_
            refine zcp rfl rfl λK hK=>?_
            simp (disch:=omega) [zG0,List.getElem?_eq_getElem,Int.tdiv_eq_ediv_of_nonneg,Int.tmod_eq_emod_of_nonneg,cS]
            repeat' first|(refine ⟨by omega,?_⟩)|(intro _)
            refine hK _ ?_;clear hK K
            first | have hs:=cs_t s i (by unfold cutAt;grind) | have hs:=cs_f s i (by unfold cutAt;grind) | trace_state
            refine ⟨_,LeS.kx [(176,672)] [(0,.s s),(3,.arr 176 0 (cs s (i+1)).2.length),(4,(.g (.int .i64 (((cs s (i+1)).1:Nat))))),(5,(.g (.int .i64 (((i+1):Nat)))))] [(176,.flat 1 ((cs s (i+1)).2.map cS))] (by simp [zG1,KpR,renV2,renV,zbh,cs_0,cS,zbe];try (first | rfl|(rw [hs];done)|(rw [hs];simp;done))) (by simp [zG1,KpOX,renO,plO,cvO,renV,pl1,cs_0,cS,zbe];try (first | rfl|(rw [hs];done)|(rw [hs];simp [cS];done))) (by rfl) (by simp) (by simp) (by rfl) (by simp [zG2,formsX]),_,?_,i+1,rfl,?_,rfl⟩
            ·omega
            ·omega
         ·try simp at hc7
          all_goals
           refine zbn ?_
           refine zbj ?_
           refine zcp rfl rfl λK hK=>?_
           simp (disch:=omega) [zG0,List.getElem?_eq_getElem,Int.tdiv_eq_ediv_of_nonneg,Int.tmod_eq_emod_of_nonneg,cS]
           repeat' first|(exfalso;omega)|(refine ⟨λ_=>?_,λ_=>?_⟩)|(refine ⟨by omega,?_⟩)|(intro _)
           all_goals (refine hK _ ?_;clear hK K)
           all_goals
            first | have hs:=cs_t s i (by unfold cutAt;grind) | have hs:=cs_f s i (by unfold cutAt;grind) | trace_state
            refine ⟨_,LeS.kx [(176,176)] [(0,.s s),(3,.arr 176 0 (cs s (i+1)).2.length),(4,(.g (.int .i64 (((cs s (i+1)).1:Nat))))),(5,(.g (.int .i64 (((i+1):Nat)))))] [(176,.flat 1 ((cs s (i+1)).2.map cS))] (by simp [zG1,KpR,renV2,renV,zbh,cs_0,cS,zbe];try (first | rfl|(rw [hs];done)|(rw [hs];simp;done))) (by simp [zG1,KpOX,renO,plO,cvO,renV,pl1,cs_0,cS,zbe];try (first | rfl|(rw [hs];done)|(rw [hs];simp [cS];done))) (by rfl) (by simp) (by simp) (by rfl) (by simp [zG2,formsX]),_,?_,i+1,rfl,?_,rfl⟩
            ·omega
            ·omega
     ·try simp at hc6
      all_goals
       refine zb4 ?_
       refine zbj ?_
       refine zbf ?_
       refine AW_x rfl rfl λK hK=>?_
       simp (disch:=omega) [zG0,List.getElem?_eq_getElem,Int.tdiv_eq_ediv_of_nonneg,Int.tmod_eq_emod_of_nonneg,cS]
       repeat' first|(exfalso;omega)|(refine ⟨λ_=>?_,λ_=>?_⟩)|(refine ⟨by omega,?_⟩)|(intro _)
       all_goals (refine hK _ ?_;clear hK K)
       all_goals
        refine zbo rfl (λhc8=>?_) (λhc8=>?_)
        ·try simp at hc8
         all_goals
          refine zcp rfl rfl λK hK=>?_
          simp (disch:=omega) [zG0,List.getElem?_eq_getElem,Int.tdiv_eq_ediv_of_nonneg,Int.tmod_eq_emod_of_nonneg,cS]
          repeat' first|(exfalso;omega)|(refine ⟨λ_=>?_,λ_=>?_⟩)|(refine ⟨by omega,?_⟩)|(intro _)
          all_goals (refine hK _ ?_;clear hK K)
          all_goals
           refine zbj ?_
           refine AW_x rfl rfl λK hK=>?_
           simp (disch:=omega) [zG0,List.getElem?_eq_getElem,Int.tdiv_eq_ediv_of_nonneg,Int.tmod_eq_emod_of_nonneg,cS]
           repeat' first|(refine ⟨by omega,?_⟩)|(intro _)
           refine hK _ ?_;clear hK K
           refine zbz (zjv [864] [] (by simp [zG1,List.range_succ]) (by simp) ?_)
           simp (disch:=omega) [zG0,List.getElem?_eq_getElem,Int.tdiv_eq_ediv_of_nonneg,Int.tmod_eq_emod_of_nonneg,cS]
           all_goals first|(exact zf9 hc5)|(rw [zf9 hc5];simp;done)|((have e:i=s.length:=by omega);subst e;first|(rw [zd1 hc5 (by omega)];done)|(rw [zd1 hc5 (by omega)];simp;done)|(rw [zga hc5 (by omega)];simp [cS,List.take_of_length_le];done)|(rw [zga hc5 (by omega)];refine ⟨by simp,by simp [cS,List.take_of_length_le],by simp⟩)) | trace_state
        ·try simp at hc8
         all_goals
          refine zbn ?_
          refine zbj ?_
          refine AW_x rfl rfl λK hK=>?_
          simp (disch:=omega) [zG0,List.getElem?_eq_getElem,Int.tdiv_eq_ediv_of_nonneg,Int.tmod_eq_emod_of_nonneg,cS]
          repeat' first|(exfalso;omega)|(refine ⟨λ_=>?_,λ_=>?_⟩)|(refine ⟨by omega,?_⟩)|(intro _)
          all_goals (refine hK _ ?_;clear hK K)
          all_goals
           refine zbz (zjv [176] [] (by simp [zG1,List.range_succ]) (by simp) ?_)
           simp (disch:=omega) [zG0,List.getElem?_eq_getElem,Int.tdiv_eq_ediv_of_nonneg,Int.tmod_eq_emod_of_nonneg,cS]
           all_goals first|(exact zf9 hc5)|(rw [zf9 hc5];simp;done)|((have e:i=s.length:=by omega);subst e;first|(rw [zd1 hc5 (by omega)];done)|(rw [zd1 hc5 (by omega)];simp;done)|(rw [zga hc5 (by omega)];simp [cS,List.take_of_length_le];done)|(rw [zga hc5 (by omega)];refine ⟨by simp,by simp [cS,List.take_of_length_le],by simp⟩)) | trace_state
theorem zgb(s:List UInt8):(cutL s).length≤401:=by
 obtain ⟨h1,h2,h3⟩:=cs_b s s.length
 unfold cutL
 split
 ·simp
 ·split
  ·simp;omega
  ·omega
theorem zvq(m:Nat):∀(l:List (List UInt8)),(∀x∈l,x.length≤m)→sumZ lenZ l≤(l.length*m:Nat)
 | [],_=>by simp [sumZ]
 | x :: l,h=>by
  have h1:=zvq m l λy hy=>h y (by simp [hy])
  have h2:=h x (by simp)
  rw [zjq,List.length_cons,Nat.add_mul]
  unfold lenZ at h1 ⊢
  omega
theorem cs_p(s:List UInt8):∀(i:Nat),∀x∈(cs s i).2,x.length≤s.length
 | 0=>by simp [cs]
 | i+1=>by
  intro x hx
  by_cases h:cutAt s i (cs s i).1
  ·rw [cs_t s i h] at hx
   rcases List.mem_append.1 hx with hx | hx
   ·exact cs_p s i x hx
   ·simp at hx;subst hx;simp;omega
  ·rw [cs_f s i h] at hx
   exact cs_p s i x hx
theorem cutL_sz(s:List UInt8):szS lenZ (cutL s)≤1048576:=by
 have hl:=zgb s
 have h:∀x∈cutL s,x.length≤400:=by
  intro x hx
  unfold cutL at hx
  split at hx
  ·simp at hx
  ·split at hx
   ·rcases List.mem_append.1 hx with hx | hx
    ·have:=cs_p s _ x hx;omega
    ·simp at hx;subst hx;simp;omega
   ·have:=cs_p s _ x hx;omega
 have:=zvq 400 _ h
 have h3:(cutL s).length*400≤401*400:=Nat.mul_le_mul_right _ hl
 unfold szS
 omega
end Go.Proofs.YtchpfloemfoomaaDoor.Vs
end
section
open Go Go.Proofs Go.Proofs.YtchpfloemfoomaaDoor.Vs
namespace Go.Proofs.YtchpfloemfoomaaDoor.Vs
set_option linter.all false
set_option maxRecDepth 100000
set_option maxHeartbeats 2000000
attribute [local simp ↓] zl7 zq8 zl8 zl9 zma zmb
attribute [local simp] zj3 zvm znu zvn
theorem zgc(x:Int):PCall Tryd.prog 65 [(.g (.int .i64 (x)))] (.g (.int .i64 (x % 4294967296))):=by
 refine zbl Tryd.func65 (by rfl) (by rfl) (by rw [Tryd.ntmps65];exact Nat.le_of_ble_eq_true rfl) rfl (by decide) ?_
 rw [Tryd.ntmps65]
 refine AW_k [(0,_)] ⟨rfl,trivial⟩ ?_
 refine AW_r rfl rfl λK hK=>?_
 simp (disch:=omega)
 repeat' first|(refine ⟨by omega,?_⟩)|(intro _)
 refine hK _ ?_;clear hK K
 refine AW_r rfl rfl λK hK=>?_
 simp (disch:=omega)
 repeat' first|(refine ⟨by omega,?_⟩)|(intro _)
 refine hK _ ?_;clear hK K
 refine zbz (zde ?_)
 simp (disch:=omega)
 all_goals first | rfl | trace_state
theorem wrapU{n:Int}(h:0≤n∧n<18446744073709551616):IntKind.u64.wrap n=n:=by
 simp [IntKind.wrap,IntKind.bits,IntKind.signed]
 omega
theorem zd8(x:W32)(z:Int)(hz:0<z∧z<32):PCall Tryd.prog 64 [(.g (.int .i64 (wI x))),.g (.int .u64 z)] (.g (.int .i64 (wI (x.rotateRight z.toNat)))):=by
 have hw:=wrapU (n:=32-z) (by omega)
 have hr:=rot_w x z hz
 refine zbl Tryd.func64 (by rfl) (by rfl) (by rw [Tryd.ntmps64];exact Nat.le_of_ble_eq_true rfl) rfl (by decide) ?_
 rw [Tryd.ntmps64]
 refine AW_k [(0,_),(1,_)] ⟨rfl,rfl,trivial⟩ ?_
 refine AW_r rfl rfl λK hK=>?_
 simp (disch:=omega) [hw,hr]
 repeat' first|(refine ⟨by omega,?_⟩)|(intro _)
 refine hK _ ?_;clear hK K
 refine AW_r rfl rfl λK hK=>?_
 simp (disch:=omega) [hw,hr]
 repeat' first|(exfalso;omega)|(refine zjn (zbd zcj zbk) (zgc _) rfl ?_;simp (disch:=omega) [hw,hr])|(refine ⟨by omega,?_⟩)|(intro _)
 refine hK _ ?_;clear hK K
 refine zbz (zde ?_)
 simp (disch:=omega) [hw,hr]
 all_goals first | rfl | exact hr | trace_state
attribute [local simp] cW shaK List.map_cons List.map_nil
attribute [-simp] zj3 zvm znu zvn
theorem l3Keys:PCall Tryd.prog 53 [] (.sl 1 (shaK.map cW)):=by
 refine zbl Tryd.func53 (by rfl) (by rfl) (by rw [Tryd.ntmps53];exact Nat.le_of_ble_eq_true rfl) rfl (by decide) ?_
 rw [Tryd.ntmps53]
 refine AW_k [] trivial ?_
 refine AW_r rfl rfl λK hK=>?_
 simp (disch:=omega)
 repeat' first|(refine ⟨by omega,?_⟩)|(intro _)
 refine hK _ ?_;clear hK K
 refine AW_r rfl rfl λK hK=>?_
 simp (disch:=omega)
 repeat' first|(refine ⟨by omega,?_⟩)|(intro _)
 refine hK _ ?_;clear hK K
 refine zbz (zde ?_)
 simp (disch:=omega) [wI]
 all_goals first | rfl | trace_state
end Go.Proofs.YtchpfloemfoomaaDoor.Vs
end
section
open Go Go.Proofs Go.Proofs.YtchpfloemfoomaaDoor.Vs
namespace Go.Proofs.YtchpfloemfoomaaDoor.Vs
set_option linter.all false
set_option maxRecDepth 100000
set_option maxHeartbeats 4000000
attribute [local simp ↓] zl7 zq8 zl8 zl9 zma zmb
/-- The words of a block. -/
def wd(b:List UInt8)(j:Nat):W32:=(sch b 64).getD j 0
theorem zvr(b:List UInt8)(i j:Nat)(h:j<i)(hi:i≤64):(sch b i)[j]? = some (wd b j):=by
 rw [zvp b i j h]
 unfold wd
 rw [List.getD_eq_getElem?_getD,zvp b 64 j (by omega)]
 have:j<(sch b (j+1)).length:=by rw [zcv];omega
 rw [List.getElem?_eq_getElem this];rfl
def kd(j:Nat):W32:=shaK.getD j 0
theorem kd_at(j:Nat)(h:j<64):shaK[j]? = some (kd j):=by unfold kd;rw [List.getD_eq_getElem?_getD,List.getElem?_eq_getElem (by rw [zq9];exact h),Option.getD_some]
def schR(b:List UInt8)(i:Nat):List (List AV):=(sch b i).map cW++List.replicate (64-i) [.g (.int .i64 0)]
theorem zcg(b:List UInt8)(i:Nat)(h:i≤64):(schR b i).length=64:=by unfold schR;simp [zcv];omega
theorem zgd(b:List UInt8)(i j:Nat)(h:j<i)(hi:i≤64):(schR b i)[j]? = some (cW (wd b j)):=by
 unfold schR
 rw [List.getElem?_append_left (by simp [zcv];omega),List.getElem?_map,zvr b i j h hi];rfl
theorem zrc(b:List UInt8)(i:Nat)(h:i<64)(x:W32)(hx:sch b (i+1)=sch b i++[x]):(schR b i).set i (cW x)=schR b (i+1):=by
 unfold schR
 rw [hx,List.set_append_right _ _ (by simp [zcv]),show 64-i=(64-(i+1))+1 by omega,List.replicate_succ]
 simp [zcv]
theorem zcn(b:List UInt8)(i:Nat):scR (schR b i)=true:=by
 unfold schR
 rw [zp6,zgl cW (λ_=>rfl)]
 simp
 induction (64-i) with
 | zero=>rfl
 | succ n ih=>rw [List.replicate_succ];simpa [scR] using ih
theorem schR_z(b:List UInt8)(i:Nat)(h:i<64):(schR b i)[i]? = some [.g (.int .i64 0)]:=by
 unfold schR
 rw [List.getElem?_append_right (by simp [zcv])]
 simp [zcv,List.getElem?_replicate]
 omega
theorem zk9(a b n:Nat)(h:b<2^n):a*2^n ||| b=a*2^n+b:=by rw [←Nat.shiftLeft_eq,Nat.shiftLeft_add_eq_or_of_lt h]
theorem word_z{p0 p1 p2 p3:Nat}(h0:p0<256)(h1:p1<256)(h2:p2<256)(h3:p3<256):zOr (zOr (zOr (zShl (IntKind.i64.wrap (p0:Int)) 24) (zShl (IntKind.i64.wrap (p1:Int)) 16)) (zShl (IntKind.i64.wrap (p2:Int)) 8)) (IntKind.i64.wrap (p3:Int))=wI (BitVec.ofNat 32 ((p0*256+p1)*65536+p2*256+p3)):=by
 have e1:p0*2^24 ||| p1*2^16=p0*2^24+p1*2^16:=zk9 _ _ 24 (by omega)
 have e2:(p0*2^24+p1*2^16) ||| p2*2^8=p0*2^24+p1*2^16+p2*2^8:=by
  have:=zk9 (p0*2^8+p1) (p2*2^8) 16 (by omega)
  rw [show (p0*2^8+p1)*2^16=p0*2^24+p1*2^16 by omega] at this
  exact this
 have e3:(p0*2^24+p1*2^16+p2*2^8) ||| p3=p0*2^24+p1*2^16+p2*2^8+p3:=by
  have:=zk9 ((p0*2^8+p1)*2^8+p2) p3 8 (by omega)
  rw [show ((p0*2^8+p1)*2^8+p2)*2^8=p0*2^24+p1*2^16+p2*2^8 by omega] at this
  exact this
 rw [zko (by omega),zko (by omega),zko (by omega),zko (by omega),zf8 p0 24 24 rfl (by omega) (by omega),zf8 p1 16 16 rfl (by omega) (by omega),zf8 p2 8 8 rfl (by omega) (by omega)]
 rw [zmc (by omega) (by omega),e1,zmc (by omega) (by omega),e2,zmc (by omega) (by omega),e3]
 unfold wI
 rw [BitVec.toNat_ofNat,Nat.mod_eq_of_lt (by omega)]
 omega
theorem zvs(b:List UInt8)(hb:b.length=64)(i:Nat)(hi:i<16)(h0:(4*(i:Int)).toNat<b.length)(h1:(4*(i:Int)+1).toNat<b.length)(h2:(4*(i:Int)+2).toNat<b.length)(h3:(4*(i:Int)+3).toNat<b.length):(schR b i).set i (((schR b i)[i]?.getD []).set 0 (AV.g (.int .i64 (zOr (zOr (zOr (zShl (IntKind.i64.wrap (b[(4*(i:Int)).toNat].toNat:Int)) 24) (zShl (IntKind.i64.wrap (b[(4*(i:Int)+1).toNat].toNat:Int)) 16)) (zShl (IntKind.i64.wrap (b[(4*(i:Int)+2).toNat].toNat:Int)) 8)) (IntKind.i64.wrap (b[(4*(i:Int)+3).toNat].toNat:Int))))))=schR b (i+1):=by
 rw [word_z (UInt8.toNat_lt _) (UInt8.toNat_lt _) (UInt8.toNat_lt _) (UInt8.toNat_lt _),schR_z b i (by omega)]
 refine zrc b i (by omega) _ ?_
 have g:∀(z:Int) (n:Nat) (h:z.toNat<b.length),z.toNat=n→b.getD n 0=b[z.toNat]:=λz n h e=>by subst e;rw [List.getD_eq_getElem?_getD,List.getElem?_eq_getElem h];rfl
 rw [sch,if_pos hi,wrd,g _ (4*i) h0 (by omega),g _ (4*i+1) h1 (by omega),g _ (4*i+2) h2 (by omega),g _ (4*i+3) h3 (by omega)]
theorem zc5(x:Int):IntKind.i64.wrap x % 4294967296=x % 4294967296:=by
 simp [IntKind.wrap,IntKind.bits,IntKind.signed]
 split<;>omega
theorem wrap_l(x y:Int):(IntKind.i64.wrap x+y) % 4294967296=(x+y) % 4294967296:=by have:=zc5 x;omega
theorem zShr_3(x:W32):zShr (wI x) 3=wI (x >>> 3):=by
 have h:=zvo x 3 (by omega)
 rw [show (3:Int).toNat=3 from rfl] at h
 exact h
theorem zShr_10(x:W32):zShr (wI x) 10=wI (x >>> 10):=by
 have h:=zvo x 10 (by omega)
 rw [show (10:Int).toNat=10 from rfl] at h
 exact h
theorem znv(b:List UInt8)(i j:Nat)(h:j<i)(hi:i≤64):(sch b i).getD j 0=wd b j:=by rw [List.getD_eq_getElem?_getD,zvr b i j h hi,Option.getD_some]
theorem zvt(b:List UInt8)(i:Nat)(h1:16≤i)(hi:i<64):(schR b i).set i (((schR b i)[i]?.getD []).set 0 (AV.g (.int .i64 (IntKind.i64.wrap (IntKind.i64.wrap (IntKind.i64.wrap (wI (wd b (i-16))+zXor (wI (BitVec.rotateRight (wd b (i-15)) 7 ^^^ BitVec.rotateRight (wd b (i-15)) 18)) (zShr (wI (wd b (i-15))) 3))+wI (wd b (i-7)))+zXor (wI (BitVec.rotateRight (wd b (i-2)) 17 ^^^ BitVec.rotateRight (wd b (i-2)) 19)) (zShr (wI (wd b (i-2))) 10)) % 4294967296))))=schR b (i+1):=by
 rw [zShr_3,zShr_10,znu,znu,schR_z b i hi,zc5,wrap_l]
 have e:∀a s c t:W32,(IntKind.i64.wrap (wI a+wI s)+wI c+wI t) % 4294967296=wI (a+s+c+t):=λa s c t=>by
  refine zqf _ _ (zqf _ _ ?_ _ _ (zj2 c)) _ _ (zj2 t)
  rw [zc5,add_w]
 rw [e]
 refine zrc b i hi _ ?_
 rw [sch,if_neg (by omega),znv b i _ (by omega) (by omega),znv b i _ (by omega) (by omega),znv b i _ (by omega) (by omega),znv b i _ (by omega) (by omega)]
 rfl
theorem zN_w(e:W32):zXor (if IntKind.i64.signed=true then -1 else 9223372036854775807) (wI e) % 4294967296=wI (~~~e):=not_w e
theorem sumC(a b:W32):IntKind.i64.wrap (wI a+wI b) % 4294967296=wI (a+b):=by rw [zc5,add_w]
theorem sumT(a s c k w:W32):IntKind.i64.wrap (IntKind.i64.wrap (IntKind.i64.wrap (IntKind.i64.wrap (wI a+wI s)+wI c)+wI k)+wI w) % 4294967296=wI (a+s+c+k+w):=by
 rw [zc5]
 refine zqf _ _ ?_ _ _ (zj2 w)
 rw [zc5]
 refine zqf _ _ ?_ _ _ (zj2 k)
 rw [zc5]
 refine zqf _ _ ?_ _ _ (zj2 c)
 exact sumC a s
theorem sumA(a s c k w p q:W32):IntKind.i64.wrap (IntKind.i64.wrap (IntKind.i64.wrap (IntKind.i64.wrap (IntKind.i64.wrap (wI a+wI s)+wI c)+wI k)+wI w)+IntKind.i64.wrap (wI p+wI q)) % 4294967296=wI (a+s+c+k+w+(p+q)):=by
 rw [zc5]
 exact zqf _ _ (sumT a s c k w) _ _ (sumC p q)
theorem sumB(d a s c k w:W32):IntKind.i64.wrap (wI d+IntKind.i64.wrap (IntKind.i64.wrap (IntKind.i64.wrap (IntKind.i64.wrap (wI a+wI s)+wI c)+wI k)+wI w)) % 4294967296=wI (d+(a+s+c+k+w)):=by
 rw [zc5]
 exact zqf _ _ (zj2 d) _ _ (sumT a s c k w)
theorem zj4(b:List UInt8)(h:W8)(i:Nat):runW b h (i+1)=rnd (kd i) (wd b i) (runW b h i):=by rw [runW];rfl
theorem zdt(b:List UInt8)(h:W8):runW b h 0=h:=rfl
theorem znw(k w:W32)(v:W8):(rnd k w v).cells=[[AV.g (.int .i64 (wI (v.h+(BitVec.rotateRight v.e 6 ^^^ BitVec.rotateRight v.e 11 ^^^ BitVec.rotateRight v.e 25)+(v.e &&& v.f ^^^ ~~~v.e &&& v.g)+k+w+((BitVec.rotateRight v.a 2 ^^^ BitVec.rotateRight v.a 13 ^^^ BitVec.rotateRight v.a 22)+(v.a &&& v.b ^^^ v.a &&& v.c ^^^ v.b &&& v.c)))))],[AV.g (.int .i64 (wI v.a))],[AV.g (.int .i64 (wI v.b))],[AV.g (.int .i64 (wI v.c))],[AV.g (.int .i64 (wI (v.d+(v.h+(BitVec.rotateRight v.e 6 ^^^ BitVec.rotateRight v.e 11 ^^^ BitVec.rotateRight v.e 25)+(v.e &&& v.f ^^^ ~~~v.e &&& v.g)+k+w))))],[AV.g (.int .i64 (wI v.e))],[AV.g (.int .i64 (wI v.f))],[AV.g (.int .i64 (wI v.g))]]:=rfl
theorem tk_len(h:W8)(i:Nat)(hi:i≤8):(h.cells.take i).length=i:=by rw [List.length_take];exact Nat.min_eq_left hi
theorem zrd(h:W8)(i:Nat):scR (h.cells.take i)=true:=by
 by_cases hi:i<8
 ·have:i=0∨i=1∨i=2∨i=3∨i=4∨i=5∨i=6∨i=7:=by omega
  rcases this with rfl | rfl | rfl | rfl | rfl | rfl | rfl | rfl<;>rfl
 ·rw [List.take_of_length_le (by show 8≤i;omega)];rfl
def W8.get(v:W8):Nat→W32
 | 0=>v.a | 1=>v.b | 2=>v.c | 3=>v.d | 4=>v.e | 5=>v.f | 6=>v.g | _=>v.h
theorem zj5(v:W8)(i:Nat)(h:i<8):v.cells[i]? = some (cW (v.get i)):=by
 have:i=0∨i=1∨i=2∨i=3∨i=4∨i=5∨i=6∨i=7:=by omega
 rcases this with rfl | rfl | rfl | rfl | rfl | rfl | rfl | rfl<;>rfl
theorem znx(h v:W8)(i:Nat)(hi:i<8):(add8 h v).cells.take (i+1)=(add8 h v).cells.take i++[cW (h.get i+v.get i)]:=by
 have:i=0∨i=1∨i=2∨i=3∨i=4∨i=5∨i=6∨i=7:=by omega
 rcases this with rfl | rfl | rfl | rfl | rfl | rfl | rfl | rfl<;>rfl
theorem cells_len(v:W8):v.cells.length=8:=rfl
theorem zbx(v:W8):scR v.cells=true:=rfl
theorem row8(h:W8):List.take 8 h.cells=h.cells:=rfl
attribute [local simp] cW zcg cells_len row8 zq9 zj3 zvm znu zvn zN_w sumA sumB sumC zbx
theorem l3Block(h:W8)(b:List UInt8)(hb:b.length=64):XCall Tryd.prog 54 [.sl 1 h.cells,.s b,.sl 1 (shaK.map cW)] [] (.arr 16 0 8) [] [.own 1 (blk h b).cells]:=by
 refine zb6 Tryd.func54 (by rfl) (by rfl) (by rw [Tryd.ntmps54];exact Nat.le_of_ble_eq_true rfl) rfl (by simp) rfl rfl ?_
 rw [Tryd.ntmps54]
 refine znn   ?_
 refine AW_k [(0,_),(1,_),(2,_)] ⟨rfl,rfl,rfl,trivial⟩ ?_
 refine AW_x rfl rfl λK hK=>?_
 simp (disch:=omega)
 repeat' first|(refine ⟨by omega,?_⟩)|(intro _)
 refine hK _ ?_;clear hK K
 refine AW_x rfl rfl λK hK=>?_
 simp (disch:=omega)
 repeat' first|(refine ⟨by omega,?_⟩)|(intro _)
 refine hK _ ?_;clear hK K
 refine zbf ?_
 refine AW_x rfl rfl λK hK=>?_
 simp (disch:=omega)
 repeat' first|(refine ⟨by omega,?_⟩)|(intro _)
 refine hK _ ?_;clear hK K
 refine zbg ?_
 refine zbr (λmM sS=>∃(i:Nat),mM=16-i∧(i≤16)∧sS = { env:=lkE [(0,.sl 1 h.cells),(1,.s b),(2,.sl 1 (shaK.map cW)),(7,.arr 501 0 64),(8,(.g (.int .i64 ((i:Nat)))))],ob:=lk [(501,.win 1 (schR b i))] }) ?_ ?_
 ·refine ⟨_,LeS.kx [(501,336)] [(0,.sl 1 h.cells),(1,.s b),(2,.sl 1 (shaK.map cW)),(7,.arr 501 0 64),(8,(.g (.int .i64 (((0):Nat)))))] [(501,.win 1 (schR b (0)))] (by simp [zG1,KpR,renV2,renV,zbh,zcn,zcg];try rfl) (by simp [zG1,KpOX,renO,plO,cvO,renV,pl1,zcn,zcg];first|(simp [schR,sch];done) | exact zvs b hb i hi2 _ _ _ _ | trace_state) (by rfl) (by simp) (by simp) (by rfl) (by simp [zG2,formsX]),_,0,rfl,?_,rfl⟩
  ·simp
 ·rintro mM sS ⟨i,rfl,hi,rfl⟩
  refine zbf ?_
  refine AW_x rfl rfl λK hK=>?_
  simp (disch:=omega)
  repeat' first|(refine ⟨by omega,?_⟩)|(intro _)
  refine hK _ ?_;clear hK K
  refine zbo rfl (λhc1=>?_) (λhc1=>?_)
  ·try simp at hc1
   all_goals
    have hi2:i<16:=by omega
    refine zbn ?_
    refine zbj ?_
    refine zbf ?_
    refine zbg ?_
    refine zl6 rfl mix (by kernel_rfl) (by kernel_rfl) λK hK=>?_
    simp (disch:=omega)
    repeat' first|(exfalso;omega)|(refine ⟨λ_=>?_,λ_=>?_⟩)|(refine ⟨by omega,?_⟩)|(simp (disch:=omega))|(intro _)
    all_goals (refine hK _ _ (by kernel_rfl) ?_;clear hK K)
    all_goals
     refine zbj ?_
     refine zcp rfl rfl λK hK=>?_
     simp (disch:=omega)
     repeat' first|(refine ⟨by omega,?_⟩)|(intro _)
     refine hK _ ?_;clear hK K
     refine ⟨_,LeS.kx [(501,501)] [(0,.sl 1 h.cells),(1,.s b),(2,.sl 1 (shaK.map cW)),(7,.arr 501 0 64),(8,(.g (.int .i64 (((i+1):Nat)))))] [(501,.win 1 (schR b (i+1)))] (by simp [zG1,KpR,renV2,renV,zbh,zcn,zcg];try rfl) (by simp [zG1,KpOX,renO,plO,cvO,renV,pl1,zcn,zcg];first|(simp [schR,sch];done) | exact zvs b hb i hi2 _ _ _ _ | trace_state) (by rfl) (by simp) (by simp) (by rfl) (by simp [zG2,formsX]),_,?_,i+1,rfl,?_,rfl⟩
     ·omega
     ·omega
  ·try simp at hc1
   all_goals
    have hil:i=16:=by omega
    subst hil
    refine zb4 ?_
    refine zbj ?_
    refine zbf ?_
    refine AW_x rfl rfl λK hK=>?_
    simp (disch:=omega)
    repeat' first|(exfalso;omega)|(refine ⟨λ_=>?_,λ_=>?_⟩)|(refine ⟨by omega,?_⟩)|(simp (disch:=omega))|(intro _)
    all_goals (refine hK _ ?_;clear hK K)
    all_goals
     refine zbg ?_
     refine zbr (λmM sS=>∃(i:Nat),mM=64-i∧(16≤i∧i≤64)∧sS = { env:=lkE [(0,.sl 1 h.cells),(1,.s b),(2,.sl 1 (shaK.map cW)),(7,.arr 501 0 64),(9,(.g (.int .i64 ((i:Nat)))))],ob:=lk [(501,.win 1 (schR b i))] }) ?_ ?_
     ·refine ⟨_,LeS.kx [(501,501)] [(0,.sl 1 h.cells),(1,.s b),(2,.sl 1 (shaK.map cW)),(7,.arr 501 0 64),(9,(.g (.int .i64 (((16):Nat)))))] [(501,.win 1 (schR b (16)))] (by simp [zG1,KpR,renV2,renV,zbh,zcn,zcg];try rfl) (by simp [zG1,KpOX,renO,plO,cvO,renV,pl1,zcn,zcg];first|(simp;done) | exact zvt b i hi1 hi2 | trace_state) (by rfl) (by simp) (by simp) (by rfl) (by simp [zG2,formsX]),_,16,rfl,?_,rfl⟩
      ·simp
     ·rintro mM sS ⟨i,rfl,⟨hi1,hi⟩,rfl⟩
      refine zbf ?_
      refine AW_x rfl rfl λK hK=>?_
      simp (disch:=omega)
      repeat' first|(refine ⟨by omega,?_⟩)|(intro _)
      refine hK _ ?_;clear hK K
      refine zbo rfl (λhc2=>?_) (λhc2=>?_)
      ·try simp at hc2
       all_goals
        have hi2:i<64:=by omega
        have g15:(schR b i)[((i:Int)-15).toNat]? = some (cW (wd b (i-15))):=by rw [show ((i:Int)-15).toNat=i-15 by omega];exact zgd b i _ (by omega) hi
        have g2:(schR b i)[((i:Int)-2).toNat]? = some (cW (wd b (i-2))):=by rw [show ((i:Int)-2).toNat=i-2 by omega];exact zgd b i _ (by omega) hi
        have g16:(schR b i)[((i:Int)-16).toNat]? = some (cW (wd b (i-16))):=by rw [show ((i:Int)-16).toNat=i-16 by omega];exact zgd b i _ (by omega) hi
        have g7:(schR b i)[((i:Int)-7).toNat]? = some (cW (wd b (i-7))):=by rw [show ((i:Int)-7).toNat=i-7 by omega];exact zgd b i _ (by omega) hi
        refine zbn ?_
        refine zbj ?_
        refine zbf ?_
        refine zbg ?_
        refine AW_d rfl mix (by kernel_rfl) (by kernel_rfl) λK hK=>?_
        simp (disch:=omega) [g15,g2,g16,g7]
        repeat' first|(exfalso;omega)|(refine zkm (λst'=>(zbd zcj (zbd zcj zbk))) (zd8 _ _ (by decide)) rfl ?_;simp (disch:=omega) [g15,g2,g16,g7])|(refine zkn (zd8 _ _ (by decide)) (by rfl) (λst' hst=>?_) ?_;(focus (simp (disch:=omega) [g15,g2,g16,g7] at hst;simp (disch:=omega) [g15,g2,g16,g7,hst,zbe];done));simp (disch:=omega) [g15,g2,g16,g7])|(refine ⟨λ_=>?_,λ_=>?_⟩)|(refine ⟨by omega,?_⟩)|(simp (disch:=omega) [g15,g2,g16,g7])|(intro _)
        all_goals (refine hK _ _ (by kernel_rfl) ?_;clear hK K)
        all_goals
         refine AW_d rfl mix (by kernel_rfl) (by kernel_rfl) λK hK=>?_
         simp (disch:=omega) [g15,g2,g16,g7]
         repeat' first|(exfalso;omega)|(refine zkm (λst'=>(zbd zcj (zbd zcj zbk))) (zd8 _ _ (by decide)) rfl ?_;simp (disch:=omega) [g15,g2,g16,g7])|(refine zkn (zd8 _ _ (by decide)) (by rfl) (λst' hst=>?_) ?_;(focus (simp (disch:=omega) [g15,g2,g16,g7] at hst;simp (disch:=omega) [g15,g2,g16,g7,hst,zbe];done));simp (disch:=omega) [g15,g2,g16,g7])|(refine ⟨by omega,?_⟩)|(simp (disch:=omega) [g15,g2,g16,g7])|(intro _)
         refine hK _ _ (by kernel_rfl) ?_;clear hK K
         refine zl6 rfl mix (by kernel_rfl) (by kernel_rfl) λK hK=>?_
         simp (disch:=omega) [g15,g2,g16,g7]
         repeat' first|(exfalso;omega)|(refine zkm (λst'=>(zbd zcj zbk)) (zgc _) rfl ?_;simp (disch:=omega) [g15,g2,g16,g7])|(refine zkn (zgc _) (by rfl) (λst' hst=>?_) ?_;(focus (simp (disch:=omega) [g15,g2,g16,g7] at hst;simp (disch:=omega) [g15,g2,g16,g7,hst,zbe];done));simp (disch:=omega) [g15,g2,g16,g7])|(refine ⟨by omega,?_⟩)|(simp (disch:=omega) [g15,g2,g16,g7])|(intro _)
         refine hK _ _ (by kernel_rfl) ?_;clear hK K
         refine zbj ?_
         refine zcp rfl rfl λK hK=>?_
         simp (disch:=omega) [g15,g2,g16,g7]
         repeat' first|(refine ⟨by omega,?_⟩)|(intro _)
         refine hK _ ?_;clear hK K
         refine ⟨_,LeS.kx [(501,501)] [(0,.sl 1 h.cells),(1,.s b),(2,.sl 1 (shaK.map cW)),(7,.arr 501 0 64),(9,(.g (.int .i64 (((i+1):Nat)))))] [(501,.win 1 (schR b (i+1)))] (by simp [zG1,KpR,renV2,renV,zbh,zcn,zcg];try rfl) (by simp [zG1,KpOX,renO,plO,cvO,renV,pl1,zcn,zcg];first|(simp;done) | exact zvt b i hi1 hi2 | trace_state) (by rfl) (by simp) (by simp) (by rfl) (by simp [zG2,formsX]),_,?_,i+1,rfl,?_,rfl⟩
         ·omega
         ·omega
      ·try simp at hc2
       all_goals
        have hil:i=64:=by omega
        subst hil
        refine zb4 ?_
        refine zbj ?_
        refine AW_x rfl rfl λK hK=>?_
        simp (disch:=omega)
        repeat' first|(exfalso;omega)|(refine ⟨λ_=>?_,λ_=>?_⟩)|(refine ⟨by omega,?_⟩)|(simp (disch:=omega))|(intro _)
        all_goals (refine hK _ ?_;clear hK K)
        all_goals
         refine zbf ?_
         refine AW_x rfl rfl λK hK=>?_
         simp (disch:=omega)
         repeat' first|(refine ⟨by omega,?_⟩)|(intro _)
         refine hK _ ?_;clear hK K
         refine zbg ?_
         refine zbr (λmM sS=>∃(i:Nat),mM=64-i∧(i≤64)∧sS = { env:=lkE [(0,.sl 1 h.cells),(2,.sl 1 (shaK.map cW)),(7,.arr 501 0 64),(12,.arr 502 0 8),(13,(.g (.int .i64 ((i:Nat)))))],ob:=lk [(501,.win 1 (schR b 64)),(502,.win 1 (runW b h i).cells)] }) ?_ ?_
         ·refine ⟨_,LeS.kx [(501,501),(502,1968)] [(0,.sl 1 h.cells),(2,.sl 1 (shaK.map cW)),(7,.arr 501 0 64),(12,.arr 502 0 8),(13,(.g (.int .i64 (((0):Nat)))))] [(501,.win 1 (schR b 64)),(502,.win 1 (runW b h (0)).cells)] (by simp [zG1,KpR,renV2,renV,zbh,zcn,zcg,zbx,cells_len];first|(simp;done)|(with_reducible rfl) | exact (show _=W8.cells _ from rfl) | trace_state) (by simp [zG1,KpOX,renO,plO,cvO,renV,pl1,zcn,zcg,zbx,cells_len];first|(rw [zj4,hv,znw];done)|(rw [zdt];done) | trace_state) (by rfl) (by simp) (by simp) (by rfl) (by simp [zG2,formsX]),_,0,rfl,?_,rfl⟩
          ·simp
         ·rintro mM sS ⟨i,rfl,hi,rfl⟩
          refine zbf ?_
          refine AW_x rfl rfl λK hK=>?_
          simp (disch:=omega)
          repeat' first|(refine ⟨by omega,?_⟩)|(intro _)
          refine hK _ ?_;clear hK K
          refine zbo rfl (λhc3=>?_) (λhc3=>?_)
          ·try simp at hc3
           all_goals
            have hi2:i<64:=by omega
            have gw:(schR b 64)[i]? = some (cW (wd b i)):=zgd b 64 i hi2 (by omega)
            have gk:=kd_at i hi2
            obtain ⟨v,hv⟩:∃v,runW b h i=v:=⟨_,rfl⟩
            rw [hv]
            refine zbn ?_
            refine zbj ?_
            refine zbf ?_
            refine zbg ?_
            refine AW_x rfl rfl λK hK=>?_
            simp (disch:=omega) [gw,gk,W8.cells]
            repeat' first|(exfalso;omega)|(refine ⟨λ_=>?_,λ_=>?_⟩)|(refine ⟨by omega,?_⟩)|(simp (disch:=omega) [gw,gk,W8.cells])|(intro _)
            all_goals (refine hK _ ?_;clear hK K)
            all_goals
             refine AW_x rfl rfl λK hK=>?_
             simp (disch:=omega) [gw,gk,W8.cells]
             repeat' first|(refine ⟨by omega,?_⟩)|(intro _)
             refine hK _ ?_;clear hK K
             refine AW_d rfl mix (by kernel_rfl) (by kernel_rfl) λK hK=>?_
             simp (disch:=omega) [gw,gk,W8.cells]
             repeat' first|(exfalso;omega)|(refine zkm (λst'=>(zbd zcj (zbd zcj zbk))) (zd8 _ _ (by decide)) rfl ?_;simp (disch:=omega) [gw,gk,W8.cells])|(refine zkn (zd8 _ _ (by decide)) (by rfl) (λst' hst=>?_) ?_;(focus (simp (disch:=omega) [gw,gk,W8.cells] at hst;simp (disch:=omega) [gw,gk,W8.cells,hst,zbe];done));simp (disch:=omega) [gw,gk,W8.cells])|(refine zkm (λst'=>(zbd zcj zbk)) (zgc _) rfl ?_;simp (disch:=omega) [gw,gk,W8.cells])|(refine zkn (zgc _) (by rfl) (λst' hst=>?_) ?_;(focus (simp (disch:=omega) [gw,gk,W8.cells] at hst;simp (disch:=omega) [gw,gk,W8.cells,hst,zbe];done));simp (disch:=omega) [gw,gk,W8.cells])|(refine ⟨by omega,?_⟩)|(simp (disch:=omega) [gw,gk,W8.cells])|(intro _)
             refine hK _ _ (by kernel_rfl) ?_;clear hK K
             refine AW_d rfl mix (by kernel_rfl) (by kernel_rfl) λK hK=>?_
             simp (disch:=omega) [gw,gk,W8.cells]
             repeat' first|(exfalso;omega)|(refine zkm (λst'=>(zbd zcj (zbd zcj zbk))) (zd8 _ _ (by decide)) rfl ?_;simp (disch:=omega) [gw,gk,W8.cells])|(refine zkn (zd8 _ _ (by decide)) (by rfl) (λst' hst=>?_) ?_;(focus (simp (disch:=omega) [gw,gk,W8.cells] at hst;simp (disch:=omega) [gw,gk,W8.cells,hst,zbe];done));simp (disch:=omega) [gw,gk,W8.cells])|(refine ⟨by omega,?_⟩)|(simp (disch:=omega) [gw,gk,W8.cells])|(intro _)
             refine hK _ _ (by kernel_rfl) ?_;clear hK K
             refine zl6 rfl mix (by kernel_rfl) (by kernel_rfl) λK hK=>?_
             simp (disch:=omega) [gw,gk,W8.cells]
             repeat' first|(exfalso;omega)|(refine zkm (λst'=>(zbd zcj zbk)) (zgc _) rfl ?_;simp (disch:=omega) [gw,gk,W8.cells])|(refine zkn (zgc _) (by rfl) (λst' hst=>?_) ?_;(focus (simp (disch:=omega) [gw,gk,W8.cells] at hst;simp (disch:=omega) [gw,gk,W8.cells,hst,zbe];done));simp (disch:=omega) [gw,gk,W8.cells])|(refine ⟨by omega,?_⟩)|(simp (disch:=omega) [gw,gk,W8.cells])|(intro _)
             refine hK _ _ (by kernel_rfl) ?_;clear hK K
             refine zbj ?_
             refine zcp rfl rfl λK hK=>?_
             simp (disch:=omega) [gw,gk,W8.cells]
             repeat' first|(refine ⟨by omega,?_⟩)|(intro _)
             refine hK _ ?_;clear hK K
             refine ⟨_,LeS.kx [(501,501),(502,3616)] [(0,.sl 1 h.cells),(2,.sl 1 (shaK.map cW)),(7,.arr 501 0 64),(12,.arr 502 0 8),(13,(.g (.int .i64 (((i+1):Nat)))))] [(501,.win 1 (schR b 64)),(502,.win 1 (runW b h (i+1)).cells)] (by simp [zG1,KpR,renV2,renV,zbh,zcn,zcg,zbx,cells_len];first|(simp;done)|(with_reducible rfl) | exact (show _=W8.cells _ from rfl) | trace_state) (by simp [zG1,KpOX,renO,plO,cvO,renV,pl1,zcn,zcg,zbx,cells_len];first|(rw [zj4,hv,znw];done)|(rw [zdt];done) | trace_state) (by rfl) (by simp) (by simp) (by rfl) (by simp [zG2,formsX]),_,?_,i+1,rfl,?_,rfl⟩
             ·omega
             ·omega
          ·try simp at hc3
           all_goals
            have hil:i=64:=by omega
            subst hil
            obtain ⟨v,hv⟩:∃v,runW b h 64=v:=⟨_,rfl⟩
            rw [hv]
            refine zb4 ?_
            refine zbj ?_
            refine AW_x rfl rfl λK hK=>?_
            simp (disch:=omega)
            repeat' first|(exfalso;omega)|(refine ⟨λ_=>?_,λ_=>?_⟩)|(refine ⟨by omega,?_⟩)|(simp (disch:=omega))|(intro _)
            all_goals (refine hK _ ?_;clear hK K)
            all_goals
             refine zbf ?_
             refine AW_x rfl rfl λK hK=>?_
             simp (disch:=omega)
             repeat' first|(refine ⟨by omega,?_⟩)|(intro _)
             refine hK _ ?_;clear hK K
             refine zbg ?_
             refine zbr (λmM sS=>∃(i:Nat),mM=8-i∧(i≤8)∧sS = { env:=lkE [(0,.sl 1 h.cells),(12,.arr 502 0 8),(18,.arr 503 0 i),(19,(.g (.int .i64 ((i:Nat)))))],ob:=lk [(502,.win 1 v.cells),(503,.win 1 ((add8 h v).cells.take i))] }) ?_ ?_
             ·refine ⟨_,LeS.kx [(502,502),(503,3632)] [(0,.sl 1 h.cells),(12,.arr 502 0 8),(18,.arr 503 0 (0)),(19,(.g (.int .i64 (((0):Nat)))))] [(502,.win 1 v.cells),(503,.win 1 ((add8 h v).cells.take (0)))] (by simp [zG1,KpR,renV2,renV,zbh,zbx,cells_len,zrd];first|(simp;done) | omega | trace_state) (by simp [zG1,KpOX,renO,plO,cvO,renV,pl1,zbx,cells_len,zrd];first | rfl|(rw [znx _ _ _ hi2,List.take_of_length_le (by simp [htl])];rfl) | trace_state) (by rfl) (by simp) (by simp) (by rfl) (by simp [zG2,formsX]),_,0,rfl,?_,rfl⟩
              ·simp
             ·rintro mM sS ⟨i,rfl,hi,rfl⟩
              have htl:=tk_len (add8 h v) i hi
              refine zbf ?_
              refine AW_x rfl rfl λK hK=>?_
              simp (disch:=omega) [htl]
              repeat' first|(refine ⟨by omega,?_⟩)|(intro _)
              refine hK _ ?_;clear hK K
              refine zbo rfl (λhc4=>?_) (λhc4=>?_)
              ·try simp at hc4
               all_goals
                have hi2:i<8:=by omega
                have gh:=zj5 h i hi2
                have gv:=zj5 v i hi2
                refine zbn ?_
                refine zbj ?_
                refine zbf ?_
                refine zbg ?_
                refine zl6 rfl mix (by kernel_rfl) (by kernel_rfl) λK hK=>?_
                simp (disch:=omega) [htl,gh,gv]
                repeat' first|(exfalso;omega)|(refine zkm (λst'=>(zbd zcj zbk)) (zgc _) rfl ?_;simp (disch:=omega) [htl,gh,gv])|(refine zkn (zgc _) (by rfl) (λst' hst=>?_) ?_;(focus (simp (disch:=omega) [htl,gh,gv] at hst;simp (disch:=omega) [htl,gh,gv,hst,zbe];done));simp (disch:=omega) [htl,gh,gv])|(refine ⟨λ_=>?_,λ_=>?_⟩)|(refine ⟨by omega,?_⟩)|(simp (disch:=omega) [htl,gh,gv])|(intro _)
                all_goals (refine hK _ _ (by kernel_rfl) ?_;clear hK K)
                all_goals
                 refine zbj ?_
                 refine zcp rfl rfl λK hK=>?_
                 simp (disch:=omega) [htl,gh,gv]
                 repeat' first|(refine ⟨by omega,?_⟩)|(intro _)
                 refine hK _ ?_;clear hK K
                 refine ⟨_,LeS.kx [(502,502),(503,3904)] [(0,.sl 1 h.cells),(12,.arr 502 0 8),(18,.arr 503 0 (i+1)),(19,(.g (.int .i64 (((i+1):Nat)))))] [(502,.win 1 v.cells),(503,.win 1 ((add8 h v).cells.take (i+1)))] (by simp [zG1,KpR,renV2,renV,zbh,zbx,cells_len,zrd];first|(simp;done) | omega | trace_state) (by simp [zG1,KpOX,renO,plO,cvO,renV,pl1,zbx,cells_len,zrd];first | rfl|(rw [znx _ _ _ hi2,List.take_of_length_le (by simp [htl])];rfl) | trace_state) (by rfl) (by simp) (by simp) (by rfl) (by simp [zG2,formsX]),_,?_,i+1,rfl,?_,rfl⟩
                 ·omega
                 ·omega
              ·try simp at hc4
               all_goals
                have hil:i=8:=by omega
                subst hil
                refine zb4 ?_
                refine zbj ?_
                refine AW_x rfl rfl λK hK=>?_
                simp (disch:=omega) [htl]
                repeat' first|(exfalso;omega)|(refine ⟨λ_=>?_,λ_=>?_⟩)|(refine ⟨by omega,?_⟩)|(simp (disch:=omega) [htl])|(intro _)
                all_goals (refine hK _ ?_;clear hK K)
                all_goals
                 refine zbz (zjv [503] [] (by simp [zG1,List.range_succ]) (by simp) ?_)
                 simp (disch:=omega) [htl]
                 all_goals first|(unfold blk;rw [hv];done) | trace_state
end Go.Proofs.YtchpfloemfoomaaDoor.Vs
end
section
open Go Go.Proofs Go.Proofs.YtchpfloemfoomaaDoor.Vs
namespace Go.Proofs.YtchpfloemfoomaaDoor.Vs
set_option linter.all false
set_option maxRecDepth 100000
set_option maxHeartbeats 4000000
attribute [local simp ↓] zl7 zq8 zl8 zl9 zma zmb
def bC(n:Int):List AV:=[.g (.int .u8 n)]
theorem zge:∀ns:List Int,numsOf (ns.map bC)=some ns
 | []=>rfl
 | n :: ns=>by
  have:=zge ns
  simp only [List.map_cons,bC,numsOf] at this ⊢
  rw [this];rfl
theorem mask8(x:Int):zAnd x 255=x % 256:=by
 show IntKind.i64.wrap (((BitVec.ofInt 64 x &&& BitVec.ofInt 64 255).toNat:Nat):Int)=_
 have e:(BitVec.ofInt 64 x &&& BitVec.ofInt 64 255).toNat=(x % 18446744073709551616).toNat % 256:=by
  rw [BitVec.toNat_and]
  have h1:(BitVec.ofInt 64 255).toNat=2^8-1:=by decide
  have h2:(BitVec.ofInt 64 x).toNat=(x % 18446744073709551616).toNat:=by simp [BitVec.toNat_ofInt]
  rw [h1,h2,Nat.and_two_pow_sub_one_eq_mod]
 rw [e,zko (by omega)]
 omega
theorem wrapB(x:Int):IntKind.u8.wrap x=x % 256:=by simp [IntKind.wrap,IntKind.bits,IntKind.signed]
theorem zj6(m:Nat):UInt8.ofNat (m % 256)=UInt8.ofNat m:=by
 apply UInt8.toNat_inj.1
 simp [UInt8.toNat_ofNat']
/-- The bytes behind the text, in numbers. -/
def lenI(n i:Nat):List Int:=(List.range i).map λj=>((n*8 / 2^(56-8*j) % 256:Nat):Int)
theorem zvu(n i:Nat):lenI n (i+1)=lenI n i++[((n*8 / 2^(56-8*i) % 256:Nat):Int)]:=by unfold lenI;rw [List.range_succ,List.map_append];rfl
theorem lenI_len(n i:Nat):(lenI n i).length=i:=by simp [lenI]
def padI(n k i:Nat):List Int:=(128:Int) :: (List.replicate k 0++lenI n i)
theorem zhr(n k i:Nat):(padI n k i).length=1+k+i:=by simp [padI,lenI_len];omega
theorem padI_S(s:List UInt8):s++strN (padI s.length (zerosN s.length) 8)=padS s:=by
 unfold padS padI strN lenI lenB
 congr 1
 simp only [List.map_cons,List.map_append,List.map_map,List.map_replicate]
 have e:((λn:Int=>UInt8.ofNat n.toNat) ∘ λj=>((s.length*8 / 2^(56-8*j) % 256:Nat):Int))=λi=>UInt8.ofNat (s.length*8 / 2^(56-8*i)):=by
  funext j
  simp only [Function.comp,Int.toNat_natCast]
  exact zj6 _
 rw [e]
 simp
def by4I(x:W32):List Int:=[((x.toNat / 16777216 % 256:Nat):Int),((x.toNat / 65536 % 256:Nat):Int),((x.toNat / 256 % 256:Nat):Int),((x.toNat % 256:Nat):Int)]
theorem by4I_S(x:W32):strN (by4I x)=by4 x:=by
 unfold strN by4I by4
 simp only [List.map_cons,List.map_nil,Int.toNat_natCast,zj6]
def outI(v:W8)(i:Nat):List Int:=(List.range i).flatMap λj=>by4I (v.get j)
theorem zj7(v:W8)(i:Nat):outI v (i+1)=outI v i++by4I (v.get i):=by unfold outI;rw [List.range_succ,List.flatMap_append];simp
theorem zhs(v:W8):∀i,(outI v i).length=4*i
 | 0=>rfl
 | i+1=>by rw [zj7,List.length_append,zhs v i];rfl
theorem outI_S(v:W8):strN (outI v 8)=by32 v:=by
 have h:outI v 8=by4I v.a++by4I v.b++by4I v.c++by4I v.d++by4I v.e++by4I v.f++by4I v.g++by4I v.h:=rfl
 have hs:∀a b:List Int,strN (a++b)=strN a++strN b:=λa b=>by simp [strN]
 rw [h]
 simp only [hs,by4I_S]
 rfl
theorem zla:shaH.cells=[[AV.g (.int .i64 1779033703)],[AV.g (.int .i64 3144134277)],[AV.g (.int .i64 1013904242)],[AV.g (.int .i64 2773480762)],[AV.g (.int .i64 1359893119)],[AV.g (.int .i64 2600822924)],[AV.g (.int .i64 528734635)],[AV.g (.int .i64 1541459225)]]:=rfl
theorem zvv(p:Nat)(z:Int)(h:0≤z∧z≤64):zShr (p:Int) z=((p / 2^z.toNat:Nat):Int):=by
 unfold zShr
 rw [show min z.toNat IntKind.i64.bits=z.toNat from Nat.min_eq_left (by show z.toNat≤64;omega),Int.fdiv_eq_ediv_of_nonneg _ (Int.pow_nonneg (by omega))]
 norm_cast
theorem pad_end{n k:Nat}(hk:k≤zerosN n)(h:(n+(1+k)) % 64=56):k=zerosN n:=by unfold zerosN at *;omega
theorem pad_go{n k:Nat}(hk:k≤zerosN n)(h:¬(n+(1+k)) % 64=56):k<zerosN n:=by unfold zerosN at *;omega
theorem zre(n:Nat):zerosN n<64:=by unfold zerosN;omega
theorem tkb(l:List Int)(n:Nat)(h:l.length=n):List.take n (l.map bC)=l.map bC:=List.take_of_length_le (by simp;omega)
theorem zny(n k i:Nat):padI n k (i+1)=padI n k i++[((n*8 / 2^(56-8*i) % 256:Nat):Int)]:=by unfold padI;rw [zvu];simp
theorem len_by(n i:Nat)(h:i<8):IntKind.u8.wrap (zAnd (zShr ((n:Int)*8) (56-8*(i:Int))) 255)=((n*8 / 2^(56-8*i) % 256:Nat):Int):=by
 have e:(n:Int)*8=((n*8:Nat):Int):=by omega
 rw [e,zvv _ _ (by omega),mask8,wrapB,show (56-8*(i:Int)).toNat=56-8*i by omega]
 omega
theorem out_by(x:W32) : [[AV.g (Value.int IntKind.u8 (IntKind.u8.wrap (zShr (wI x) 24)))],[AV.g (Value.int IntKind.u8 (IntKind.u8.wrap (zAnd (zShr (wI x) 16) 255)))],[AV.g (Value.int IntKind.u8 (IntKind.u8.wrap (zAnd (zShr (wI x) 8) 255)))],[AV.g (Value.int IntKind.u8 (IntKind.u8.wrap (zAnd (wI x) 255)))]]=(by4I x).map bC:=by
 have h:∀z:Int,0≤z∧z≤64→zShr (wI x) z=((x.toNat / 2^z.toNat:Nat):Int):=λz hz=>zvv x.toNat z hz
 rw [h 24 (by omega),h 16 (by omega),h 8 (by omega)]
 simp only [mask8,wrapB,by4I,List.map_cons,List.map_nil,bC]
 have hx:wI x=(x.toNat:Int):=rfl
 rw [hx]
 have e1:(((x.toNat / 2^(24:Int).toNat:Nat):Int)) % 256=((x.toNat / 16777216 % 256:Nat):Int):=by rw [show (24:Int).toNat=24 from rfl];omega
 have e2:(((x.toNat / 2^(16:Int).toNat:Nat):Int)) % 256 % 256=((x.toNat / 65536 % 256:Nat):Int):=by rw [show (16:Int).toNat=16 from rfl];omega
 have e3:(((x.toNat / 2^(8:Int).toNat:Nat):Int)) % 256 % 256=((x.toNat / 256 % 256:Nat):Int):=by rw [show (8:Int).toNat=8 from rfl];omega
 have e4:((x.toNat:Int)) % 256 % 256=((x.toNat % 256:Nat):Int):=by omega
 rw [e1,e2,e3,e4]
theorem zj8(ns:List Int):(strN ns).length=ns.length:=by simp [strN]
theorem tmod_n(n k:Nat):((n:Int)+(1+(k:Int))).tmod 64=(((n+(1+k)) % 64:Nat):Int):=by
 rw [Int.tmod_eq_emod_of_nonneg (by omega)];omega
theorem zj9(t:List UInt8)(j:Nat):blks t (j+1)=blk (blks t j) ((t.drop (64*j)).take 64):=by rw [blks]
attribute [local simp] row8 cells_len zj8 zhr aNews aAppend aBuildSlice bC tkb zge zhs
theorem specSha(s:List UInt8)(hs:s.length≤1073741824):XCall Tryd.prog 35 [.s s] [] (.s (shaS s)) [] []:=by
 refine zb6 Tryd.func35 (by rfl) (by rfl) (by rw [Tryd.ntmps35];exact Nat.le_of_ble_eq_true rfl) rfl (by simp) rfl rfl ?_
 rw [Tryd.ntmps35]
 refine znn   ?_
 refine AW_k [(0,_)] ⟨rfl,trivial⟩ ?_
 refine AW_x rfl rfl λK hK=>?_
 simp (disch:=omega)
 repeat' first|(refine ⟨by omega,?_⟩)|(intro _)
 refine hK _ ?_;clear hK K
 refine AW_x rfl rfl λK hK=>?_
 simp (disch:=omega)
 repeat' first|(refine ⟨by omega,?_⟩)|(simp (disch:=omega))|(intro _)
 refine hK _ ?_;clear hK K
 refine AW_x rfl rfl λK hK=>?_
 simp (disch:=omega)
 repeat' first|(refine ⟨by omega,?_⟩)|(simp (disch:=omega))|(intro _)
 refine hK _ ?_;clear hK K
 refine zbf ?_
 refine zbg ?_
 refine zbr (λmM sS=>∃(k:Nat),mM=zerosN s.length-k∧(k≤zerosN s.length)∧sS = { env:=lkE [(0,.s s),(3,(.g (.int .i64 ((s.length:Nat))))),(4,.arr 501 0 (1+k))],ob:=lk [(501,.flat 1 ((padI s.length k 0).map bC))] }) ?_ ?_
 ·refine ⟨_,LeS.kx [(501,240)] [(0,.s s),(3,(.g (.int .i64 ((s.length:Nat))))),(4,.arr 501 0 (1+(0)))] [(501,.flat 1 ((padI s.length (0) 0).map bC))] (by simp [zG1,KpR,renV2,renV,zbh];first|(simp;done) | omega | trace_state) (by simp [zG1,KpOX,renO,plO,cvO,renV,pl1];first|(simp [padI,lenI,bC];done)|(simp [padI,lenI,bC,List.replicate_succ'];done) | trace_state) (by rfl) (by simp) (by simp) (by rfl) (by simp [zG2,formsX]),_,0,rfl,?_,rfl⟩
  ·simp
 ·rintro mM sS ⟨k,rfl,hk,rfl⟩
  have hz:=zre s.length
  have hpl:=zhr s.length k 0
  have htm:=tmod_n s.length k
  refine zbf ?_
  refine AW_x rfl rfl λK hK=>?_
  simp (disch:=omega)
  repeat' first|(refine ⟨by omega,?_⟩)|(simp (disch:=omega))|(intro _)
  refine hK _ ?_;clear hK K
  refine zbo rfl (λhc1=>?_) (λhc1=>?_)
  ·try simp at hc1
   all_goals
    have hlt:=pad_go hk (by have:=hc1;omega)
    refine zbn ?_
    refine zbj ?_
    refine zbg ?_
    refine zcp rfl rfl λK hK=>?_
    simp (disch:=omega)
    repeat' first|(exfalso;omega)|(refine ⟨λ_=>?_,λ_=>?_⟩)|(refine ⟨by omega,?_⟩)|(simp (disch:=omega))|(intro _)
    all_goals (refine hK _ ?_;clear hK K)
    all_goals
     refine ⟨_,LeS.kx [(501,384)] [(0,.s s),(3,(.g (.int .i64 ((s.length:Nat))))),(4,.arr 501 0 (1+(k+1)))] [(501,.flat 1 ((padI s.length (k+1) 0).map bC))] (by simp [zG1,KpR,renV2,renV,zbh];first|(simp;done) | omega | trace_state) (by simp [zG1,KpOX,renO,plO,cvO,renV,pl1];first|(simp [padI,lenI,bC];done)|(simp [padI,lenI,bC,List.replicate_succ'];done) | trace_state) (by rfl) (by simp) (by simp) (by rfl) (by simp [zG2,formsX]),_,?_,k+1,rfl,?_,rfl⟩
     ·omega
     ·omega
  ·try simp at hc1
   all_goals
    have hke:=pad_end hk (by have:=hc1;omega)
    subst hke
    refine zb4 ?_
    refine zbj ?_
    refine zbf ?_
    refine AW_x rfl rfl λK hK=>?_
    simp (disch:=omega)
    repeat' first|(exfalso;omega)|(refine ⟨λ_=>?_,λ_=>?_⟩)|(refine ⟨by omega,?_⟩)|(simp (disch:=omega))|(intro _)
    all_goals (refine hK _ ?_;clear hK K)
    all_goals
     refine zbg ?_
     refine zbr (λmM sS=>∃(i:Nat),mM=8-i∧(i≤8)∧sS = { env:=lkE [(0,.s s),(3,(.g (.int .i64 ((s.length:Nat))))),(4,.arr 502 0 (1+zerosN s.length+i)),(5,(.g (.int .i64 ((i:Nat)))))],ob:=lk [(502,.flat 1 ((padI s.length (zerosN s.length) i).map bC))] }) ?_ ?_
     ·refine ⟨_,LeS.kx [(502,501)] [(0,.s s),(3,(.g (.int .i64 ((s.length:Nat))))),(4,.arr 502 0 (1+zerosN s.length+(0))),(5,(.g (.int .i64 (((0):Nat)))))] [(502,.flat 1 ((padI s.length (zerosN s.length) (0)).map bC))] (by simp [zG1,KpR,renV2,renV,zbh];first|(simp;done) | omega | trace_state) (by simp [zG1,KpOX,renO,plO,cvO,renV,pl1];first | rfl|(rw [zny];simp [bC];done) | trace_state) (by rfl) (by simp) (by simp) (by rfl) (by simp [zG2,formsX]),_,0,rfl,?_,rfl⟩
      ·simp
     ·rintro mM sS ⟨i,rfl,hi,rfl⟩
      have hz:=zre s.length
      have hpl:=zhr s.length (zerosN s.length) i
      refine zbf ?_
      refine AW_x rfl rfl λK hK=>?_
      simp (disch:=omega)
      repeat' first|(refine ⟨by omega,?_⟩)|(intro _)
      refine hK _ ?_;clear hK K
      refine zbo rfl (λhc2=>?_) (λhc2=>?_)
      ·try simp at hc2
       all_goals
        have hi2:i<8:=by omega
        have hwu:=wrapU (n:=56-8*(i:Int)) (by omega)
        have hby:=len_by s.length i hi2
        refine zbn ?_
        refine zbj ?_
        refine zbf ?_
        refine zbg ?_
        refine zcp rfl rfl λK hK=>?_
        simp (disch:=omega) [hwu,hby]
        repeat' first|(exfalso;omega)|(refine ⟨λ_=>?_,λ_=>?_⟩)|(refine ⟨by omega,?_⟩)|(simp (disch:=omega) [hwu,hby])|(intro _)
        all_goals (refine hK _ ?_;clear hK K)
        all_goals
         refine zbj ?_
         refine zcp rfl rfl λK hK=>?_
         simp (disch:=omega) [hwu,hby]
         repeat' first|(refine ⟨by omega,?_⟩)|(intro _)
         refine hK _ ?_;clear hK K
         refine ⟨_,LeS.kx [(502,640)] [(0,.s s),(3,(.g (.int .i64 ((s.length:Nat))))),(4,.arr 502 0 (1+zerosN s.length+(i+1))),(5,(.g (.int .i64 (((i+1):Nat)))))] [(502,.flat 1 ((padI s.length (zerosN s.length) (i+1)).map bC))] (by simp [zG1,KpR,renV2,renV,zbh];first|(simp;done) | omega | trace_state) (by simp [zG1,KpOX,renO,plO,cvO,renV,pl1];first | rfl|(rw [zny];simp [bC];done) | trace_state) (by rfl) (by simp) (by simp) (by rfl) (by simp [zG2,formsX]),_,?_,i+1,rfl,?_,rfl⟩
         ·omega
         ·omega
      ·try simp at hc2
       all_goals
        have hil:i=8:=by omega
        subst hil
        refine zb4 ?_
        refine zbj ?_
        refine AW_x rfl rfl λK hK=>?_
        simp (disch:=omega)
        repeat' first|(exfalso;omega)|(refine ⟨λ_=>?_,λ_=>?_⟩)|(refine ⟨by omega,?_⟩)|(simp (disch:=omega))|(intro _)
        all_goals (refine hK _ ?_;clear hK K)
        all_goals
         refine AW_x rfl rfl λK hK=>?_
         simp (disch:=omega)
         repeat' first|(refine ⟨by omega,?_⟩)|(simp (disch:=omega))|(intro _)
         refine hK _ ?_;clear hK K
         refine AW_x rfl rfl λK hK=>?_
         simp (disch:=omega)
         repeat' first|(exfalso;omega)|(refine zjt zbk (l3Keys) rfl ?_;simp (disch:=omega))|(refine zju (l3Keys) (by rfl) ?_ ?_;(focus (simp (disch:=omega) [zbe];done));simp (disch:=omega))|(refine ⟨by omega,?_⟩)|(simp (disch:=omega))|(intro _)
         refine hK _ ?_;clear hK K
         refine zbf ?_
         refine AW_x rfl rfl λK hK=>?_
         simp (disch:=omega)
         repeat' first|(refine ⟨by omega,?_⟩)|(intro _)
         refine hK _ ?_;clear hK K
         refine zbg ?_
         refine zbr (λmM sS=>∃(j:Nat),mM=(padS s).length-64*j∧(64*j≤(padS s).length)∧sS = { env:=lkE [(6,.s (padS s)),(7,.arr 503 0 8),(8,.sl 1 (shaK.map cW)),(9,(.g (.int .i64 ((64*j:Nat)))))],ob:=lk [(503,.own 1 (blks (padS s) j).cells)] }) ?_ ?_
         ·refine ⟨_,LeS.kx [(503,720)] [(6,.s (padS s)),(7,.arr 503 0 8),(8,.sl 1 (shaK.map cW)),(9,(.g (.int .i64 ((64*(0):Nat)))))] [(503,.own 1 (blks (padS s) (0)).cells)] (by simp [zG1,KpR,renV2,renV,zbh,zbx];first | exact padI_S s|(simp;done) | omega|(simp;omega) | trace_state) (by simp [zG1,KpOX,renO,plO,cvO,renV,pl1,zbx];first|(rw [zj9];done) | exact zla | trace_state) (by rfl) (by simp) (by simp) (by rfl) (by simp [zG2,formsX]),_,0,rfl,?_,rfl⟩
          ·simp
         ·rintro mM sS ⟨j,rfl,hj,rfl⟩
          have hpl:=zra s
          refine zbf ?_
          refine AW_x rfl rfl λK hK=>?_
          simp (disch:=omega)
          repeat' first|(refine ⟨by omega,?_⟩)|(simp (disch:=omega))|(intro _)
          refine hK _ ?_;clear hK K
          refine zbo rfl (λhc3=>?_) (λhc3=>?_)
          ·try simp at hc3
           all_goals
            have hj2:64*j+64≤(padS s).length:=by omega
            have hsl:List.take ((64*(j:Int)+64).toNat-(64*(j:Int)).toNat) (List.drop (64*(j:Int)).toNat (padS s))=((padS s).drop (64*j)).take 64:=by rw [show (64*(j:Int)).toNat=64*j by omega,show (64*(j:Int)+64).toNat-64*j=64 by omega]
            have hbl:(((padS s).drop (64*j)).take 64).length=64:=by simp;omega
            refine zbn ?_
            refine zbj ?_
            refine zbf ?_
            refine zbg ?_
            refine zcp rfl rfl λK hK=>?_
            simp (disch:=omega) [hsl]
            repeat' first|(exfalso;omega)|(refine zp3 [] true [] (l3Block (blks (padS s) j) (((padS s).drop (64*j)).take 64) hbl) ?_ ?_ ?_;(focus (simp [List.range_succ,nmC];done));(focus (simp (disch:=omega) [hsl,zbe];done));simp (disch:=omega) [hsl])|(refine ⟨λ_=>?_,λ_=>?_⟩)|(refine ⟨by omega,?_⟩)|(simp (disch:=omega) [hsl])|(intro _)
            all_goals (refine hK _ ?_;clear hK K)
            all_goals
             refine zbj ?_
             refine zcp rfl rfl λK hK=>?_
             simp (disch:=omega) [hsl]
             repeat' first|(refine ⟨by omega,?_⟩)|(intro _)
             refine hK _ ?_;clear hK K
             refine ⟨_,LeS.kx [(503,960)] [(6,.s (padS s)),(7,.arr 503 0 8),(8,.sl 1 (shaK.map cW)),(9,(.g (.int .i64 ((64*(j+1):Nat)))))] [(503,.own 1 (blks (padS s) (j+1)).cells)] (by simp [zG1,KpR,renV2,renV,zbh,zbx];first | exact padI_S s|(simp;done) | omega|(simp;omega) | trace_state) (by simp [zG1,KpOX,renO,plO,cvO,renV,pl1,zbx];first|(rw [zj9];done) | exact zla | trace_state) (by rfl) (by simp) (by simp) (by rfl) (by simp [zG2,formsX]),_,?_,j+1,rfl,?_,rfl⟩
             ·omega
             ·omega
          ·try simp at hc3
           all_goals
            have hjl:64*j=(padS s).length:=by omega
            refine zb4 ?_
            refine zbj ?_
            refine AW_x rfl rfl λK hK=>?_
            simp (disch:=omega)
            repeat' first|(exfalso;omega)|(refine ⟨λ_=>?_,λ_=>?_⟩)|(refine ⟨by omega,?_⟩)|(simp (disch:=omega))|(intro _)
            all_goals (refine hK _ ?_;clear hK K)
            all_goals
             refine zbf ?_
             refine AW_x rfl rfl λK hK=>?_
             simp (disch:=omega)
             repeat' first|(refine ⟨by omega,?_⟩)|(intro _)
             refine hK _ ?_;clear hK K
             refine zbg ?_
             refine zbr (λmM sS=>∃(i:Nat),mM=8-i∧(i≤8)∧sS = { env:=lkE [(7,.arr 503 0 8),(10,.arr 504 0 (4*i)),(11,(.g (.int .i64 ((i:Nat)))))],ob:=lk [(503,.own 1 (blks (padS s) j).cells),(504,.flat 1 ((outI (blks (padS s) j) i).map bC))] }) ?_ ?_
             ·refine ⟨_,LeS.kx [(503,503),(504,976)] [(7,.arr 503 0 8),(10,.arr 504 0 (4*(0))),(11,(.g (.int .i64 (((0):Nat)))))] [(503,.own 1 (blks (padS s) j).cells),(504,.flat 1 ((outI (blks (padS s) j) (0)).map bC))] (by simp [zG1,KpR,renV2,renV,zbh,zbx];first|(simp;done) | omega | trace_state) (by simp [zG1,KpOX,renO,plO,cvO,renV,pl1,zbx];first | rfl|(rw [zj7,out_by,List.map_append];done) | trace_state) (by rfl) (by simp) (by simp) (by rfl) (by simp [zG2,formsX]),_,0,rfl,?_,rfl⟩
              ·simp
             ·rintro mM sS ⟨i,rfl,hi,rfl⟩
              have hol:=zhs (blks (padS s) j) i
              refine zbf ?_
              refine AW_x rfl rfl λK hK=>?_
              simp (disch:=omega)
              repeat' first|(refine ⟨by omega,?_⟩)|(intro _)
              refine hK _ ?_;clear hK K
              refine zbo rfl (λhc4=>?_) (λhc4=>?_)
              ·try simp at hc4
               all_goals
                have hi2:i<8:=by omega
                have gv:=zj5 (blks (padS s) j) i hi2
                refine zbn ?_
                refine zbj ?_
                refine zbf ?_
                refine zbg ?_
                refine zl6 rfl mix (by kernel_rfl) (by kernel_rfl) λK hK=>?_
                simp (disch:=omega) [gv,cW]
                repeat' first|(exfalso;omega)|(refine ⟨λ_=>?_,λ_=>?_⟩)|(refine ⟨by omega,?_⟩)|(simp (disch:=omega) [gv,cW])|(intro _)
                all_goals (refine hK _ _ (by kernel_rfl) ?_;clear hK K)
                all_goals
                 refine zbj ?_
                 refine zcp rfl rfl λK hK=>?_
                 simp (disch:=omega) [gv,cW]
                 repeat' first|(refine ⟨by omega,?_⟩)|(intro _)
                 refine hK _ ?_;clear hK K
                 refine ⟨_,LeS.kx [(503,503),(504,1504)] [(7,.arr 503 0 8),(10,.arr 504 0 (4*(i+1))),(11,(.g (.int .i64 (((i+1):Nat)))))] [(503,.own 1 (blks (padS s) j).cells),(504,.flat 1 ((outI (blks (padS s) j) (i+1)).map bC))] (by simp [zG1,KpR,renV2,renV,zbh,zbx];first|(simp;done) | omega | trace_state) (by simp [zG1,KpOX,renO,plO,cvO,renV,pl1,zbx];first | rfl|(rw [zj7,out_by,List.map_append];done) | trace_state) (by rfl) (by simp) (by simp) (by rfl) (by simp [zG2,formsX]),_,?_,i+1,rfl,?_,rfl⟩
                 ·omega
                 ·omega
              ·try simp at hc4
               all_goals
                have hil:i=8:=by omega
                subst hil
                refine zb4 ?_
                refine zbj ?_
                refine AW_x rfl rfl λK hK=>?_
                simp (disch:=omega)
                repeat' first|(exfalso;omega)|(refine ⟨λ_=>?_,λ_=>?_⟩)|(refine ⟨by omega,?_⟩)|(simp (disch:=omega))|(intro _)
                all_goals (refine hK _ ?_;clear hK K)
                all_goals
                 refine zbz (zjv [] [] (by simp [zG1,List.range_succ]) (by simp) ?_)
                 simp (disch:=omega)
                 all_goals first|(rw [outI_S];unfold shaS;rw [show (padS s).length / 64=j by omega];done) | trace_state
theorem specShaP(s:List UInt8)(hs:s.length≤1073741824):PCall Tryd.prog 35 [.s s] (.s (shaS s)):=zck (specSha s hs) rfl
attribute [local simp] zrb
attribute [-simp] row8 cells_len zj8 zhr aNews aAppend aBuildSlice bC tkb zge zhs
theorem zvw(s:List UInt8)(hs:s.length≤1073741824):PCall Tryd.prog 19 [.s s] (.s (shortS s)):=by
 refine zbl Tryd.func19 (by rfl) (by rfl) (by rw [Tryd.ntmps19];exact Nat.le_of_ble_eq_true rfl) rfl (by decide) ?_
 rw [Tryd.ntmps19]
 refine AW_k [(0,_)] ⟨rfl,trivial⟩ ?_
 refine AW_r rfl rfl λK hK=>?_
 simp (disch:=omega)
 repeat' first|(refine ⟨by omega,?_⟩)|(intro _)
 refine hK _ ?_;clear hK K
 refine AW_r rfl rfl λK hK=>?_
 simp (disch:=omega)
 repeat' first|(exfalso;omega)|(refine zjn (zbd zft zbk) (specShaP _ hs) rfl ?_;simp (disch:=omega))|(refine ⟨by omega,?_⟩)|(intro _)
 refine hK _ ?_;clear hK K
 refine zbz (zde ?_)
 simp (disch:=omega)
 all_goals first | rfl | trace_state
end Go.Proofs.YtchpfloemfoomaaDoor.Vs
end
