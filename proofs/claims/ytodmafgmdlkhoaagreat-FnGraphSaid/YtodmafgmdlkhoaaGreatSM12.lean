import Derived.Test.YtodmafgmdlkhoaaGreatSM11
import Derived.Test.YtodmafgmdlkhoaaGreatSM7
import Derived.Test.YtodmafgmdlkhoaaGreatSM4
section
open Go Go.Proofs Go.Proofs.YtodmafgmdlkhoaaGreat.Vs
namespace Go.Proofs.YtodmafgmdlkhoaaGreat.Vs
set_option linter.all false
set_option linter.unusedSimpArgs false
set_option linter.unusedVariables false
set_option maxRecDepth 100000
set_option maxHeartbeats 2000000
theorem len_szS2{α:Type}{f:α→Int}(hf:∀x,0≤f x)(l:List α):(l.length:Int)≤szS f l:=by
 have:=zdh hf l
 unfold szS;omega
theorem instSm_of3{l:List DtInst}(hs:szS DtInst.sz l≤1048576):∀x∈l,InstSm x:=by
 intro x hx
 have h1:=zm6 DtInst.sz_nonneg l x hx
 have h2:=zdh DtInst.sz_nonneg l
 have hx2:DtInst.sz x≤1048576:=by unfold szS at hs;omega
 obtain ⟨h3,h4⟩:=instSz x hx2
 have h5:=len_szS2 zgv x.fCmd.fChunks
 exact ⟨by simp only [DtCmd.sz] at h3;omega,h4,h3⟩
theorem zty:∀(ls:List DtInst),(∀x∈ls,InstD x)→szS DtInst.sz ls≤301*ls.length
 | [],_=>by simp [szS,zqw]
 | x :: xs,h=>by
  have ih:=zty xs λt ht=>h t (List.mem_cons_of_mem _ ht)
  have:=zrp (h x List.mem_cons_self)
  unfold szS at ih ⊢
  rw [zju]
  simp only [List.length_cons] at *
  omega
noncomputable def wtR(l:List DtInst):List DtId:=bif decB (InstsP l) then waitL l else []
theorem wtR_len(l:List DtInst):(wtR l).length≤l.length:=by
 unfold wtR
 cases decB (InstsP l)
 ·simp
 ·show (waitL l).length≤_
  unfold waitL
  rw [List.length_map]
  exact List.length_filter_le _ _
theorem zk7{l:List DtInst}{x:DtId}(h:x∈wtR l):x∉ordR l:=by
 intro ho
 obtain ⟨hp,hr⟩:=zh2 ho
 unfold wtR at h
 rw [zcb hp] at h
 obtain ⟨y,hy,rfl⟩:=List.mem_map.1 h
 have:=(List.mem_filter.1 hy).2
 rw [zcb hr] at this
 simp at this
noncomputable def rdB2(l:List DtInst)(id:DtId):Bool:=decB (InstsP l∧RdyP l id)
noncomputable def cnT(l:List DtInst)(i:Nat):Nat:=((l.take i).filter λx=>rdB2 l x.fId).length
theorem cnT_0(l:List DtInst):cnT l 0=0:=by simp [cnT]
theorem cnT_s{l:List DtInst}{i:Nat}(h:i<l.length):cnT l (i+1)=cnT l i+(bif rdB2 l l[i].fId then 1 else 0):=by
 unfold cnT
 rw [List.take_succ_eq_append_getElem h,List.filter_append,List.length_append]
 cases hb:rdB2 l l[i].fId<;>simp [hb]
theorem cnT_e{l:List DtInst}{i:Nat}(h:l.length≤i):cnT l i=(ordR l).length:=by
 unfold cnT
 rw [List.take_of_length_le h]
 by_cases hp:InstsP l
 ·rw [←ordR_cnt hp]
  congr 1
  refine List.filter_congr λx _=>?_
  unfold rdB2
  by_cases hr:RdyP l x.fId
  ·rw [zcb hr,zcb ⟨hp,hr⟩]
  ·rw [zce hr,zce λh=>hr h.2]
 ·have e:ordR l=[]:=by unfold ordR;rw [zgz hp];rfl
  rw [e,List.length_nil,List.length_eq_zero_iff,List.filter_eq_nil_iff]
  intro x _
  unfold rdB2
  rw [zce λh=>hp h.1]
  simp
noncomputable def pnT(l:List DtInst)(i:Nat):Nat:=((partsR l).take i).flatten.length
theorem pnT_0(l:List DtInst):pnT l 0=0:=by simp [pnT]
theorem pnT_s{l:List DtInst}{i:Nat}(h:i<(partsR l).length):pnT l (i+1)=pnT l i+(partsR l)[i].length:=by
 unfold pnT
 rw [zxc _ _ h,List.length_append]
theorem pnT_e{l:List DtInst}{i:Nat}(h:(partsR l).length≤i):pnT l i=(ordR l).length:=by
 unfold pnT
 rw [zxd _ _ h];rfl
theorem pnT_le(l:List DtInst)(i:Nat):pnT l i≤324:=znt l i
theorem cnT_le(l:List DtInst)(i:Nat):cnT l i≤i:=by
 unfold cnT
 exact Nat.le_trans (List.length_filter_le _ _) (List.length_take_le _ _)
theorem cmA_len(l:List DtInst):(cmA l).length≤(ordR l).length:=by
 unfold cmA
 exact Nat.le_trans (List.length_filter_le _ _) (by simp)
theorem zgq{l:List DtInst}{d:DtId}{i:Nat}(hi:i<(ordR l).length)(hd:d∈(instAt l (ordR l)[i]).fDeps)(hn:d∉(ordR l).take i):(ordR l)[i]∈reachL l d:=(ord_dep hi hd).resolve_left hn
def zG42:=And.intro @zb4 (And.intro @gE (And.intro @tP @zbs))
def zG43:=And.intro @zbp (And.intro @zb0 @zbt)
def zG44:=And.intro @zbb @zbf
theorem zlh(l:List DtId)(x:DtId)(hn:l.length≤1048576):PCall Tryz.prog 11 [.sl 2 (l.map DtId.cells),.agg (DtId.cells x)] (.g (.bool (decB (x∈l)))):=by
 refine zbo Tryz.func11 (by rfl) (by rfl) (by rw [Tryz.ntmps11];exact Nat.le_of_ble_eq_true rfl) rfl (by decide) ?_
 rw [Tryz.ntmps11]
 refine AW_k [(0,_),(1,_)] ⟨rfl,rfl,trivial⟩ ?_
 refine AW_r rfl rfl λK hK=>?_
 simp (disch:=omega) [zG42,DtId.cells]
 repeat' first|(refine ⟨by omega,?_⟩)|(intro _)
 refine hK _ ?_;clear hK K
 refine zbj ?_
 refine AW_r rfl rfl λK hK=>?_
 simp (disch:=omega) [zG42,DtId.cells]
 repeat' first|(refine ⟨by omega,?_⟩)|(intro _)
 refine hK _ ?_;clear hK K
 refine zbl ?_
 refine zby (λmM sS=>∃(i:Nat),mM=l.length-i∧(i≤l.length∧∀(j:Nat) y,j<i→l[j]? = some y→¬y=x)∧sS = { env:=lkE [(0,.sl 2 (l.map DtId.cells)),(3,.ptr 64 0),(5,(.g (.int .i64 ((i:Nat)))))],ob:=lk [(64,.cells (DtId.cells x))] }) ?_ ?_
 ·refine ⟨_,LeS.ko [(0,.sl 2 (l.map DtId.cells)),(3,.ptr 64 0),(5,(.g (.int .i64 (((0):Nat)))))] [(64,.cells (DtId.cells x))] (by simp [KpE,zbt,zbk,zbp,DtId.cells];try rfl) (by simp [zG43,KpO,zca,DtId.cells];try rfl) (by rfl) (by simp) (by rfl),_,0,rfl,?_,rfl⟩
  ·simp
 ·rintro mM sS ⟨i,rfl,⟨hi,hpre⟩,rfl⟩
  refine zbj ?_
  refine AW_r rfl rfl λK hK=>?_
  simp (disch:=omega) [zG42,DtId.cells]
  repeat' first|(refine ⟨by omega,?_⟩)|(intro _)
  refine hK _ ?_;clear hK K
  refine zbm rfl (λhc1=>?_) (λhc1=>?_)
  ·try simp [zG44,zbe,zbd] at hc1
   all_goals
    have hg:l[i]? = some l[i]:=List.getElem?_eq_getElem (by omega)
    refine zbn ?_
    refine zbq ?_
    refine zbj ?_
    refine zbl ?_
    refine AW_q rfl mix (by kernel_rfl) rfl λK hK=>?_
    simp (disch:=omega) [zG42,DtId.cells]
    repeat' first|(exfalso;omega)|(refine ⟨λ_=>?_,λ_=>?_⟩)|(refine ⟨by omega,?_⟩)|(intro _)
    all_goals (refine hK _ ?_;clear hK K)
    all_goals
     refine zbm rfl (λhc2=>?_) (λhc2=>?_)
     ·try simp [zG44,zbe,zbd] at hc2
      all_goals
       refine AW_r rfl rfl λK hK=>?_
       simp (disch:=omega) [zG42,DtId.cells]
       repeat' first|(exfalso;omega)|(refine ⟨λ_=>?_,λ_=>?_⟩)|(refine ⟨by omega,?_⟩)|(intro _)
       all_goals (refine hK _ ?_;clear hK K)
       all_goals
        refine zbr (zb6 ?_)
        simp (disch:=omega) [zG42,DtId.cells]
        all_goals first|(refine (zcb ?_).symm;grind [zd4])|(refine zcb ?_;grind [zd4])|(refine zce λhx=>?_;obtain ⟨j,hj,rfl⟩:=List.getElem_of_mem hx;exact hpre j _ (by omega) (List.getElem?_eq_getElem hj) rfl)|(refine (zce λhx=>?_).symm;obtain ⟨j,hj,rfl⟩:=List.getElem_of_mem hx;exact hpre j _ (by omega) (List.getElem?_eq_getElem hj) rfl) | trace_state
     ·try simp [zG44,zbe,zbd] at hc2
      all_goals
       refine zbn ?_
       refine zbq ?_
       refine zc8 rfl rfl λK hK=>?_
       simp (disch:=omega) [zG42,DtId.cells]
       repeat' first|(exfalso;omega)|(refine ⟨λ_=>?_,λ_=>?_⟩)|(refine ⟨by omega,?_⟩)|(intro _)
       all_goals (refine hK _ ?_;clear hK K)
       all_goals
        refine ⟨_,LeS.ko [(0,.sl 2 (l.map DtId.cells)),(3,.ptr 64 0),(5,(.g (.int .i64 (((i+1):Nat)))))] [(64,.cells (DtId.cells x))] (by simp [KpE,zbt,zbk,zbp,DtId.cells];try rfl) (by simp [zG43,KpO,zca,DtId.cells];try rfl) (by rfl) (by simp) (by rfl),_,?_,i+1,rfl,?_,rfl⟩
        ·omega
        ·refine ⟨by omega,?_⟩;grind [zd4]
  ·try simp [zG44,zbe,zbd] at hc1
   all_goals
    refine zb3 ?_
    refine zbq ?_
    refine AW_r rfl rfl λK hK=>?_
    simp (disch:=omega) [zG42,DtId.cells]
    repeat' first|(exfalso;omega)|(refine ⟨λ_=>?_,λ_=>?_⟩)|(refine ⟨by omega,?_⟩)|(intro _)
    all_goals (refine hK _ ?_;clear hK K)
    all_goals
     refine zbr (zb6 ?_)
     simp (disch:=omega) [zG42,DtId.cells]
     all_goals first|(refine (zcb ?_).symm;grind [zd4])|(refine zcb ?_;grind [zd4])|(refine zce λhx=>?_;obtain ⟨j,hj,rfl⟩:=List.getElem_of_mem hx;exact hpre j _ (by omega) (List.getElem?_eq_getElem hj) rfl)|(refine (zce λhx=>?_).symm;obtain ⟨j,hj,rfl⟩:=List.getElem_of_mem hx;exact hpre j _ (by omega) (List.getElem?_eq_getElem hj) rfl) | trace_state
theorem zme(l:List DtId)(hn:l.length≤1048576):PCall Tryz.prog 8 [.sl 2 (l.map DtId.cells),.sl 2 (l.map DtId.cells)] (.g (.bool (true))):=by
 refine zbo Tryz.func8 (by rfl) (by rfl) (by rw [Tryz.ntmps8];exact Nat.le_of_ble_eq_true rfl) rfl (by decide) ?_
 rw [Tryz.ntmps8]
 refine AW_k [(0,_),(1,_)] ⟨rfl,rfl,trivial⟩ ?_
 refine AW_r rfl rfl λK hK=>?_
 simp (disch:=omega) [zG42,DtId.cells]
 repeat' first|(refine ⟨by omega,?_⟩)|(intro _)
 refine hK _ ?_;clear hK K
 refine zbj ?_
 refine AW_r rfl rfl λK hK=>?_
 simp (disch:=omega) [zG42,DtId.cells]
 repeat' first|(refine ⟨by omega,?_⟩)|(intro _)
 refine hK _ ?_;clear hK K
 refine zbm rfl (λhc3=>?_) (λhc3=>?_)
 ·try simp [zG44,zbe,zbd] at hc3
  all_goals
   refine AW_r rfl rfl λK hK=>?_
   simp (disch:=omega) [zG42,DtId.cells]
   repeat' first|(exfalso;omega)|(refine ⟨λ_=>?_,λ_=>?_⟩)|(refine ⟨by omega,?_⟩)|(intro _)
   all_goals (refine hK _ ?_;clear hK K)
   all_goals
    refine zbr (zb6 ?_)
    simp (disch:=omega) [zG42,DtId.cells]
    all_goals skip
 ·try simp [zG44,zbe,zbd] at hc3
  all_goals
   refine zbn ?_
   refine zbq ?_
   refine zbj ?_
   refine AW_r rfl rfl λK hK=>?_
   simp (disch:=omega) [zG42,DtId.cells]
   repeat' first|(exfalso;omega)|(refine ⟨λ_=>?_,λ_=>?_⟩)|(refine ⟨by omega,?_⟩)|(intro _)
   all_goals (refine hK _ ?_;clear hK K)
   all_goals
    refine zbl ?_
    refine zby (λmM sS=>∃(i:Nat),mM=l.length-i∧(i≤l.length)∧sS = { env:=lkE [(0,.sl 2 (l.map DtId.cells)),(1,.sl 2 (l.map DtId.cells)),(5,(.g (.int .i64 ((i:Nat)))))],ob:=lk [] }) ?_ ?_
    ·refine ⟨_,LeS.ko [(0,.sl 2 (l.map DtId.cells)),(1,.sl 2 (l.map DtId.cells)),(5,(.g (.int .i64 (((0):Nat)))))] [] (by simp [KpE,zbt,zbk,zbp,DtId.cells];try rfl) (by simp [zG43,KpO,zca,DtId.cells];try rfl) (by rfl) (by simp) (by rfl),_,0,rfl,?_,rfl⟩
     ·simp
    ·rintro mM sS ⟨i,rfl,hi,rfl⟩
     refine zbj ?_
     refine AW_r rfl rfl λK hK=>?_
     simp (disch:=omega) [zG42,DtId.cells]
     repeat' first|(refine ⟨by omega,?_⟩)|(intro _)
     refine hK _ ?_;clear hK K
     refine zbm rfl (λhc4=>?_) (λhc4=>?_)
     ·try simp [zG44,zbe,zbd] at hc4
      all_goals
       refine zbn ?_
       refine zbq ?_
       refine zbj ?_
       refine zbl ?_
       refine AW_q rfl mix (by kernel_rfl) rfl λK hK=>?_
       simp (disch:=omega) [zG42,DtId.cells]
       repeat' first|(exfalso;omega)|(refine ⟨λ_=>?_,λ_=>?_⟩)|(refine ⟨by omega,?_⟩)|(intro _)
       all_goals (refine hK _ ?_;clear hK K)
       all_goals
        refine zbm rfl (λhc5=>?_) (λhc5=>?_)
        ·try simp [zG44,zbe,zbd] at hc5
         all_goals
          refine AW_r rfl rfl λK hK=>?_
          simp (disch:=omega) [zG42,DtId.cells]
          repeat' first|(exfalso;omega)|(refine ⟨λ_=>?_,λ_=>?_⟩)|(refine ⟨by omega,?_⟩)|(intro _)
          all_goals (refine hK _ ?_;clear hK K)
          all_goals
           refine zbr (zb6 ?_)
           simp (disch:=omega) [zG42,DtId.cells]
           all_goals skip
        ·try simp [zG44,zbe,zbd] at hc5
         all_goals
          refine zbn ?_
          refine zbq ?_
          refine zc8 rfl rfl λK hK=>?_
          simp (disch:=omega) [zG42,DtId.cells]
          repeat' first|(exfalso;omega)|(refine ⟨λ_=>?_,λ_=>?_⟩)|(refine ⟨by omega,?_⟩)|(intro _)
          all_goals (refine hK _ ?_;clear hK K)
          all_goals
           refine ⟨_,LeS.ko [(0,.sl 2 (l.map DtId.cells)),(1,.sl 2 (l.map DtId.cells)),(5,(.g (.int .i64 (((i+1):Nat)))))] [] (by simp [KpE,zbt,zbk,zbp,DtId.cells];try rfl) (by simp [zG43,KpO,zca,DtId.cells];try rfl) (by rfl) (by simp) (by rfl),_,?_,i+1,rfl,?_,rfl⟩
           ·omega
           ·omega
     ·try simp [zG44,zbe,zbd] at hc4
      all_goals
       refine zb3 ?_
       refine zbq ?_
       refine AW_r rfl rfl λK hK=>?_
       simp (disch:=omega) [zG42,DtId.cells]
       repeat' first|(exfalso;omega)|(refine ⟨λ_=>?_,λ_=>?_⟩)|(refine ⟨by omega,?_⟩)|(intro _)
       all_goals (refine hK _ ?_;clear hK K)
       all_goals
        refine zbr (zb6 ?_)
        simp (disch:=omega) [zG42,DtId.cells]
        all_goals skip
theorem zzu(l:List Int)(hn:l.length<9223372036854775808):PCall Tryz.prog 5 [.sl 1 (l.map cU)] (.g (.bool (decide (1048576<l.length)))):=by
 refine zbo Tryz.func5 (by rfl) (by rfl) (by rw [Tryz.ntmps5];exact Nat.le_of_ble_eq_true rfl) rfl (by decide) ?_
 rw [Tryz.ntmps5]
 refine AW_k [(0,_)] ⟨rfl,trivial⟩ ?_
 refine AW_r rfl rfl λK hK=>?_
 simp (disch:=omega) [zG42,DtId.cells]
 repeat' first|(refine ⟨by omega,?_⟩)|(intro _)
 refine hK _ ?_;clear hK K
 refine AW_r rfl rfl λK hK=>?_
 simp (disch:=omega) [zG42,DtId.cells]
 repeat' first|(refine ⟨by omega,?_⟩)|(intro _)
 refine hK _ ?_;clear hK K
 refine zbr (zb6 ?_)
 simp (disch:=omega) [zG42,DtId.cells]
 all_goals (first | done|(congr 1;omega)|(simp;omega) | trace_state)
def zG45:=And.intro @zb4 (And.intro @gE (And.intro @tP (And.intro @zbs (And.intro @zbb @zbf))))
theorem zp7(l:List DtInst)(id:DtId)(hs:szS DtInst.sz l≤1048576)(hn:l.length≤1048576):PCall Tryz.prog 14 [.sl 16 (l.map DtInst.cells),.agg (DtId.cells id)] (.g (.bool (rdB2 l id))):=by
 refine zbo Tryz.func14 (by rfl) (by rfl) (by rw [Tryz.ntmps14];exact Nat.le_of_ble_eq_true rfl) rfl (by decide) ?_
 rw [Tryz.ntmps14]
 refine AW_k [(0,_),(1,_)] ⟨rfl,rfl,trivial⟩ ?_
 refine AW_r rfl rfl λK hK=>?_
 simp (disch:=omega) [zG45,DtId.cells]
 repeat' first|(refine ⟨by omega,?_⟩)|(intro _)
 refine hK _ ?_;clear hK K
 refine AW_r rfl rfl λK hK=>?_
 simp (disch:=omega) [zG45,DtId.cells]
 repeat' first|(exfalso;omega)|(refine zcg (zbc zbw zbi) (zdv _ (by assumption)) rfl ?_;simp (disch:=omega) [zG45,DtId.cells])|(refine zcg (zbc zbw (zbc (zbu rfl) zbi)) (zj4 _ _ (by assumption) (by assumption)) rfl ?_;simp (disch:=omega) [zG45,DtId.cells])|(refine ⟨λ_=>?_,λ_=>?_⟩)|(refine ⟨by omega,?_⟩)|(intro _)
 all_goals (refine hK _ ?_;clear hK K)
 all_goals
  refine zbr (zb6 ?_)
  simp (disch:=omega) [zG45,DtId.cells]
  all_goals first|(unfold rdB2;first|(rw [zce λh=>by first | exact absurd h.1 (by assumption)];done)|(by_cases hr:RdyP l id;rw [zcb hr,zcb ⟨by assumption,hr⟩];rw [zce hr,zce λh=>hr h.2])) | trace_state
theorem ztz(l:List DtInst)(hs:szS DtInst.sz l≤1048576)(hn:l.length≤1048576)(hm:∀x∈l,InstSm x):PCall Tryz.prog 16 [.sl 16 (l.map DtInst.cells)] (.sl 2 ((wtR l).map DtId.cells)):=zjz (zxi l hs hn hm) (by simp [wtR])
theorem zt0(l:List DtInst)(hs:szS DtInst.sz l≤1048576):PCall Tryz.prog 18 [.sl 16 (l.map DtInst.cells)] (.sl 2 ((wtR l).map DtId.cells)):=zw8 l hs
theorem zt1(l:List DtInst)(hs:szS DtInst.sz l≤1048576)(hn:l.length≤1048576)(hm:∀x∈l,InstSm x):PCall Tryz.prog 17 [.sl 16 (l.map DtInst.cells)] (.sl 8 ((cmA l).map DtCmd.cells)):=zjz (implExecX l hs hn hm) (by simp)
theorem readyT(l:List DtInst)(id:DtId)(hs:szS DtInst.sz l≤1048576)(hn:l.length≤1048576)(hm:∀x∈l,InstSm x)(hx:id∈ordR l):PCall Tryz.prog 10 [.sl 16 (l.map DtInst.cells),.agg (DtId.cells id)] (.g (.bool (true))):=by
 obtain ⟨hp,hr⟩:=zh2 hx
 have:=zk6 l id hs hn hm hp
 rwa [zcb hr] at this
def OrderD(r:AV)(wos' fos:List OB):Prop:=∃(ls:List DtInst),ls.length≤10∧(∀x∈ls,InstD x)∧r=.sl 16 (ls.map DtInst.cells)∧wos'=[]∧fos=[]
theorem zkg(l:List Int)(hl:Code l):XCallE Tryz.prog 6 [.sl 1 (l.map cU)] [] 0 OrderD:=by
 refine zdn Tryz.func6 (by rfl) (by rfl) (by rw [Tryz.ntmps6];exact Nat.le_of_ble_eq_true rfl) (by simp) rfl ?_
 rw [Tryz.ntmps6]
 refine zfl   ?_
 refine AW_k [(0,_)] ⟨rfl,trivial⟩ ?_
 refine AW_x rfl rfl λK hK=>?_
 simp (disch:=omega) [zG45,DtId.cells]
 repeat' first|(refine ⟨by omega,?_⟩)|(intro _)
 refine hK _ ?_;clear hK K
 refine AW_x rfl rfl λK hK=>?_
 simp (disch:=omega) [zG45,DtId.cells]
 repeat' first|(exfalso;omega)|(refine zjy [] false [] (l1New l hl) ?_ ?_ ?_;(focus (simp [List.range_succ,nmC];done));(focus (simp (disch:=omega) [zG45,DtId.cells,zbh];done));simp (disch:=omega) [zG45,DtId.cells])|(refine ⟨by omega,?_⟩)|(intro _)
 refine hK _ ?_;clear hK K
 refine AW_x rfl rfl λK hK=>?_
 simp (disch:=omega) [zG45,DtId.cells]
 repeat' first|(exfalso;omega)|(refine zv5 [96] false [] (l12Insts l hl (cur0 l)) ?_ ?_ ?_;(focus (simp [List.range_succ,nmC];done));(focus (simp (disch:=omega) [zG45,DtId.cells,zbh];done));rintro _ _ _ ⟨ls,c',hls,hds,rfl,rfl,rfl⟩;refine ⟨⟨by first | rfl|(simp;done),by first | rfl|(simp;done)⟩,?_⟩;simp (disch:=omega) [zG45,DtId.cells])|(refine ⟨by omega,?_⟩)|(intro _)
 refine hK _ ?_;clear hK K
 refine zqx (.sl 16 (ls.map DtInst.cells)) [] [] ?po (by simp) (by simp) (by simp [OB.xk]) (zc2 [] [] (by simp [zG43,List.range_succ]) (by simp) ?en)
 case en =>
  simp (disch:=omega) [zG45,DtId.cells]
  all_goals (repeat' (first | constructor | rfl))
 case po=>exact ⟨ls,hls,hds,rfl,rfl,rfl⟩
end Go.Proofs.YtodmafgmdlkhoaaGreat.Vs
end
section
open Go Go.Proofs Go.Proofs.YtodmafgmdlkhoaaGreat.Vs
namespace Go.Proofs.YtodmafgmdlkhoaaGreat.Vs
set_option linter.all false
set_option linter.unusedSimpArgs false
set_option linter.unusedVariables false
set_option maxRecDepth 100000
set_option maxHeartbeats 4000000
theorem zp8(l:List DtId)(x:DtId)(hn:l.length≤1048576)(hx:x∈l):PCall Tryz.prog 11 [.sl 2 (l.map DtId.cells),.agg (DtId.cells x)] (.g (.bool (true))):=by
 have:=zlh l x hn
 rwa [zcb hx] at this
theorem zg1(l:List DtId)(x:DtId)(hn:l.length≤1048576)(hx:x∉l):PCall Tryz.prog 11 [.sl 2 (l.map DtId.cells),.agg (DtId.cells x)] (.g (.bool (false))):=by
 have:=zlh l x hn
 rwa [zce hx] at this
theorem zdo(l:List DtInst):(ordR l).length≤1048576:=by have:=zma l;omega
theorem zda(l:List DtInst)(i:Nat):((ordR l).take i).length≤1048576:=by have:=zma l;rw [List.length_take];omega
theorem zfw(l:List DtInst)(x:DtId)(h:InstsP l):(reachL l x).length≤1048576:=by have:=zfv h x;omega
theorem ordR_hp{l:List DtInst}{i:Nat}(hi:i<(ordR l).length):InstsP l:=(zh2 (List.getElem_mem hi)).1
theorem deps_len{l:List DtInst}(hm:∀x∈l,InstSm x){i:Nat}(hi:i<(ordR l).length):(instAt l (ordR l)[i]).fDeps.length≤1048576:=(hm _ (ordR_inst (List.getElem_mem hi)).1).2.1
def zG46:=And.intro @zb4 (And.intro @gE (And.intro @tP (And.intro @zbs (And.intro @zbh (And.intro @zbb (And.intro @zbf (And.intro @and_assoc @zbv)))))))
def zG47:=And.intro @zb4 (And.intro @gE @tP)
theorem lawGraphX(l:List Int)(hw:l.length<9223372036854775808):XCall Tryz.prog 3 [.sl 1 (l.map cU)] [] (.g (.bool (true))) [] []:=by
 by_cases hl:l.length≤1048576
 ·have e:¬1048576<l.length:=by omega
  refine zb5 Tryz.func3 (by rfl) (by rfl) (by rw [Tryz.ntmps3];exact Nat.le_of_ble_eq_true rfl) rfl (by simp) rfl rfl ?_
  rw [Tryz.ntmps3]
  refine zfl   ?_
  refine AW_k [(0,_)] ⟨rfl,trivial⟩ ?_
  refine AW_x rfl rfl λK hK=>?_
  simp (disch:=omega) [zG46,DtInst.cells,DtCmd.cells,DtId.cells,List.map_take,cP,e]
  repeat' first|(refine ⟨by omega,?_⟩)|(intro _)
  refine hK _ ?_;clear hK K
  refine zbj ?_
  refine AW_x rfl rfl λK hK=>?_
  simp (disch:=omega) [zG46,DtInst.cells,DtCmd.cells,DtId.cells,List.map_take,cP,e]
  repeat' first|(exfalso;omega)|(refine zcx (zbc zbw zbi) (zzu l hw) rfl ?_;simp (disch:=omega) [zG46,DtInst.cells,DtCmd.cells,DtId.cells,List.map_take,cP,e])|(refine zcy (zzu l hw) (by rfl) ?_ ?_;(focus (simp (disch:=omega) [zG46,DtInst.cells,DtCmd.cells,DtId.cells,List.map_take,cP,e];done));simp (disch:=omega) [zG46,DtInst.cells,DtCmd.cells,DtId.cells,List.map_take,cP,e])|(refine ⟨by omega,?_⟩)|(simp (disch:=omega) [zG46,DtInst.cells,DtCmd.cells,DtId.cells,List.map_take,cP,e])|(intro _)
  refine hK _ ?_;clear hK K
  refine zbm rfl (λhc1=>?_) (λhc1=>?_)
  ·try simp [zG44,zbe,zbd] at hc1
   all_goals
    refine AW_x rfl rfl λK hK=>?_
    simp (disch:=omega) [zG46,DtInst.cells,DtCmd.cells,DtId.cells,List.map_take,cP,e]
    repeat' first|(exfalso;omega)|(refine ⟨λ_=>?_,λ_=>?_⟩)|(refine ⟨by omega,?_⟩)|(simp (disch:=omega) [zG46,DtInst.cells,DtCmd.cells,DtId.cells,List.map_take,cP,e])|(intro _)
    all_goals (refine hK _ ?_;clear hK K)
    all_goals
     refine zbr (zc2 [] [] (by simp [zG43,List.range_succ]) (by simp) ?_)
     simp (disch:=omega) [zG46,DtInst.cells,DtCmd.cells,DtId.cells,List.map_take,cP,e]
     all_goals first | rfl | omega|(simp_all;done) | trace_state
  ·try simp [zG44,zbe,zbd] at hc1
   all_goals
    refine zbn ?_
    refine zbq ?_
    refine AW_x rfl rfl λK hK=>?_
    simp (disch:=omega) [zG46,DtInst.cells,DtCmd.cells,DtId.cells,List.map_take,cP,e]
    repeat' first|(exfalso;omega)|(refine zv5 [] false [] (zkg l hl) ?_ ?_ ?_;(focus (simp [List.range_succ,nmC];done));(focus (simp (disch:=omega) [zG46,DtInst.cells,DtCmd.cells,DtId.cells,List.map_take,cP,e];done));rintro _ _ _ ⟨ls,hls,hds,rfl,rfl,rfl⟩;refine ⟨⟨by first | rfl|(simp;done),by first | rfl|(simp;done)⟩,?_⟩;simp (disch:=omega) [zG46,DtInst.cells,DtCmd.cells,DtId.cells,List.map_take,cP,e])|(refine ⟨λ_=>?_,λ_=>?_⟩)|(refine ⟨by omega,?_⟩)|(simp (disch:=omega) [zG46,DtInst.cells,DtCmd.cells,DtId.cells,List.map_take,cP,e])|(intro _)
    all_goals (refine hK _ ?_;clear hK K)
    all_goals
     have hsl:szS DtInst.sz ls≤1048576:=by have:=zty ls hds;omega
     have hnl:ls.length≤1048576:=by omega
     have hml:=instSm_of3 hsl
     have hol:=zma ls
     have hcl:=cmA_len ls
     have hwl:=wtR_len ls
     have hpl:=(zfc ls).1
     refine AW_x rfl rfl λK hK=>?_
     simp (disch:=omega) [zG46,DtInst.cells,DtCmd.cells,DtId.cells,List.map_take,cP,e]
     repeat' first|(exfalso;omega)|(refine zcx (zbc zbw zbi) (zh1 ls hsl hnl hml) rfl ?_;simp (disch:=omega) [zG46,DtInst.cells,DtCmd.cells,DtId.cells,List.map_take,cP,e])|(refine zcy (zh1 ls hsl hnl hml) (by rfl) ?_ ?_;(focus (simp (disch:=omega) [zG46,DtInst.cells,DtCmd.cells,DtId.cells,List.map_take,cP,e];done));simp (disch:=omega) [zG46,DtInst.cells,DtCmd.cells,DtId.cells,List.map_take,cP,e])|(refine ⟨by omega,?_⟩)|(simp (disch:=omega) [zG46,DtInst.cells,DtCmd.cells,DtId.cells,List.map_take,cP,e])|(intro _)
     refine hK _ ?_;clear hK K
     refine zbj ?_
     refine AW_x rfl rfl λK hK=>?_
     simp (disch:=omega) [zG46,DtInst.cells,DtCmd.cells,DtId.cells,List.map_take,cP,e]
     repeat' first|(exfalso;omega)|(refine zcx (zbc zbw zbi) (zmb ls hsl hnl) rfl ?_;simp (disch:=omega) [zG46,DtInst.cells,DtCmd.cells,DtId.cells,List.map_take,cP,e])|(refine zcy (zmb ls hsl hnl) (by rfl) ?_ ?_;(focus (simp (disch:=omega) [zG46,DtInst.cells,DtCmd.cells,DtId.cells,List.map_take,cP,e];done));simp (disch:=omega) [zG46,DtInst.cells,DtCmd.cells,DtId.cells,List.map_take,cP,e])|(refine zcx (zbc zbw (zbc zbw zbi)) (zme (ordR ls) (zdo ls)) rfl ?_;simp (disch:=omega) [zG46,DtInst.cells,DtCmd.cells,DtId.cells,List.map_take,cP,e])|(refine zcy (zme (ordR ls) (zdo ls)) (by rfl) ?_ ?_;(focus (simp (disch:=omega) [zG46,DtInst.cells,DtCmd.cells,DtId.cells,List.map_take,cP,e];done));simp (disch:=omega) [zG46,DtInst.cells,DtCmd.cells,DtId.cells,List.map_take,cP,e])|(refine ⟨by omega,?_⟩)|(simp (disch:=omega) [zG46,DtInst.cells,DtCmd.cells,DtId.cells,List.map_take,cP,e])|(intro _)
     refine hK _ ?_;clear hK K
     refine zbm rfl (λhc2=>?_) (λhc2=>?_)
     ·try simp [zG44,zbe,zbd] at hc2
      all_goals
       refine AW_x rfl rfl λK hK=>?_
       simp (disch:=omega) [zG46,DtInst.cells,DtCmd.cells,DtId.cells,List.map_take,cP,e]
       repeat' first|(exfalso;omega)|(refine ⟨λ_=>?_,λ_=>?_⟩)|(refine ⟨by omega,?_⟩)|(simp (disch:=omega) [zG46,DtInst.cells,DtCmd.cells,DtId.cells,List.map_take,cP,e])|(intro _)
       all_goals (refine hK _ ?_;clear hK K)
       all_goals
        refine zbr (zc2 [] [] (by simp [zG43,List.range_succ]) (by simp) ?_)
        simp (disch:=omega) [zG46,DtInst.cells,DtCmd.cells,DtId.cells,List.map_take,cP,e]
        all_goals first | rfl | omega|(simp_all;done) | trace_state
     ·try simp [zG44,zbe,zbd] at hc2
      all_goals
       refine zbn ?_
       refine zbq ?_
       refine zbj ?_
       refine AW_x rfl rfl λK hK=>?_
       simp (disch:=omega) [zG46,DtInst.cells,DtCmd.cells,DtId.cells,List.map_take,cP,e]
       repeat' first|(exfalso;omega)|(refine ⟨λ_=>?_,λ_=>?_⟩)|(refine ⟨by omega,?_⟩)|(simp (disch:=omega) [zG46,DtInst.cells,DtCmd.cells,DtId.cells,List.map_take,cP,e])|(intro _)
       all_goals (refine hK _ ?_;clear hK K)
       all_goals
        refine zbl ?_
        refine zby (λmM sS=>∃(i:Nat),mM=(ordR ls).length-i∧(i≤(ordR ls).length)∧sS = { env:=lkE [(3,.sl 16 (ls.map DtInst.cells)),(4,.sl 2 ((ordR ls).map DtId.cells)),(5,(.g (.int .i64 ((i:Nat)))))],ob:=lk [] }) ?_ ?_
        ·refine ⟨_,LeS.kx [] [(3,.sl 16 (ls.map DtInst.cells)),(4,.sl 2 ((ordR ls).map DtId.cells)),(5,(.g (.int .i64 (((0):Nat)))))] [] (by simp [zG43,KpR,renV2,renV,zbk,DtId.cells];try rfl) (by simp [zG43,KpOX,renO,plO,cvO,renV,pl1,DtId.cells];try rfl) (by rfl) (by simp) (by simp) (by rfl) (by simp [formsX,List.range_succ,zbp,zb0]),_,0,rfl,?_,rfl⟩
         ·simp
        ·rintro mM sS ⟨i,rfl,hi,rfl⟩
         refine zbj ?_
         refine AW_x rfl rfl λK hK=>?_
         simp (disch:=omega) [zG46,DtInst.cells,DtCmd.cells,DtId.cells,List.map_take,cP,e]
         repeat' first|(refine ⟨by omega,?_⟩)|(simp (disch:=omega) [zG46,DtInst.cells,DtCmd.cells,DtId.cells,List.map_take,cP,e])|(intro _)
         refine hK _ ?_;clear hK K
         refine zbm rfl (λhc3=>?_) (λhc3=>?_)
         ·try simp [zG44,zbe,zbd] at hc3
          all_goals
           have hii:i<(ordR ls).length:=by omega
           have hpp:=ordR_hp hii
           have hdl:=deps_len hml hii
           refine zbn ?_
           refine zbq ?_
           refine zbj ?_
           refine zbl ?_
           refine zbj ?_
           refine AW_d rfl mix (by kernel_rfl) (by kernel_rfl) λK hK=>?_
           simp (disch:=omega) [zG46,DtInst.cells,DtCmd.cells,DtId.cells,List.map_take,cP,e]
           repeat' first|(exfalso;omega)|(refine zd9 (λst'=>(zbc zbw (zbc (zbu rfl) zbi))) (readyT ls ((ordR ls)[i]) hsl hnl hml (List.getElem_mem _)) rfl ?_;simp (disch:=omega) [zG46,DtInst.cells,DtCmd.cells,DtId.cells,List.map_take,cP,e])|(refine zfa (readyT ls ((ordR ls)[i]) hsl hnl hml (List.getElem_mem _)) (by rfl) (λst' hst=>?_) ?_;(focus (simp (disch:=omega) [zG46,DtInst.cells,DtCmd.cells,DtId.cells,List.map_take,cP,e] at hst;simp (disch:=omega) [zG46,DtInst.cells,DtCmd.cells,DtId.cells,List.map_take,cP,e,hst];done));simp (disch:=omega) [zG46,DtInst.cells,DtCmd.cells,DtId.cells,List.map_take,cP,e])|(refine zd9 (λst'=>(zbc zbw (zbc (zbu rfl) zbi))) (zg1 ((ordR ls).take i) ((ordR ls)[i]) (zda ls i) (zp6 hii)) rfl ?_;simp (disch:=omega) [zG46,DtInst.cells,DtCmd.cells,DtId.cells,List.map_take,cP,e])|(refine zfa (zg1 ((ordR ls).take i) ((ordR ls)[i]) (zda ls i) (zp6 hii)) (by rfl) (λst' hst=>?_) ?_;(focus (simp (disch:=omega) [zG46,DtInst.cells,DtCmd.cells,DtId.cells,List.map_take,cP,e] at hst;simp (disch:=omega) [zG46,DtInst.cells,DtCmd.cells,DtId.cells,List.map_take,cP,e,hst];done));simp (disch:=omega) [zG46,DtInst.cells,DtCmd.cells,DtId.cells,List.map_take,cP,e])|(refine zd9 (λst'=>(zbc zbw (zbc (zbu rfl) zbi))) (zlh ((ordR ls).take i) ((instAt ls (ordR ls)[i]).fDeps[k]) (zda ls i)) rfl ?_;simp (disch:=omega) [zG46,DtInst.cells,DtCmd.cells,DtId.cells,List.map_take,cP,e])|(refine zfa (zlh ((ordR ls).take i) ((instAt ls (ordR ls)[i]).fDeps[k]) (zda ls i)) (by rfl) (λst' hst=>?_) ?_;(focus (simp (disch:=omega) [zG46,DtInst.cells,DtCmd.cells,DtId.cells,List.map_take,cP,e] at hst;simp (disch:=omega) [zG46,DtInst.cells,DtCmd.cells,DtId.cells,List.map_take,cP,e,hst];done));simp (disch:=omega) [zG46,DtInst.cells,DtCmd.cells,DtId.cells,List.map_take,cP,e])|(refine zd9 (λst'=>(zbc zbw (zbc (zbu rfl) zbi))) (zp8 (reachL ls ((instAt ls (ordR ls)[i]).fDeps[k])) ((ordR ls)[i]) (zfw ls _ hpp) (zgq hii (List.getElem_mem _) (by assumption))) rfl ?_;simp (disch:=omega) [zG46,DtInst.cells,DtCmd.cells,DtId.cells,List.map_take,cP,e])|(refine zfa (zp8 (reachL ls ((instAt ls (ordR ls)[i]).fDeps[k])) ((ordR ls)[i]) (zfw ls _ hpp) (zgq hii (List.getElem_mem _) (by assumption))) (by rfl) (λst' hst=>?_) ?_;(focus (simp (disch:=omega) [zG46,DtInst.cells,DtCmd.cells,DtId.cells,List.map_take,cP,e] at hst;simp (disch:=omega) [zG46,DtInst.cells,DtCmd.cells,DtId.cells,List.map_take,cP,e,hst];done));simp (disch:=omega) [zG46,DtInst.cells,DtCmd.cells,DtId.cells,List.map_take,cP,e])|(refine zd9 (λst'=>(zbc zbw (zbc (zbu rfl) zbi))) (zg1 (ordR ls) ((wtR ls)[i8]) (zdo ls) (zk7 (List.getElem_mem _))) rfl ?_;simp (disch:=omega) [zG46,DtInst.cells,DtCmd.cells,DtId.cells,List.map_take,cP,e])|(refine zfa (zg1 (ordR ls) ((wtR ls)[i8]) (zdo ls) (zk7 (List.getElem_mem _))) (by rfl) (λst' hst=>?_) ?_;(focus (simp (disch:=omega) [zG46,DtInst.cells,DtCmd.cells,DtId.cells,List.map_take,cP,e] at hst;simp (disch:=omega) [zG46,DtInst.cells,DtCmd.cells,DtId.cells,List.map_take,cP,e,hst];done));simp (disch:=omega) [zG46,DtInst.cells,DtCmd.cells,DtId.cells,List.map_take,cP,e])|(refine ⟨λ_=>?_,λ_=>?_⟩)|(refine ⟨by omega,?_⟩)|(simp (disch:=omega) [zG46,DtInst.cells,DtCmd.cells,DtId.cells,List.map_take,cP,e])|(intro _)
           all_goals (refine hK _ _ (by kernel_rfl) ?_;clear hK K)
           all_goals
            refine zbm rfl (λhc4=>?_) (λhc4=>?_)
            ·try simp [zG44,zbe,zbd] at hc4
             all_goals
              refine AW_x rfl rfl λK hK=>?_
              simp (disch:=omega) [zG46,DtInst.cells,DtCmd.cells,DtId.cells,List.map_take,cP,e]
              repeat' first|(exfalso;omega)|(refine ⟨λ_=>?_,λ_=>?_⟩)|(refine ⟨by omega,?_⟩)|(simp (disch:=omega) [zG46,DtInst.cells,DtCmd.cells,DtId.cells,List.map_take,cP,e])|(intro _)
              all_goals (refine hK _ ?_;clear hK K)
              all_goals
               refine zbr (zc2 [] [] (by simp [zG43,List.range_succ]) (by simp) ?_)
               simp (disch:=omega) [zG46,DtInst.cells,DtCmd.cells,DtId.cells,List.map_take,cP,e]
               all_goals first | rfl | omega|(simp_all;done) | trace_state
            ·try simp [zG44,zbe,zbd] at hc4
             all_goals
              refine zbn ?_
              refine zbq ?_
              refine AW_x rfl rfl λK hK=>?_
              simp (disch:=omega) [zG46,DtInst.cells,DtCmd.cells,DtId.cells,List.map_take,cP,e]
              repeat' first|(exfalso;omega)|(refine zcx (zbc zbw (zbc (zbu rfl) zbi)) (zpv ls ((ordR ls)[i]) hnl hml) rfl ?_;simp (disch:=omega) [zG46,DtInst.cells,DtCmd.cells,DtId.cells,List.map_take,cP,e])|(refine zcy (zpv ls ((ordR ls)[i]) hnl hml) (by rfl) ?_ ?_;(focus (simp (disch:=omega) [zG46,DtInst.cells,DtCmd.cells,DtId.cells,List.map_take,cP,e];done));simp (disch:=omega) [zG46,DtInst.cells,DtCmd.cells,DtId.cells,List.map_take,cP,e])|(refine ⟨λ_=>?_,λ_=>?_⟩)|(refine ⟨by omega,?_⟩)|(simp (disch:=omega) [zG46,DtInst.cells,DtCmd.cells,DtId.cells,List.map_take,cP,e])|(intro _)
              all_goals (refine hK _ ?_;clear hK K)
              all_goals
               refine AW_x rfl rfl λK hK=>?_
               simp (disch:=omega) [zG46,DtInst.cells,DtCmd.cells,DtId.cells,List.map_take,cP,e]
               repeat' first|(refine ⟨by omega,?_⟩)|(intro _)
               refine hK _ ?_;clear hK K
               refine zbl ?_
               refine zby (λmM sS=>∃(k:Nat),mM=(instAt ls (ordR ls)[i]).fDeps.length-k∧(k≤(instAt ls (ordR ls)[i]).fDeps.length)∧sS = { env:=lkE [(3,.sl 16 (ls.map DtInst.cells)),(4,.sl 2 ((ordR ls).map DtId.cells)),(5,(.g (.int .i64 ((i:Nat))))),(6,.sl 2 ((instAt ls (ordR ls)[i]).fDeps.map DtId.cells)),(7,(.g (.int .i64 ((k:Nat)))))],ob:=lk [] }) ?_ ?_
               ·refine ⟨_,LeS.kx [] [(3,.sl 16 (ls.map DtInst.cells)),(4,.sl 2 ((ordR ls).map DtId.cells)),(5,(.g (.int .i64 ((i:Nat))))),(6,.sl 2 ((instAt ls (ordR ls)[i]).fDeps.map DtId.cells)),(7,(.g (.int .i64 (((0):Nat)))))] [] (by simp [zG43,KpR,renV2,renV,zbk,DtId.cells];try rfl) (by simp [zG43,KpOX,renO,plO,cvO,renV,pl1,DtId.cells];try rfl) (by rfl) (by simp) (by simp) (by rfl) (by simp [formsX,List.range_succ,zbp,zb0]),_,0,rfl,?_,rfl⟩
                ·simp
               ·rintro mM sS ⟨k,rfl,hk,rfl⟩
                refine zbj ?_
                refine AW_x rfl rfl λK hK=>?_
                simp (disch:=omega) [zG46,DtInst.cells,DtCmd.cells,DtId.cells,List.map_take,cP,e]
                repeat' first|(refine ⟨by omega,?_⟩)|(simp (disch:=omega) [zG46,DtInst.cells,DtCmd.cells,DtId.cells,List.map_take,cP,e])|(intro _)
                refine hK _ ?_;clear hK K
                refine zbm rfl (λhc5=>?_) (λhc5=>?_)
                ·try simp [zG44,zbe,zbd] at hc5
                 all_goals
                  refine zbn ?_
                  refine zbq ?_
                  refine zbj ?_
                  refine zbl ?_
                  refine AW_d rfl mix (by kernel_rfl) (by kernel_rfl) λK hK=>?_
                  simp (disch:=omega) [zG46,DtInst.cells,DtCmd.cells,DtId.cells,List.map_take,cP,e]
                  repeat' first|(exfalso;omega)|(refine zd9 (λst'=>(zbc zbw (zbc (zbu rfl) zbi))) (zg1 ((ordR ls).take i) ((ordR ls)[i]) (zda ls i) (zp6 hii)) rfl ?_;simp (disch:=omega) [zG46,DtInst.cells,DtCmd.cells,DtId.cells,List.map_take,cP,e])|(refine zfa (zg1 ((ordR ls).take i) ((ordR ls)[i]) (zda ls i) (zp6 hii)) (by rfl) (λst' hst=>?_) ?_;(focus (simp (disch:=omega) [zG46,DtInst.cells,DtCmd.cells,DtId.cells,List.map_take,cP,e] at hst;simp (disch:=omega) [zG46,DtInst.cells,DtCmd.cells,DtId.cells,List.map_take,cP,e,hst];done));simp (disch:=omega) [zG46,DtInst.cells,DtCmd.cells,DtId.cells,List.map_take,cP,e])|(refine zd9 (λst'=>(zbc zbw (zbc (zbu rfl) zbi))) (zlh ((ordR ls).take i) ((instAt ls (ordR ls)[i]).fDeps[k]) (zda ls i)) rfl ?_;simp (disch:=omega) [zG46,DtInst.cells,DtCmd.cells,DtId.cells,List.map_take,cP,e])|(refine zfa (zlh ((ordR ls).take i) ((instAt ls (ordR ls)[i]).fDeps[k]) (zda ls i)) (by rfl) (λst' hst=>?_) ?_;(focus (simp (disch:=omega) [zG46,DtInst.cells,DtCmd.cells,DtId.cells,List.map_take,cP,e] at hst;simp (disch:=omega) [zG46,DtInst.cells,DtCmd.cells,DtId.cells,List.map_take,cP,e,hst];done));simp (disch:=omega) [zG46,DtInst.cells,DtCmd.cells,DtId.cells,List.map_take,cP,e])|(refine zd9 (λst'=>(zbc zbw (zbc (zbu rfl) zbi))) (zp8 (reachL ls ((instAt ls (ordR ls)[i]).fDeps[k])) ((ordR ls)[i]) (zfw ls _ hpp) (zgq hii (List.getElem_mem _) (by assumption))) rfl ?_;simp (disch:=omega) [zG46,DtInst.cells,DtCmd.cells,DtId.cells,List.map_take,cP,e])|(refine zfa (zp8 (reachL ls ((instAt ls (ordR ls)[i]).fDeps[k])) ((ordR ls)[i]) (zfw ls _ hpp) (zgq hii (List.getElem_mem _) (by assumption))) (by rfl) (λst' hst=>?_) ?_;(focus (simp (disch:=omega) [zG46,DtInst.cells,DtCmd.cells,DtId.cells,List.map_take,cP,e] at hst;simp (disch:=omega) [zG46,DtInst.cells,DtCmd.cells,DtId.cells,List.map_take,cP,e,hst];done));simp (disch:=omega) [zG46,DtInst.cells,DtCmd.cells,DtId.cells,List.map_take,cP,e])|(refine zd9 (λst'=>(zbc zbw (zbc (zbu rfl) zbi))) (zg1 (ordR ls) ((wtR ls)[i8]) (zdo ls) (zk7 (List.getElem_mem _))) rfl ?_;simp (disch:=omega) [zG46,DtInst.cells,DtCmd.cells,DtId.cells,List.map_take,cP,e])|(refine zfa (zg1 (ordR ls) ((wtR ls)[i8]) (zdo ls) (zk7 (List.getElem_mem _))) (by rfl) (λst' hst=>?_) ?_;(focus (simp (disch:=omega) [zG46,DtInst.cells,DtCmd.cells,DtId.cells,List.map_take,cP,e] at hst;simp (disch:=omega) [zG46,DtInst.cells,DtCmd.cells,DtId.cells,List.map_take,cP,e,hst];done));simp (disch:=omega) [zG46,DtInst.cells,DtCmd.cells,DtId.cells,List.map_take,cP,e])|(refine zd9 (λst'=>(zbc zbw (zbc (zbu rfl) zbi))) (zh7 ls ((instAt ls (ordR ls)[i]).fDeps[k]) hsl hnl hml hpp) rfl ?_;simp (disch:=omega) [zG46,DtInst.cells,DtCmd.cells,DtId.cells,List.map_take,cP,e])|(refine zfa (zh7 ls ((instAt ls (ordR ls)[i]).fDeps[k]) hsl hnl hml hpp) (by rfl) (λst' hst=>?_) ?_;(focus (simp (disch:=omega) [zG46,DtInst.cells,DtCmd.cells,DtId.cells,List.map_take,cP,e] at hst;simp (disch:=omega) [zG46,DtInst.cells,DtCmd.cells,DtId.cells,List.map_take,cP,e,hst];done));simp (disch:=omega) [zG46,DtInst.cells,DtCmd.cells,DtId.cells,List.map_take,cP,e])|(refine ⟨λ_=>?_,λ_=>?_⟩)|(refine ⟨by omega,?_⟩)|(simp (disch:=omega) [zG46,DtInst.cells,DtCmd.cells,DtId.cells,List.map_take,cP,e])|(intro _)
                  all_goals (refine hK _ _ (by kernel_rfl) ?_;clear hK K)
                  all_goals
                   refine zbm rfl (λhc6=>?_) (λhc6=>?_)
                   ·try simp [zG44,zbe,zbd] at hc6
                    all_goals
                     refine AW_x rfl rfl λK hK=>?_
                     simp (disch:=omega) [zG46,DtInst.cells,DtCmd.cells,DtId.cells,List.map_take,cP,e]
                     repeat' first|(exfalso;omega)|(refine ⟨λ_=>?_,λ_=>?_⟩)|(refine ⟨by omega,?_⟩)|(simp (disch:=omega) [zG46,DtInst.cells,DtCmd.cells,DtId.cells,List.map_take,cP,e])|(intro _)
                     all_goals (refine hK _ ?_;clear hK K)
                     all_goals
                      refine zbr (zc2 [] [] (by simp [zG43,List.range_succ]) (by simp) ?_)
                      simp (disch:=omega) [zG46,DtInst.cells,DtCmd.cells,DtId.cells,List.map_take,cP,e]
                      all_goals first | rfl | omega|(simp_all;done) | trace_state
                   ·try simp [zG44,zbe,zbd] at hc6
                    all_goals
                     refine zbn ?_
                     refine zbq ?_
                     refine zcc rfl rfl λK hK=>?_
                     simp (disch:=omega) [zG46,DtInst.cells,DtCmd.cells,DtId.cells,List.map_take,cP,e]
                     repeat' first|(exfalso;omega)|(refine ⟨λ_=>?_,λ_=>?_⟩)|(refine ⟨by omega,?_⟩)|(simp (disch:=omega) [zG46,DtInst.cells,DtCmd.cells,DtId.cells,List.map_take,cP,e])|(intro _)
                     all_goals (refine hK _ ?_;clear hK K)
                     all_goals
                      refine ⟨_,LeS.kx [] [(3,.sl 16 (ls.map DtInst.cells)),(4,.sl 2 ((ordR ls).map DtId.cells)),(5,(.g (.int .i64 ((i:Nat))))),(6,.sl 2 ((instAt ls (ordR ls)[i]).fDeps.map DtId.cells)),(7,(.g (.int .i64 (((k+1):Nat)))))] [] (by simp [zG43,KpR,renV2,renV,zbk,DtId.cells];try rfl) (by simp [zG43,KpOX,renO,plO,cvO,renV,pl1,DtId.cells];try rfl) (by rfl) (by simp) (by simp) (by rfl) (by simp [formsX,List.range_succ,zbp,zb0]),_,?_,k+1,rfl,?_,rfl⟩
                      ·omega
                      ·omega
                ·try simp [zG44,zbe,zbd] at hc5
                 all_goals
                  refine zb3 ?_
                  refine zbq ?_
                  refine zcc rfl rfl λK hK=>?_
                  simp (disch:=omega) [zG46,DtInst.cells,DtCmd.cells,DtId.cells,List.map_take,cP,e]
                  repeat' first|(exfalso;omega)|(refine ⟨λ_=>?_,λ_=>?_⟩)|(refine ⟨by omega,?_⟩)|(simp (disch:=omega) [zG46,DtInst.cells,DtCmd.cells,DtId.cells,List.map_take,cP,e])|(intro _)
                  all_goals (refine hK _ ?_;clear hK K)
                  all_goals
                   refine ⟨_,LeS.kx [] [(3,.sl 16 (ls.map DtInst.cells)),(4,.sl 2 ((ordR ls).map DtId.cells)),(5,(.g (.int .i64 (((i+1):Nat)))))] [] (by simp [zG43,KpR,renV2,renV,zbk,DtId.cells];try rfl) (by simp [zG43,KpOX,renO,plO,cvO,renV,pl1,DtId.cells];try rfl) (by rfl) (by simp) (by simp) (by rfl) (by simp [formsX,List.range_succ,zbp,zb0]),_,?_,i+1,rfl,?_,rfl⟩
                   ·omega
                   ·omega
         ·try simp [zG44,zbe,zbd] at hc3
          all_goals
           refine zb3 ?_
           refine zbq ?_
           refine AW_x rfl rfl λK hK=>?_
           simp (disch:=omega) [zG46,DtInst.cells,DtCmd.cells,DtId.cells,List.map_take,cP,e]
           repeat' first|(exfalso;omega)|(refine ⟨λ_=>?_,λ_=>?_⟩)|(refine ⟨by omega,?_⟩)|(simp (disch:=omega) [zG46,DtInst.cells,DtCmd.cells,DtId.cells,List.map_take,cP,e])|(intro _)
           all_goals (refine hK _ ?_;clear hK K)
           all_goals
            refine zbj ?_
            refine AW_x rfl rfl λK hK=>?_
            simp (disch:=omega) [zG46,DtInst.cells,DtCmd.cells,DtId.cells,List.map_take,cP,e]
            repeat' first|(refine ⟨by omega,?_⟩)|(intro _)
            refine hK _ ?_;clear hK K
            refine zbl ?_
            have hcs:True:=trivial
            refine zby (λmM sS=>∃(i4:Nat),mM=ls.length-i4∧(i4≤ls.length)∧sS = { env:=lkE [(3,.sl 16 (ls.map DtInst.cells)),(4,.sl 2 ((ordR ls).map DtId.cells)),(8,(.g (.int .i64 ((cnT ls i4:Nat))))),(9,(.g (.int .i64 ((i4:Nat)))))],ob:=lk [] }) ?_ ?_
            ·refine ⟨_,LeS.kx [] [(3,.sl 16 (ls.map DtInst.cells)),(4,.sl 2 ((ordR ls).map DtId.cells)),(8,(.g (.int .i64 ((cnT ls (0):Nat))))),(9,(.g (.int .i64 (((0):Nat)))))] [] (by simp [zG43,KpR,renV2,renV,zbk,DtId.cells,cnT_0,hcs];try rfl) (by simp [zG43,KpOX,renO,plO,cvO,renV,pl1,DtId.cells,cnT_0,hcs];try rfl) (by rfl) (by simp) (by simp) (by rfl) (by simp [formsX,List.range_succ,zbp,zb0]),_,0,rfl,?_,rfl⟩
             ·simp
            ·rintro mM sS ⟨i4,rfl,hi4,rfl⟩
             have hcn:=cnT_le ls i4
             refine zbj ?_
             refine AW_x rfl rfl λK hK=>?_
             simp (disch:=omega) [zG46,DtInst.cells,DtCmd.cells,DtId.cells,List.map_take,cP,e]
             repeat' first|(refine ⟨by omega,?_⟩)|(simp (disch:=omega) [zG46,DtInst.cells,DtCmd.cells,DtId.cells,List.map_take,cP,e])|(intro _)
             refine hK _ ?_;clear hK K
             refine zbm rfl (λhc7=>?_) (λhc7=>?_)
             ·try simp [zG44,zbe,zbd] at hc7
              all_goals
               refine zbn ?_
               refine zbq ?_
               refine zbj ?_
               refine zbl ?_
               refine AW_x rfl rfl λK hK=>?_
               simp (disch:=omega) [zG46,DtInst.cells,DtCmd.cells,DtId.cells,List.map_take,cP,e]
               repeat' first|(exfalso;omega)|(refine zcx (zbc zbw (zbc (zbu rfl) zbi)) (zp7 ls (ls[i4].fId) hsl hnl) rfl ?_;simp (disch:=omega) [zG46,DtInst.cells,DtCmd.cells,DtId.cells,List.map_take,cP,e])|(refine zcy (zp7 ls (ls[i4].fId) hsl hnl) (by rfl) ?_ ?_;(focus (simp (disch:=omega) [zG46,DtInst.cells,DtCmd.cells,DtId.cells,List.map_take,cP,e];done));simp (disch:=omega) [zG46,DtInst.cells,DtCmd.cells,DtId.cells,List.map_take,cP,e])|(refine ⟨λ_=>?_,λ_=>?_⟩)|(refine ⟨by omega,?_⟩)|(simp (disch:=omega) [zG46,DtInst.cells,DtCmd.cells,DtId.cells,List.map_take,cP,e])|(intro _)
               all_goals (refine hK _ ?_;clear hK K)
               all_goals
                refine zbm rfl (λhc8=>?_) (λhc8=>?_)
                ·try simp [zG44,zbe,zbd] at hc8
                 all_goals
                  refine zcc rfl rfl λK hK=>?_
                  simp (disch:=omega) [zG46,DtInst.cells,DtCmd.cells,DtId.cells,List.map_take,cP,e]
                  repeat' first|(exfalso;omega)|(refine ⟨λ_=>?_,λ_=>?_⟩)|(refine ⟨by omega,?_⟩)|(simp (disch:=omega) [zG46,DtInst.cells,DtCmd.cells,DtId.cells,List.map_take,cP,e])|(intro _)
                  all_goals (refine hK _ ?_;clear hK K)
                  all_goals
                   refine zbq ?_
                   refine zcc rfl rfl λK hK=>?_
                   simp (disch:=omega) [zG46,DtInst.cells,DtCmd.cells,DtId.cells,List.map_take,cP,e]
                   repeat' first|(refine ⟨by omega,?_⟩)|(intro _)
                   refine hK _ ?_;clear hK K
                   have hcs:cnT ls (i4+1)=cnT ls i4+1:=by rw [cnT_s (by omega)];simp [*]
                   refine ⟨_,LeS.kx [] [(3,.sl 16 (ls.map DtInst.cells)),(4,.sl 2 ((ordR ls).map DtId.cells)),(8,(.g (.int .i64 ((cnT ls (i4+1):Nat))))),(9,(.g (.int .i64 (((i4+1):Nat)))))] [] (by simp [zG43,KpR,renV2,renV,zbk,DtId.cells,cnT_0,hcs];try rfl) (by simp [zG43,KpOX,renO,plO,cvO,renV,pl1,DtId.cells,cnT_0,hcs];try rfl) (by rfl) (by simp) (by simp) (by rfl) (by simp [formsX,List.range_succ,zbp,zb0]),_,?_,i4+1,rfl,?_,rfl⟩
                   ·omega
                   ·omega
                ·try simp [zG44,zbe,zbd] at hc8
                 all_goals
                  refine zbn ?_
                  refine zbq ?_
                  refine zcc rfl rfl λK hK=>?_
                  simp (disch:=omega) [zG46,DtInst.cells,DtCmd.cells,DtId.cells,List.map_take,cP,e]
                  repeat' first|(exfalso;omega)|(refine ⟨λ_=>?_,λ_=>?_⟩)|(refine ⟨by omega,?_⟩)|(simp (disch:=omega) [zG46,DtInst.cells,DtCmd.cells,DtId.cells,List.map_take,cP,e])|(intro _)
                  all_goals (refine hK _ ?_;clear hK K)
                  all_goals
                   have hcs:cnT ls (i4+1)=cnT ls i4:=by rw [cnT_s (by omega)];simp [*]
                   refine ⟨_,LeS.kx [] [(3,.sl 16 (ls.map DtInst.cells)),(4,.sl 2 ((ordR ls).map DtId.cells)),(8,(.g (.int .i64 ((cnT ls (i4+1):Nat))))),(9,(.g (.int .i64 (((i4+1):Nat)))))] [] (by simp [zG43,KpR,renV2,renV,zbk,DtId.cells,cnT_0,hcs];try rfl) (by simp [zG43,KpOX,renO,plO,cvO,renV,pl1,DtId.cells,cnT_0,hcs];try rfl) (by rfl) (by simp) (by simp) (by rfl) (by simp [formsX,List.range_succ,zbp,zb0]),_,?_,i4+1,rfl,?_,rfl⟩
                   ·omega
                   ·omega
             ·try simp [zG44,zbe,zbd] at hc7
              all_goals
               refine zb3 ?_
               refine zbq ?_
               simp only [cnT_e (l:=ls) (i:=i4) (by omega)]
               refine AW_x rfl rfl λK hK=>?_
               simp (disch:=omega) [zG46,DtInst.cells,DtCmd.cells,DtId.cells,List.map_take,cP,e]
               repeat' first|(exfalso;omega)|(refine zcx (zbc zbw zbi) (zh0 ls hsl hnl hml) rfl ?_;simp (disch:=omega) [zG46,DtInst.cells,DtCmd.cells,DtId.cells,List.map_take,cP,e])|(refine zcy (zh0 ls hsl hnl hml) (by rfl) ?_ ?_;(focus (simp (disch:=omega) [zG46,DtInst.cells,DtCmd.cells,DtId.cells,List.map_take,cP,e];done));simp (disch:=omega) [zG46,DtInst.cells,DtCmd.cells,DtId.cells,List.map_take,cP,e])|(refine ⟨λ_=>?_,λ_=>?_⟩)|(refine ⟨by omega,?_⟩)|(simp (disch:=omega) [zG46,DtInst.cells,DtCmd.cells,DtId.cells,List.map_take,cP,e])|(intro _)
               all_goals (refine hK _ ?_;clear hK K)
               all_goals
                refine AW_x rfl rfl λK hK=>?_
                simp (disch:=omega) [zG46,DtInst.cells,DtCmd.cells,DtId.cells,List.map_take,cP,e]
                repeat' first|(refine ⟨by omega,?_⟩)|(intro _)
                refine hK _ ?_;clear hK K
                refine zbj ?_
                refine AW_x rfl rfl λK hK=>?_
                simp (disch:=omega) [zG46,DtInst.cells,DtCmd.cells,DtId.cells,List.map_take,cP,e]
                repeat' first|(refine ⟨by omega,?_⟩)|(intro _)
                refine hK _ ?_;clear hK K
                refine zbl ?_
                have hps:True:=trivial
                refine zby (λmM sS=>∃(i6:Nat),mM=(partsR ls).length-i6∧(i6≤(partsR ls).length)∧sS = { env:=lkE [(3,.sl 16 (ls.map DtInst.cells)),(4,.sl 2 ((ordR ls).map DtId.cells)),(8,(.g (.int .i64 (((ordR ls).length:Nat))))),(10,.sl 1 ((partsR ls).map cP)),(11,(.g (.int .i64 ((pnT ls i6:Nat))))),(12,(.g (.int .i64 ((i6:Nat)))))],ob:=lk [] }) ?_ ?_
                ·refine ⟨_,LeS.kx [] [(3,.sl 16 (ls.map DtInst.cells)),(4,.sl 2 ((ordR ls).map DtId.cells)),(8,(.g (.int .i64 (((ordR ls).length:Nat))))),(10,.sl 1 ((partsR ls).map cP)),(11,(.g (.int .i64 ((pnT ls (0):Nat))))),(12,(.g (.int .i64 (((0):Nat)))))] [] (by simp [zG43,KpR,renV2,renV,zbk,cP,pnT_0,hps];try rfl) (by simp [zG43,KpOX,renO,plO,cvO,renV,pl1,cP,pnT_0,hps];try rfl) (by rfl) (by simp) (by simp) (by rfl) (by simp [formsX,List.range_succ,zbp,zb0]),_,0,rfl,?_,rfl⟩
                 ·simp
                ·rintro mM sS ⟨i6,rfl,hi6,rfl⟩
                 have hpn:=pnT_le ls i6
                 refine zbj ?_
                 refine AW_x rfl rfl λK hK=>?_
                 simp (disch:=omega) [zG46,DtInst.cells,DtCmd.cells,DtId.cells,List.map_take,cP,e]
                 repeat' first|(refine ⟨by omega,?_⟩)|(simp (disch:=omega) [zG46,DtInst.cells,DtCmd.cells,DtId.cells,List.map_take,cP,e])|(intro _)
                 refine hK _ ?_;clear hK K
                 refine zbm rfl (λhc9=>?_) (λhc9=>?_)
                 ·try simp [zG44,zbe,zbd] at hc9
                  all_goals
                   have hps:=pnT_s (l:=ls) (i:=i6) (by omega)
                   have hpn2:=pnT_le ls (i6+1)
                   refine zbn ?_
                   refine zbq ?_
                   refine zbj ?_
                   refine zbl ?_
                   refine zcc rfl rfl λK hK=>?_
                   simp (disch:=omega) [zG46,DtInst.cells,DtCmd.cells,DtId.cells,List.map_take,cP,e]
                   repeat' first|(exfalso;omega)|(refine ⟨λ_=>?_,λ_=>?_⟩)|(refine ⟨by omega,?_⟩)|(simp (disch:=omega) [zG46,DtInst.cells,DtCmd.cells,DtId.cells,List.map_take,cP,e])|(intro _)
                   all_goals (refine hK _ ?_;clear hK K)
                   all_goals
                    refine zbq ?_
                    refine zcc rfl rfl λK hK=>?_
                    simp (disch:=omega) [zG46,DtInst.cells,DtCmd.cells,DtId.cells,List.map_take,cP,e]
                    repeat' first|(refine ⟨by omega,?_⟩)|(intro _)
                    refine hK _ ?_;clear hK K
                    refine ⟨_,LeS.kx [] [(3,.sl 16 (ls.map DtInst.cells)),(4,.sl 2 ((ordR ls).map DtId.cells)),(8,(.g (.int .i64 (((ordR ls).length:Nat))))),(10,.sl 1 ((partsR ls).map cP)),(11,(.g (.int .i64 ((pnT ls (i6+1):Nat))))),(12,(.g (.int .i64 (((i6+1):Nat)))))] [] (by simp [zG43,KpR,renV2,renV,zbk,cP,pnT_0,hps];try rfl) (by simp [zG43,KpOX,renO,plO,cvO,renV,pl1,cP,pnT_0,hps];try rfl) (by rfl) (by simp) (by simp) (by rfl) (by simp [formsX,List.range_succ,zbp,zb0]),_,?_,i6+1,rfl,?_,rfl⟩
                    ·omega
                    ·omega
                 ·try simp [zG44,zbe,zbd] at hc9
                  all_goals
                   refine zb3 ?_
                   refine zbq ?_
                   simp only [pnT_e (l:=ls) (i:=i6) (by omega)]
                   refine AW_x rfl rfl λK hK=>?_
                   simp (disch:=omega) [zG46,DtInst.cells,DtCmd.cells,DtId.cells,List.map_take,cP,e]
                   repeat' first|(exfalso;omega)|(refine zcx (zbc zbw zbi) (ztz ls hsl hnl hml) rfl ?_;simp (disch:=omega) [zG46,DtInst.cells,DtCmd.cells,DtId.cells,List.map_take,cP,e])|(refine zcy (ztz ls hsl hnl hml) (by rfl) ?_ ?_;(focus (simp (disch:=omega) [zG46,DtInst.cells,DtCmd.cells,DtId.cells,List.map_take,cP,e];done));simp (disch:=omega) [zG46,DtInst.cells,DtCmd.cells,DtId.cells,List.map_take,cP,e])|(refine ⟨λ_=>?_,λ_=>?_⟩)|(refine ⟨by omega,?_⟩)|(simp (disch:=omega) [zG46,DtInst.cells,DtCmd.cells,DtId.cells,List.map_take,cP,e])|(intro _)
                   all_goals (refine hK _ ?_;clear hK K)
                   all_goals
                    refine zbj ?_
                    refine AW_x rfl rfl λK hK=>?_
                    simp (disch:=omega) [zG46,DtInst.cells,DtCmd.cells,DtId.cells,List.map_take,cP,e]
                    repeat' first|(refine ⟨by omega,?_⟩)|(intro _)
                    refine hK _ ?_;clear hK K
                    refine zbl ?_
                    refine zby (λmM sS=>∃(i8:Nat),mM=(wtR ls).length-i8∧(i8≤(wtR ls).length)∧sS = { env:=lkE [(3,.sl 16 (ls.map DtInst.cells)),(4,.sl 2 ((ordR ls).map DtId.cells)),(8,(.g (.int .i64 (((ordR ls).length:Nat))))),(11,(.g (.int .i64 (((ordR ls).length:Nat))))),(13,.sl 2 ((wtR ls).map DtId.cells)),(14,(.g (.int .i64 ((i8:Nat)))))],ob:=lk [] }) ?_ ?_
                    ·refine ⟨_,LeS.kx [] [(3,.sl 16 (ls.map DtInst.cells)),(4,.sl 2 ((ordR ls).map DtId.cells)),(8,(.g (.int .i64 (((ordR ls).length:Nat))))),(11,(.g (.int .i64 (((ordR ls).length:Nat))))),(13,.sl 2 ((wtR ls).map DtId.cells)),(14,(.g (.int .i64 (((0):Nat)))))] [] (by simp [zG43,KpR,renV2,renV,zbk,DtId.cells];try rfl) (by simp [zG43,KpOX,renO,plO,cvO,renV,pl1,DtId.cells];try rfl) (by rfl) (by simp) (by simp) (by rfl) (by simp [formsX,List.range_succ,zbp,zb0]),_,0,rfl,?_,rfl⟩
                     ·simp
                    ·rintro mM sS ⟨i8,rfl,hi8,rfl⟩
                     refine zbj ?_
                     refine AW_x rfl rfl λK hK=>?_
                     simp (disch:=omega) [zG46,DtInst.cells,DtCmd.cells,DtId.cells,List.map_take,cP,e]
                     repeat' first|(refine ⟨by omega,?_⟩)|(simp (disch:=omega) [zG46,DtInst.cells,DtCmd.cells,DtId.cells,List.map_take,cP,e])|(intro _)
                     refine hK _ ?_;clear hK K
                     refine zbm rfl (λhc10=>?_) (λhc10=>?_)
                     ·try simp [zG44,zbe,zbd] at hc10
                      all_goals
                       refine zbn ?_
                       refine zbq ?_
                       refine zbj ?_
                       refine zbl ?_
                       refine AW_x rfl rfl λK hK=>?_
                       simp (disch:=omega) [zG46,DtInst.cells,DtCmd.cells,DtId.cells,List.map_take,cP,e]
                       repeat' first|(exfalso;omega)|(refine zcx (zbc zbw (zbc (zbu rfl) zbi)) (zg1 ((ordR ls).take i) ((ordR ls)[i]) (zda ls i) (zp6 hii)) rfl ?_;simp (disch:=omega) [zG46,DtInst.cells,DtCmd.cells,DtId.cells,List.map_take,cP,e])|(refine zcy (zg1 ((ordR ls).take i) ((ordR ls)[i]) (zda ls i) (zp6 hii)) (by rfl) ?_ ?_;(focus (simp (disch:=omega) [zG46,DtInst.cells,DtCmd.cells,DtId.cells,List.map_take,cP,e];done));simp (disch:=omega) [zG46,DtInst.cells,DtCmd.cells,DtId.cells,List.map_take,cP,e])|(refine zcx (zbc zbw (zbc (zbu rfl) zbi)) (zlh ((ordR ls).take i) ((instAt ls (ordR ls)[i]).fDeps[k]) (zda ls i)) rfl ?_;simp (disch:=omega) [zG46,DtInst.cells,DtCmd.cells,DtId.cells,List.map_take,cP,e])|(refine zcy (zlh ((ordR ls).take i) ((instAt ls (ordR ls)[i]).fDeps[k]) (zda ls i)) (by rfl) ?_ ?_;(focus (simp (disch:=omega) [zG46,DtInst.cells,DtCmd.cells,DtId.cells,List.map_take,cP,e];done));simp (disch:=omega) [zG46,DtInst.cells,DtCmd.cells,DtId.cells,List.map_take,cP,e])|(refine zcx (zbc zbw (zbc (zbu rfl) zbi)) (zp8 (reachL ls ((instAt ls (ordR ls)[i]).fDeps[k])) ((ordR ls)[i]) (zfw ls _ hpp) (zgq hii (List.getElem_mem _) (by assumption))) rfl ?_;simp (disch:=omega) [zG46,DtInst.cells,DtCmd.cells,DtId.cells,List.map_take,cP,e])|(refine zcy (zp8 (reachL ls ((instAt ls (ordR ls)[i]).fDeps[k])) ((ordR ls)[i]) (zfw ls _ hpp) (zgq hii (List.getElem_mem _) (by assumption))) (by rfl) ?_ ?_;(focus (simp (disch:=omega) [zG46,DtInst.cells,DtCmd.cells,DtId.cells,List.map_take,cP,e];done));simp (disch:=omega) [zG46,DtInst.cells,DtCmd.cells,DtId.cells,List.map_take,cP,e])|(refine zcx (zbc zbw (zbc (zbu rfl) zbi)) (zg1 (ordR ls) ((wtR ls)[i8]) (zdo ls) (zk7 (List.getElem_mem _))) rfl ?_;simp (disch:=omega) [zG46,DtInst.cells,DtCmd.cells,DtId.cells,List.map_take,cP,e])|(refine zcy (zg1 (ordR ls) ((wtR ls)[i8]) (zdo ls) (zk7 (List.getElem_mem _))) (by rfl) ?_ ?_;(focus (simp (disch:=omega) [zG46,DtInst.cells,DtCmd.cells,DtId.cells,List.map_take,cP,e];done));simp (disch:=omega) [zG46,DtInst.cells,DtCmd.cells,DtId.cells,List.map_take,cP,e])|(refine ⟨λ_=>?_,λ_=>?_⟩)|(refine ⟨by omega,?_⟩)|(simp (disch:=omega) [zG46,DtInst.cells,DtCmd.cells,DtId.cells,List.map_take,cP,e])|(intro _)
                       all_goals (refine hK _ ?_;clear hK K)
                       all_goals
                        refine zbm rfl (λhc11=>?_) (λhc11=>?_)
                        ·try simp [zG44,zbe,zbd] at hc11
                         all_goals
                          refine AW_x rfl rfl λK hK=>?_
                          simp (disch:=omega) [zG46,DtInst.cells,DtCmd.cells,DtId.cells,List.map_take,cP,e]
                          repeat' first|(exfalso;omega)|(refine ⟨λ_=>?_,λ_=>?_⟩)|(refine ⟨by omega,?_⟩)|(simp (disch:=omega) [zG46,DtInst.cells,DtCmd.cells,DtId.cells,List.map_take,cP,e])|(intro _)
                          all_goals (refine hK _ ?_;clear hK K)
                          all_goals
                           refine zbr (zc2 [] [] (by simp [zG43,List.range_succ]) (by simp) ?_)
                           simp (disch:=omega) [zG46,DtInst.cells,DtCmd.cells,DtId.cells,List.map_take,cP,e]
                           all_goals first | rfl | omega|(simp_all;done) | trace_state
                        ·try simp [zG44,zbe,zbd] at hc11
                         all_goals
                          refine zbn ?_
                          refine zbq ?_
                          refine zcc rfl rfl λK hK=>?_
                          simp (disch:=omega) [zG46,DtInst.cells,DtCmd.cells,DtId.cells,List.map_take,cP,e]
                          repeat' first|(exfalso;omega)|(refine ⟨λ_=>?_,λ_=>?_⟩)|(refine ⟨by omega,?_⟩)|(simp (disch:=omega) [zG46,DtInst.cells,DtCmd.cells,DtId.cells,List.map_take,cP,e])|(intro _)
                          all_goals (refine hK _ ?_;clear hK K)
                          all_goals
                           refine ⟨_,LeS.kx [] [(3,.sl 16 (ls.map DtInst.cells)),(4,.sl 2 ((ordR ls).map DtId.cells)),(8,(.g (.int .i64 (((ordR ls).length:Nat))))),(11,(.g (.int .i64 (((ordR ls).length:Nat))))),(13,.sl 2 ((wtR ls).map DtId.cells)),(14,(.g (.int .i64 (((i8+1):Nat)))))] [] (by simp [zG43,KpR,renV2,renV,zbk,DtId.cells];try rfl) (by simp [zG43,KpOX,renO,plO,cvO,renV,pl1,DtId.cells];try rfl) (by rfl) (by simp) (by simp) (by rfl) (by simp [formsX,List.range_succ,zbp,zb0]),_,?_,i8+1,rfl,?_,rfl⟩
                           ·omega
                           ·omega
                     ·try simp [zG44,zbe,zbd] at hc10
                      all_goals
                       refine zb3 ?_
                       refine zbq ?_
                       refine AW_x rfl rfl λK hK=>?_
                       simp (disch:=omega) [zG46,DtInst.cells,DtCmd.cells,DtId.cells,List.map_take,cP,e]
                       repeat' first|(exfalso;omega)|(refine zcx (zbc zbw zbi) (zt1 ls hsl hnl hml) rfl ?_;simp (disch:=omega) [zG46,DtInst.cells,DtCmd.cells,DtId.cells,List.map_take,cP,e])|(refine zcy (zt1 ls hsl hnl hml) (by rfl) ?_ ?_;(focus (simp (disch:=omega) [zG46,DtInst.cells,DtCmd.cells,DtId.cells,List.map_take,cP,e];done));simp (disch:=omega) [zG46,DtInst.cells,DtCmd.cells,DtId.cells,List.map_take,cP,e])|(refine zcx (zbc zbw zbi) (zt0 ls hsl) rfl ?_;simp (disch:=omega) [zG46,DtInst.cells,DtCmd.cells,DtId.cells,List.map_take,cP,e])|(refine zcy (zt0 ls hsl) (by rfl) ?_ ?_;(focus (simp (disch:=omega) [zG46,DtInst.cells,DtCmd.cells,DtId.cells,List.map_take,cP,e];done));simp (disch:=omega) [zG46,DtInst.cells,DtCmd.cells,DtId.cells,List.map_take,cP,e])|(refine ⟨λ_=>?_,λ_=>?_⟩)|(refine ⟨by omega,?_⟩)|(simp (disch:=omega) [zG46,DtInst.cells,DtCmd.cells,DtId.cells,List.map_take,cP,e])|(intro _)
                       all_goals (refine hK _ ?_;clear hK K)
                       all_goals
                        refine zbr (zc2 [] [] (by simp [zG43,List.range_succ]) (by simp) ?_)
                        simp (disch:=omega) [zG46,DtInst.cells,DtCmd.cells,DtId.cells,List.map_take,cP,e]
                        all_goals first | rfl | omega|(simp_all;done) | trace_state
 ·have e:1048576<l.length:=by omega
  refine zb5 Tryz.func3 (by rfl) (by rfl) (by rw [Tryz.ntmps3];exact Nat.le_of_ble_eq_true rfl) rfl (by simp) rfl rfl ?_
  rw [Tryz.ntmps3]
  refine zfl   ?_
  refine AW_k [(0,_)] ⟨rfl,trivial⟩ ?_
  refine AW_x rfl rfl λK hK=>?_
  simp (disch:=omega) [zG47,e]
  repeat' first|(refine ⟨by omega,?_⟩)|(intro _)
  refine hK _ ?_;clear hK K
  refine zbj ?_
  refine AW_x rfl rfl λK hK=>?_
  simp (disch:=omega) [zG47,e]
  repeat' first|(exfalso;omega)|(refine zcx (zbc zbw zbi) (zzu l hw) rfl ?_;simp (disch:=omega) [zG47,e])|(refine zcy (zzu l hw) (by rfl) ?_ ?_;(focus (simp (disch:=omega) [zG47,e,zbh];done));simp (disch:=omega) [zG47,e])|(refine ⟨by omega,?_⟩)|(simp (disch:=omega) [zG47,e])|(intro _)
  refine hK _ ?_;clear hK K
  refine zbm rfl (λhc12=>?_) (λhc12=>?_)
  ·try simp [zG44,zbe,zbd] at hc12
   all_goals
    refine AW_x rfl rfl λK hK=>?_
    simp (disch:=omega) [zG47,e]
    repeat' first|(exfalso;omega)|(refine ⟨λ_=>?_,λ_=>?_⟩)|(refine ⟨by omega,?_⟩)|(simp (disch:=omega) [zG47,e])|(intro _)
    all_goals (refine hK _ ?_;clear hK K)
    all_goals
     refine zbr (zc2 [] [] (by simp [zG43,List.range_succ]) (by simp) ?_)
     simp (disch:=omega) [zG47,e]
     all_goals first | rfl | omega|(simp_all;done) | trace_state
  ·try simp [zG44,zbe,zbd] at hc12
   all_goals
    refine zbn ?_
    refine zbq ?_
    refine AW_x rfl rfl λK hK=>?_
    simp (disch:=omega) [zG47,e]
    repeat' first|(exfalso;omega)|(refine zv5 [] false [] (zkg l hl) ?_ ?_ ?_;(focus (simp [List.range_succ,nmC];done));(focus (simp (disch:=omega) [zG47,e,zbh];done));rintro _ _ _ ⟨ls,hls,hds,rfl,rfl,rfl⟩;refine ⟨⟨by first | rfl|(simp;done),by first | rfl|(simp;done)⟩,?_⟩;simp (disch:=omega) [zG47,e])|(refine ⟨λ_=>?_,λ_=>?_⟩)|(refine ⟨by omega,?_⟩)|(simp (disch:=omega) [zG47,e])|(intro _)
    all_goals (refine hK _ ?_;clear hK K)
    all_goals
     refine AW_x rfl rfl λK hK=>?_
     simp (disch:=omega) [zG47,e]
     repeat' first|(exfalso;omega)|(refine zcx (zbc zbw zbi) (zh1 ls hsl hnl hml) rfl ?_;simp (disch:=omega) [zG47,e])|(refine zcy (zh1 ls hsl hnl hml) (by rfl) ?_ ?_;(focus (simp (disch:=omega) [zG47,e,zbh];done));simp (disch:=omega) [zG47,e])|(refine ⟨by omega,?_⟩)|(simp (disch:=omega) [zG47,e])|(intro _)
     refine hK _ ?_;clear hK K
     refine zbj ?_
     refine AW_x rfl rfl λK hK=>?_
     simp (disch:=omega) [zG47,e]
     repeat' first|(exfalso;omega)|(refine zcx (zbc zbw zbi) (zmb ls hsl hnl) rfl ?_;simp (disch:=omega) [zG47,e])|(refine zcy (zmb ls hsl hnl) (by rfl) ?_ ?_;(focus (simp (disch:=omega) [zG47,e,zbh];done));simp (disch:=omega) [zG47,e])|(refine zcx (zbc zbw (zbc zbw zbi)) (zme (ordR ls) (zdo ls)) rfl ?_;simp (disch:=omega) [zG47,e])|(refine zcy (zme (ordR ls) (zdo ls)) (by rfl) ?_ ?_;(focus (simp (disch:=omega) [zG47,e,zbh];done));simp (disch:=omega) [zG47,e])|(refine ⟨by omega,?_⟩)|(simp (disch:=omega) [zG47,e])|(intro _)
     refine hK _ ?_;clear hK K
     refine zbm rfl (λhc13=>?_) (λhc13=>?_)
     ·try simp [zG44,zbe,zbd] at hc13
      all_goals
       refine AW_x rfl rfl λK hK=>?_
       simp (disch:=omega) [zG47,e]
       repeat' first|(exfalso;omega)|(refine ⟨λ_=>?_,λ_=>?_⟩)|(refine ⟨by omega,?_⟩)|(simp (disch:=omega) [zG47,e])|(intro _)
       all_goals (refine hK _ ?_;clear hK K)
       all_goals
        refine zbr (zc2 [] [] (by simp [zG43,List.range_succ]) (by simp) ?_)
        simp (disch:=omega) [zG47,e]
        all_goals first | rfl | omega|(simp_all;done) | trace_state
     ·try simp [zG44,zbe,zbd] at hc13
      all_goals
       refine zbn ?_
       refine zbq ?_
       refine zbj ?_
       refine AW_x rfl rfl λK hK=>?_
       simp (disch:=omega) [zG47,e]
       repeat' first|(exfalso;omega)|(refine ⟨λ_=>?_,λ_=>?_⟩)|(refine ⟨by omega,?_⟩)|(simp (disch:=omega) [zG47,e])|(intro _)
       all_goals (refine hK _ ?_;clear hK K)
       all_goals
        refine zbl ?_
        done
theorem lawGraph(l:List Int)(hw:wfS wfU8 l):PCall Tryz.prog 3 [.sl 1 (l.map cU)] (.g (.bool (true))):=zps (lawGraphX l (by have:=hw.1;omega))
end Go.Proofs.YtodmafgmdlkhoaaGreat.Vs
end
