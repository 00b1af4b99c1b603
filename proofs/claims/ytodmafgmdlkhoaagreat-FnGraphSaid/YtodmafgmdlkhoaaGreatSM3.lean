import Derived.Test.YtodmafgmdlkhoaaGreatSM2
import Derived.Test.YtodmafgmdlkhoaaGreatVs10
section
open Go Go.Proofs Go.Proofs.YtodmafgmdlkhoaaGreat.Vs
namespace Go.Proofs.YtodmafgmdlkhoaaGreat.Vs
set_option linter.all false
set_option linter.unusedSimpArgs false
set_option linter.unusedVariables false
set_option maxRecDepth 100000
/-! rows of rows of ids, walked in place -/
def cP(p:List DtId):List AV:=[.sl 2 (p.map DtId.cells)]
theorem del_eq{α:Type}(l:List α)(k:Nat)(h:k<l.length):List.take ((k:Int)+((l.length-(k+1):Nat):Int)).toNat (l.take k++((l.drop (k+1)).take (l.length-(k+1))++l.drop (k+(l.length-(k+1)))))=l.take k++l.drop (k+1):=by
 have e:((k:Int)+((l.length-(k+1):Nat):Int)).toNat=k+(l.length-(k+1)):=by omega
 rw [e,List.take_of_length_le (l:=l.drop (k+1)) (by simp),←List.append_assoc,List.take_append_of_le_length (by simp;omega),List.take_of_length_le (by simp;omega)]
def zG6:=And.intro @zb4 (And.intro @gE @tP)
def zG7:=And.intro @zbb (And.intro @zbf (And.intro @zco @zcu))
def zG8:=And.intro @zbt (And.intro @zbp @zb0)
theorem delRows{ob:Nat→Option OB}{n:Nat}(rows:List (List AV))(hok:ObOk ob)(hob:ob n=some (.win 1 rows))(k:Nat)(hk:k<rows.length)(hl:rows.length≤1048576):∃fs,INL Tryz.prog 48 fs ob [.arr n 0 rows.length,(.g (.int .i64 ((k:Nat)))),(.g (.int .i64 ((k:Nat)+1)))] (KQ (AV.arr n 0 (rows.length-1)) (upd ob n (some (.win 1 (rows.take k++rows.drop (k+1)))))):=by
 refine znj Tryz.func48 (by rfl) (by rfl) (by rw [Tryz.ntmps48];exact Nat.le_of_ble_eq_true rfl) (by rfl) (hok) λfs=>?_
 rw [Tryz.ntmps48]
 refine AW_k [(0,_),(1,_),(2,_)] ⟨rfl,rfl,rfl,trivial⟩ ?_
 refine AW_winc (sz:=1) (xs:=rows) n (by simp [zbt,hob]) (by omega) λc0 hc0=>?_
 refine AW_x rfl rfl λK hK=>?_
 simp (disch:=omega) [zG6,DtId.cells,List.range_succ,zbx,zcm,tupA,noTup,zbg]
 repeat' first|(refine ⟨by omega,?_⟩)|(intro _)
 refine hK _ ?_;clear hK K
 refine AW_x rfl rfl λK hK=>?_
 simp (disch:=omega) [zG6,DtId.cells,List.range_succ,zbx,zcm,tupA,noTup,zbg]
 repeat' first|(refine ⟨by omega,?_⟩)|(simp (disch:=omega) [zG6,DtId.cells,List.range_succ,zbx,zcm,tupA,noTup,zbg])|(intro _)
 refine hK _ ?_;clear hK K
 refine zbj ?_
 refine AW_x rfl rfl λK hK=>?_
 simp (disch:=omega) [zG6,DtId.cells,List.range_succ,zbx,zcm,tupA,noTup,zbg]
 repeat' first|(refine ⟨by omega,?_⟩)|(intro _)
 refine hK _ ?_;clear hK K
 refine zbm rfl (λhc1=>?_) (λhc1=>?_)
 ·try simp [zG7,zbe,zbd] at hc1
  all_goals
   refine AW_x rfl rfl λK hK=>?_
   simp (disch:=omega) [zG6,DtId.cells,List.range_succ,zbx,zcm,tupA,noTup,zbg]
   repeat' first|(exfalso;omega)|(refine ⟨λ_=>?_,λ_=>?_⟩)|(refine ⟨by omega,?_⟩)|(simp (disch:=omega) [zG6,DtId.cells,List.range_succ,zbx,zcm,tupA,noTup,zbg])|(intro _)
   all_goals (refine hK _ ?_;clear hK K)
   all_goals
    refine zbr (znk ?_)
    simp (disch:=omega) [zG6,DtId.cells,List.range_succ,zbx,zcm,tupA,noTup,zbg]
    all_goals omega
 ·try simp [zG7,zbe,zbd] at hc1
  all_goals
   refine zbn ?_
   refine zbq ?_
   refine AW_x rfl rfl λK hK=>?_
   simp (disch:=omega) [zG6,DtId.cells,List.range_succ,zbx,zcm,tupA,noTup,zbg]
   repeat' first|(exfalso;omega)|(refine ⟨λ_=>?_,λ_=>?_⟩)|(refine ⟨by omega,?_⟩)|(simp (disch:=omega) [zG6,DtId.cells,List.range_succ,zbx,zcm,tupA,noTup,zbg])|(intro _)
   all_goals (refine hK _ ?_;clear hK K)
   all_goals
    refine AW_d rfl mix (by kernel_rfl) (by kernel_rfl) λK hK=>?_
    simp (disch:=omega) [zG6,DtId.cells,List.range_succ,zbx,zcm,tupA,noTup,zbg]
    repeat' first|(refine ⟨by omega,?_⟩)|(simp (disch:=omega) [zG6,DtId.cells,List.range_succ,zbx,zcm,tupA,noTup,zbg])|(intro _)
    refine hK _ _ (by kernel_rfl) ?_;clear hK K
    refine AW_x rfl rfl λK hK=>?_
    simp (disch:=omega) [zG6,DtId.cells,List.range_succ,zbx,zcm,tupA,noTup,zbg]
    repeat' first|(refine ⟨by omega,?_⟩)|(simp (disch:=omega) [zG6,DtId.cells,List.range_succ,zbx,zcm,tupA,noTup,zbg])|(intro _)
    refine hK _ ?_;clear hK K
    refine zg2 (LeS.cwin (sz:=1) (c0:=c0) (xs:=rows.take k++rows.drop (k+1)) n (by simp [zG8];exact del_eq rows k hk)) ?_
    refine AW_x rfl rfl λK hK=>?_
    simp (disch:=omega) [zG6,DtId.cells,List.range_succ,zbx,zcm,tupA,noTup,zbg]
    repeat' first|(refine ⟨by omega,?_⟩)|(intro _)
    refine hK _ ?_;clear hK K
    refine zbr (znk ?_)
    simp (disch:=omega) [zG6,DtId.cells,List.range_succ,zbx,zcm,tupA,noTup,zbg]
    all_goals omega
theorem zpw{ob:Nat→Option OB}{n:Nat}{F:FuncId}{cap:List AV}{q:List DtId→Bool}(xs:List (List DtId))(hok:ObOk ob)(hob:ob n=some (.win 1 (xs.map cP)))(hn:xs.length≤1048576)(hf:∀p∈xs,∃fs,INL Tryz.prog F fs ob (.sl 2 (p.map DtId.cells) :: cap) (KQ ((.g (.bool (q p)))) (ob))):∃fs,INL Tryz.prog 45 fs ob [.arr n 0 xs.length,.fn F [] cap] (KQ ((.g (.int .i64 (idxZ q xs)))) (ob)):=by
 refine znj Tryz.func45 (by rfl) (by rfl) (by rw [Tryz.ntmps45];exact Nat.le_of_ble_eq_true rfl) (by rfl) (hok) λfs=>?_
 rw [Tryz.ntmps45]
 refine AW_k [(0,_),(1,_)] ⟨rfl,rfl,trivial⟩ ?_
 refine AW_x rfl rfl λK hK=>?_
 simp (disch:=omega) [zG6,DtId.cells,List.range_succ,zbx,zcm,tupA,noTup,hob,cP]
 repeat' first|(refine zlp (hf xs[i] (List.getElem_mem _)) ?_;rintro _ _ ⟨rfl,rfl⟩;try simp (disch:=omega) [zG6,DtId.cells,List.range_succ,zbx,zcm,tupA,noTup,hob,cP])|(refine ⟨by omega,?_⟩)|(intro _)
 refine hK _ ?_;clear hK K
 refine zbj ?_
 refine AW_x rfl rfl λK hK=>?_
 simp (disch:=omega) [zG6,DtId.cells,List.range_succ,zbx,zcm,tupA,noTup,hob,cP]
 repeat' first|(refine zlp (hf xs[i] (List.getElem_mem _)) ?_;rintro _ _ ⟨rfl,rfl⟩;try simp (disch:=omega) [zG6,DtId.cells,List.range_succ,zbx,zcm,tupA,noTup,hob,cP])|(refine ⟨by omega,?_⟩)|(simp (disch:=omega) [zG6,DtId.cells,List.range_succ,zbx,zcm,tupA,noTup,hob,cP])|(intro _)
 refine hK _ ?_;clear hK K
 refine zbl ?_
 refine zby (λmM sS=>∃(i:Nat),mM=xs.length-i∧(i≤xs.length∧∀(j:Nat) x,j<i→xs[j]? = some x→q x=false)∧sS = { env:=lkE [(0,.arr n 0 xs.length),(1,.fn F [] cap),(6,.arr n 0 xs.length),(7,(.g (.int .i64 ((xs.length:Nat))))),(8,(.g (.int .i64 ((i:Nat)))))],ob:=ob }) ?_ ?_
 ·refine ⟨_,LeS.kp [(0,.arr n 0 xs.length),(1,.fn F [] cap),(6,.arr n 0 xs.length),(7,(.g (.int .i64 ((xs.length:Nat))))),(8,(.g (.int .i64 (((0):Nat)))))] (by simp [KpE,zbt,zbk,zbp];try rfl),_,0,rfl,?_,rfl⟩
  ·simp
 ·rintro mM sS ⟨i,rfl,⟨hi,hpre⟩,rfl⟩
  refine AW_x rfl rfl λK hK=>?_
  simp (disch:=omega) [zG6,DtId.cells,List.range_succ,zbx,zcm,tupA,noTup,hob,cP]
  repeat' first|(refine zlp (hf xs[i] (List.getElem_mem _)) ?_;rintro _ _ ⟨rfl,rfl⟩;try simp (disch:=omega) [zG6,DtId.cells,List.range_succ,zbx,zcm,tupA,noTup,hob,cP])|(refine ⟨by omega,?_⟩)|(intro _)
  refine hK _ ?_;clear hK K
  refine zbj ?_
  refine zbm rfl (λhc2=>?_) (λhc2=>?_)
  ·try simp [zG7,zbe,zbd] at hc2
   all_goals
    have hg:xs[i]? = some xs[i]:=List.getElem?_eq_getElem (by omega)
    refine zbn ?_
    refine zbq ?_
    refine zbj ?_
    refine zbl ?_
    refine AW_x rfl rfl λK hK=>?_
    simp (disch:=omega) [zG6,DtId.cells,List.range_succ,zbx,zcm,tupA,noTup,hob,cP]
    repeat' first|(exfalso;omega)|(refine zlp (hf xs[i] (List.getElem_mem _)) ?_;rintro _ _ ⟨rfl,rfl⟩;try simp (disch:=omega) [zG6,DtId.cells,List.range_succ,zbx,zcm,tupA,noTup,hob,cP])|(refine ⟨λ_=>?_,λ_=>?_⟩)|(refine ⟨by omega,?_⟩)|(simp (disch:=omega) [zG6,DtId.cells,List.range_succ,zbx,zcm,tupA,noTup,hob,cP])|(intro _)
    all_goals (refine hK _ ?_;clear hK K)
    all_goals
     refine AW_x rfl rfl λK hK=>?_
     simp (disch:=omega) [zG6,DtId.cells,List.range_succ,zbx,zcm,tupA,noTup,hob,cP]
     repeat' first|(refine zlp (hf xs[i] (List.getElem_mem _)) ?_;rintro _ _ ⟨rfl,rfl⟩;try simp (disch:=omega) [zG6,DtId.cells,List.range_succ,zbx,zcm,tupA,noTup,hob,cP])|(refine ⟨by omega,?_⟩)|(simp (disch:=omega) [zG6,DtId.cells,List.range_succ,zbx,zcm,tupA,noTup,hob,cP])|(intro _)
     refine hK _ ?_;clear hK K
     refine zbm rfl (λhc3=>?_) (λhc3=>?_)
     ·try simp [zG7,zbe,zbd] at hc3
      all_goals
       refine AW_x rfl rfl λK hK=>?_
       simp (disch:=omega) [zG6,DtId.cells,List.range_succ,zbx,zcm,tupA,noTup,hob,cP]
       repeat' first|(exfalso;omega)|(refine zlp (hf xs[i] (List.getElem_mem _)) ?_;rintro _ _ ⟨rfl,rfl⟩;try simp (disch:=omega) [zG6,DtId.cells,List.range_succ,zbx,zcm,tupA,noTup,hob,cP])|(refine ⟨λ_=>?_,λ_=>?_⟩)|(refine ⟨by omega,?_⟩)|(simp (disch:=omega) [zG6,DtId.cells,List.range_succ,zbx,zcm,tupA,noTup,hob,cP])|(intro _)
       all_goals (refine hK _ ?_;clear hK K)
       all_goals
        refine zbr (znk ?_)
        simp (disch:=omega) [zG6,DtId.cells,List.range_succ,zbx,zcm,tupA,noTup,hob,cP]
        all_goals first|(exact zdx (by assumption) (by assumption) hpre)|(exact zfh (λj x h=>hpre j x (by omega))) | trace_state
     ·try simp [zG7,zbe,zbd] at hc3
      all_goals
       refine zbn ?_
       refine zbq ?_
       refine zcc rfl rfl λK hK=>?_
       simp (disch:=omega) [zG6,DtId.cells,List.range_succ,zbx,zcm,tupA,noTup,hob,cP]
       repeat' first|(exfalso;omega)|(refine zlp (hf xs[i] (List.getElem_mem _)) ?_;rintro _ _ ⟨rfl,rfl⟩;try simp (disch:=omega) [zG6,DtId.cells,List.range_succ,zbx,zcm,tupA,noTup,hob,cP])|(refine ⟨λ_=>?_,λ_=>?_⟩)|(refine ⟨by omega,?_⟩)|(simp (disch:=omega) [zG6,DtId.cells,List.range_succ,zbx,zcm,tupA,noTup,hob,cP])|(intro _)
       all_goals (refine hK _ ?_;clear hK K)
       all_goals
        refine ⟨_,LeS.kp [(0,.arr n 0 xs.length),(1,.fn F [] cap),(6,.arr n 0 xs.length),(7,(.g (.int .i64 ((xs.length:Nat))))),(8,(.g (.int .i64 (((i+1):Nat)))))] (by simp [KpE,zbt,zbk,zbp];try rfl),_,?_,i+1,rfl,?_,rfl⟩
        ·omega
        ·refine ⟨by omega,?_⟩;grind
  ·try simp [zG7,zbe,zbd] at hc2
   all_goals
    refine zb3 ?_
    refine zbq ?_
    refine AW_x rfl rfl λK hK=>?_
    simp (disch:=omega) [zG6,DtId.cells,List.range_succ,zbx,zcm,tupA,noTup,hob,cP]
    repeat' first|(exfalso;omega)|(refine zlp (hf xs[i] (List.getElem_mem _)) ?_;rintro _ _ ⟨rfl,rfl⟩;try simp (disch:=omega) [zG6,DtId.cells,List.range_succ,zbx,zcm,tupA,noTup,hob,cP])|(refine ⟨λ_=>?_,λ_=>?_⟩)|(refine ⟨by omega,?_⟩)|(simp (disch:=omega) [zG6,DtId.cells,List.range_succ,zbx,zcm,tupA,noTup,hob,cP])|(intro _)
    all_goals (refine hK _ ?_;clear hK K)
    all_goals
     refine zbr (znk ?_)
     simp (disch:=omega) [zG6,DtId.cells,List.range_succ,zbx,zcm,tupA,noTup,hob,cP]
     all_goals first|(exact zdx (by assumption) (by assumption) hpre)|(exact zfh (λj x h=>hpre j x (by omega))) | trace_state
theorem zj2{α:Type}(q:α→Bool)(l:List α):decide (0≤idxZ q l)=l.any q:=by
 rw [Bool.eq_iff_iff,List.any_eq_true]
 simp only [decide_eq_true_eq]
 unfold idxZ
 split
 ·rename_i i h
  obtain ⟨h1,h2,-⟩:=List.findIdx?_eq_some_iff_getElem.1 h
  exact ⟨λ_=>⟨_,List.getElem_mem h1,h2⟩,λ_=>by omega⟩
 ·rename_i h
  rw [List.findIdx?_eq_none_iff] at h
  refine ⟨λh=>by omega,λ⟨x,hx,hq⟩=>?_⟩
  rw [h x hx] at hq;cases hq
theorem zre{ob:Nat→Option OB}{n:Nat}{F:FuncId}{cap:List AV}{q:List DtId→Bool}(xs:List (List DtId))(hok:ObOk ob)(hob:ob n=some (.win 1 (xs.map cP)))(hn:xs.length≤1048576)(hf:∀p∈xs,∃fs,INL Tryz.prog F fs ob (.sl 2 (p.map DtId.cells) :: cap) (KQ ((.g (.bool (q p)))) (ob))):∃fs,INL Tryz.prog 42 fs ob [.arr n 0 xs.length,.fn F [] cap] (KQ ((.g (.bool (xs.any q)))) (ob)):=by
 refine znj Tryz.func42 (by rfl) (by rfl) (by rw [Tryz.ntmps42];exact Nat.le_of_ble_eq_true rfl) (by rfl) (hok) λfs=>?_
 rw [Tryz.ntmps42]
 refine AW_k [(0,_),(1,_)] ⟨rfl,rfl,trivial⟩ ?_
 refine AW_x rfl rfl λK hK=>?_
 simp (disch:=omega) [zG6,DtId.cells,List.range_succ,zbx,zcm,tupA,noTup,zj2]
 repeat' first|(refine ⟨by omega,?_⟩)|(intro _)
 refine hK _ ?_;clear hK K
 refine AW_x rfl rfl λK hK=>?_
 simp (disch:=omega) [zG6,DtId.cells,List.range_succ,zbx,zcm,tupA,noTup,zj2]
 repeat' first|(exfalso;omega)|(refine zlp (zpw (q:=q) xs hok hob hn hf) ?_;rintro _ _ ⟨rfl,rfl⟩;simp (disch:=omega) [zG6,DtId.cells,List.range_succ,zbx,zcm,tupA,noTup,zj2])|(refine ⟨by omega,?_⟩)|(simp (disch:=omega) [zG6,DtId.cells,List.range_succ,zbx,zcm,tupA,noTup,zj2])|(intro _)
 refine hK _ ?_;clear hK K
 refine zbr (znk ?_)
 simp (disch:=omega) [zG6,DtId.cells,List.range_succ,zbx,zcm,tupA,noTup,zj2]
 all_goals trace_state
theorem parts1{ob:Nat→Option OB}{m:Nat}(x:DtInst)(p:List DtId)(hok:ObOk ob)(hx:ob m=some (.cells (DtInst.cells x)))(hp:p.length≤1048576):∃fs,INL Tryz.prog 43 fs ob [.sl 2 (p.map DtId.cells),.ptr m 0] (KQ ((.g (.bool (decB (x.fId∈p))))) (ob)):=by
 refine znj Tryz.func43 (by rfl) (by rfl) (by rw [Tryz.ntmps43];exact Nat.le_of_ble_eq_true rfl) (by rfl) (hok) λfs=>?_
 rw [Tryz.ntmps43]
 refine AW_k [(0,_),(1,_)] ⟨rfl,rfl,trivial⟩ ?_
 refine AW_x rfl rfl λK hK=>?_
 simp (disch:=omega) [zG6,DtId.cells,List.range_succ,zbx,zcm,tupA,noTup,hx,DtInst.cells,DtCmd.cells]
 repeat' first|(refine ⟨by omega,?_⟩)|(intro _)
 refine hK _ ?_;clear hK K
 refine AW_x rfl rfl λK hK=>?_
 simp (disch:=omega) [zG6,DtId.cells,List.range_succ,zbx,zcm,tupA,noTup,hx,DtInst.cells,DtCmd.cells]
 repeat' first|(exfalso;omega)|(refine zcx (zbc zbw (zbc (zbu rfl) zbi)) (zdy p x.fId hp) rfl ?_;simp (disch:=omega) [zG6,DtId.cells,List.range_succ,zbx,zcm,tupA,noTup,hx,DtInst.cells,DtCmd.cells])|(refine zcy (zdy p x.fId hp) (by rfl) ?_ ?_;(focus (simp (disch:=omega) [zG6,DtId.cells,List.range_succ,zbx,zcm,tupA,noTup,hx,DtInst.cells,DtCmd.cells,zbh];done));simp (disch:=omega) [zG6,DtId.cells,List.range_succ,zbx,zcm,tupA,noTup,hx,DtInst.cells,DtCmd.cells])|(refine ⟨by omega,?_⟩)|(simp (disch:=omega) [zG6,DtId.cells,List.range_succ,zbx,zcm,tupA,noTup,hx,DtInst.cells,DtCmd.cells])|(intro _)
 refine hK _ ?_;clear hK K
 refine zbr (znk ?_)
 simp (disch:=omega) [zG6,DtId.cells,List.range_succ,zbx,zcm,tupA,noTup,hx,DtInst.cells,DtCmd.cells]
 all_goals trace_state
end Go.Proofs.YtodmafgmdlkhoaaGreat.Vs
end
section
open Go Go.Proofs Go.Proofs.YtodmafgmdlkhoaaGreat.Vs
namespace Go.Proofs.YtodmafgmdlkhoaaGreat.Vs
set_option linter.all false
set_option linter.unusedSimpArgs false
set_option linter.unusedVariables false
/-! what hangs on what -/
theorem zdc{a b c:DtId}(h1:idLt a b)(h2:idLt b c):idLt a c:=by unfold idLt at *;omega
theorem zgb(a:DtId):¬idLt a a:=by unfold idLt;omega
theorem zhx{a b:DtId}(h:¬idLt a b)(hne:a≠b):idLt b a:=by
 obtain ⟨r,s⟩:=a;obtain ⟨r',s'⟩:=b
 have:¬(r=r'∧s=s'):=λe=>hne (by rw [e.1,e.2])
 unfold idLt at *
 simp only at *
 omega
abbrev Srt (l:List DtId):Prop:=l.Pairwise idLt
theorem zwu:∀(l:List DtId),(∀(i:Nat) x y,l[i]? = some y→l[i+1]? = some x→idLt y x)→Srt l
 | [],_=>List.Pairwise.nil
 | [a],_=>List.pairwise_singleton _ _
 | a :: b :: l,h=>by
  have ih:=zwu (b :: l) λi x y h1 h2=>h (i+1) x y (by simpa using h1) (by simpa using h2)
  refine List.pairwise_cons.2 ⟨λx hx=>?_,ih⟩
  have hab:idLt a b:=h 0 b a rfl rfl
  rcases List.mem_cons.1 hx with rfl | hx
  ·exact hab
  ·exact zdc hab ((List.pairwise_cons.1 ih).1 x hx)
theorem zhy(l:List DtId):IdsP l↔(∀x∈l,IdP x)∧Srt l:=by
 constructor
 ·intro h
  refine ⟨λx hx=>?_,zwu _ λi x y hy hx=>?_⟩
  ·obtain ⟨i,hi⟩:=List.getElem?_of_mem hx
   exact (h i x hi).1
  ·exact (h (i+1) x hx).2 y (by omega) hy
 ·rintro ⟨h1,h2⟩ i x hx
  refine ⟨h1 x (List.mem_of_getElem? hx),λy hi hy=>?_⟩
  obtain ⟨hk,rfl⟩:=List.getElem?_eq_some_iff.1 hx
  obtain ⟨hj,rfl⟩:=List.getElem?_eq_some_iff.1 hy
  exact List.pairwise_iff_getElem.1 h2 (i-1) i hj hk (by omega)
theorem zwv:∀(a b:List DtId),Srt a→Srt b→(∀x,x∈a↔x∈b)→a=b
 | [],[],_,_,_=>rfl
 | [],y :: b,_,_,h=>absurd ((h y).2 List.mem_cons_self) (by simp)
 | x :: a,[],_,_,h=>absurd ((h x).1 List.mem_cons_self) (by simp)
 | x :: a,y :: b,ha,hb,h=>by
  obtain ⟨ha1,ha2⟩:=List.pairwise_cons.1 ha
  obtain ⟨hb1,hb2⟩:=List.pairwise_cons.1 hb
  have e:x=y:=by
   rcases List.mem_cons.1 ((h x).1 List.mem_cons_self) with e | hx
   ·exact e
   ·rcases List.mem_cons.1 ((h y).2 List.mem_cons_self) with e | hy
    ·exact e.symm
    ·exact absurd (zdc (hb1 x hx) (ha1 y hy)) (zgb _)
  subst e
  congr 1
  refine zwv a b ha2 hb2 λz=>?_
  constructor
  ·intro hz
   rcases List.mem_cons.1 ((h z).1 (List.mem_cons_of_mem _ hz)) with rfl | hz2
   ·exact absurd (ha1 z hz) (zgb _)
   ·exact hz2
  ·intro hz
   rcases List.mem_cons.1 ((h z).2 (List.mem_cons_of_mem _ hz)) with rfl | hz2
   ·exact absurd (hb1 z hz) (zgb _)
   ·exact hz2
theorem zle{l:List DtId}(h:Srt l):l.Nodup:=h.imp λ{a b} h e=>by subst e;exact zgb _ h
def codeN(x:DtId):Nat:=(x.fRep*6+x.fSlot).toNat
theorem zta{x y:DtId}(hx:IdP x)(hy:IdP y)(h:codeN x=codeN y):x=y:=by
 obtain ⟨r,s⟩:=x;obtain ⟨r',s'⟩:=y
 unfold codeN IdP at *
 simp only at *
 have h1:r=r':=by omega
 have h2:s=s':=by omega
 rw [h1,h2]
theorem zww:∀(l m:List Nat),l.Nodup→(∀x∈l,x∈m)→l.length≤m.length
 | [],m,_,_=>by simp
 | a :: l,m,h,hs=>by
  obtain ⟨h1,h2⟩:=List.nodup_cons.1 h
  have ha:=hs a List.mem_cons_self
  have:=zww l (m.erase a) h2 λx hx=>(List.mem_erase_of_ne (λe=>h1 (by rw [←e];exact hx))).2 (hs x (List.mem_cons_of_mem _ hx))
  rw [List.length_erase_of_mem ha] at this
  have hm:0<m.length:=List.length_pos_of_mem ha
  simp only [List.length_cons]
  omega
theorem zjf{l:List DtId}(hn:l.Nodup)(hp:∀x∈l,IdP x):l.length≤18:=by
 have h1:(l.map codeN).Nodup:=by
  refine List.pairwise_iff_getElem.2 λi j hi hj hij e=>?_
  simp only [List.length_map] at hi hj
  simp only [List.getElem_map] at e
  exact List.pairwise_iff_getElem.1 hn i j hi hj hij (zta (hp _ (List.getElem_mem _)) (hp _ (List.getElem_mem _)) e)
 have:=zww (l.map codeN) (List.range' 1 18) h1 λx hx=>by
  obtain ⟨y,hy,rfl⟩:=List.mem_map.1 hx
  have:=hp y hy
  rw [List.mem_range'_1]
  unfold codeN IdP at *
  omega
 simpa using this
noncomputable def depsL(l:List DtInst)(id:DtId):List DtId:=if (instAt l id).fStatus=3 then (instAt l id).fDeps else []
theorem zhd(l:List DtInst)(id:DtId):(instAt l id∈l∧(instAt l id).fId=id)∨instAt l id=zeroInst id:=by
 rcases zrd l id with ⟨i,hi,-,h⟩ | ⟨-,h⟩
 ·refine .inl ⟨h ▸ List.getElem_mem _,?_⟩
  unfold instAt at *
  cases hf:l.find? λx=>eqB x.fId id with
  | none =>
   rw [hf] at h
   rfl
  | some x =>
   have:=List.find?_some hf
   rw [zbe] at this
   exact this
 ·exact .inr h
theorem zfb{l:List DtInst}(h:InstsP l){x:DtInst}(hx:x∈l):InstP x:=by
 obtain ⟨i,hi⟩:=List.getElem?_of_mem hx
 exact (h i x hi).1
theorem zhz{l:List DtInst}(h:InstsP l):Srt (l.map (·.fId)):=by
 refine zwu _ λi x y hy hx=>?_
 rw [List.getElem?_map] at hx hy
 cases h1:l[i]? with
 | none=>rw [h1] at hy;cases hy
 | some a =>
  cases h2:l[i+1]? with
  | none=>rw [h2] at hx;cases hx
  | some b =>
   rw [h1] at hy;rw [h2] at hx
   cases hx;cases hy
   exact (h (i+1) b h2).2 a (by omega) h1
theorem zjg{l:List DtInst}(h:InstsP l)(id:DtId):IdsP (depsL l id):=by
 unfold depsL
 split
 ·rcases zhd l id with ⟨hm,-⟩ | e
  ·have:=zfb h hm
   exact this.2.2.2.2.2.2.2.2.2.2.1
  ·rw [e];intro i x hx;simp [zeroInst] at hx
 ·intro i x hx;simp at hx
/-- What is reached. -/
inductive Rch (l:List DtInst) (a:DtId):DtId→Prop
 | base {b:DtId}:b∈depsL l a→Rch l a b
 | step {b c:DtId}:Rch l a b→c∈depsL l b→Rch l a c
theorem zwx{l:List DtInst}(h:InstsP l){a b:DtId}(hr:Rch l a b):IdP b:=by
 cases hr with
 | base hb=>exact ((zhy _).1 (zjg h a)).1 _ hb
 | step _ hb=>exact ((zhy _).1 (zjg h _)).1 _ hb
theorem tw_imp{α:Type}{p:α→Bool}:∀ {l:List α} {x:α},x∈l.takeWhile p→p x=true
 | [],_,h=>by simp at h
 | a :: l,x,h=>by
  rw [List.takeWhile_cons] at h
  split at h
  ·rename_i ha
   rcases List.mem_cons.1 h with rfl | h
   ·exact ha
   ·exact tw_imp h
  ·simp at h
/-- Two rows that rise, as one. -/
noncomputable def dr1(y:DtId):List DtId→List DtId
 | []=>[]
 | x :: l=>bif eqB x y then l else x :: l
theorem zl7(y x:DtId)(l:List DtId):dr1 y (x :: l)=bif eqB x y then l else x :: l:=by rw [dr1]
theorem dr1_sub(y:DtId)(l:List DtId):(dr1 y l).Sublist l:=by
 cases l with
 | nil=>exact .slnil
 | cons x l =>
  rw [zl7]
  cases eqB x y
  ·exact List.Sublist.refl _
  ·exact List.sublist_cons_self _ _
noncomputable def jn(a:List DtId):List DtId→List DtId
 | []=>a
 | y :: b=>a.takeWhile (λx=>decB (idLt x y))++y :: jn (dr1 y (a.dropWhile λx=>decB (idLt x y))) b
theorem jn_lt{x y:DtId}(h:idLt x y)(a b:List DtId):jn (x :: a) (y :: b)=x :: jn a (y :: b):=by
 have:=zcb h
 simp [jn,this]
theorem jn_ge{x y:DtId}(h:¬idLt x y)(a b:List DtId):jn (x :: a) (y :: b)=y :: jn (dr1 y (x :: a)) b:=by
 have:=zce h
 simp [jn,this]
theorem jn_0(y:DtId)(b:List DtId):jn [] (y :: b)=y :: jn [] b:=by simp [jn,dr1]
theorem jn_n(a:List DtId):jn a []=a:=by rw [jn]
theorem drop_lt{a:List DtId}(ha:Srt a)(y:DtId):∀x∈a.dropWhile (λx=>decB (idLt x y)),¬idLt x y:=by
 induction a with
 | nil=>simp
 | cons z a ih =>
  obtain ⟨h1,h2⟩:=List.pairwise_cons.1 ha
  intro x hx
  rw [List.dropWhile_cons] at hx
  split at hx
  ·exact ih h2 x hx
  ·rename_i hz
   rw [zbb] at hz
   rcases List.mem_cons.1 hx with rfl | hx
   ·exact hz
   ·exact λhxy=>hz (zdc (h1 x hx) hxy)
theorem drop_eq{a:List DtId}(ha:Srt a)(y:DtId)(hy:∀x∈a,¬idLt x y):(∀x∈dr1 y a,idLt y x)∧∀x∈a,x=y∨x∈dr1 y a:=by
 cases a with
 | nil=>simp [dr1]
 | cons z a =>
  obtain ⟨h1,h2⟩:=List.pairwise_cons.1 ha
  rw [zl7]
  by_cases e:z=y
  ·subst e
   rw [zl1]
   exact ⟨λx hx=>h1 x hx,λx hx=>List.mem_cons.1 hx⟩
  ·rw [zf9 e]
   have hz:=zhx (hy z List.mem_cons_self) e
   refine ⟨λx hx=>?_,λx hx=>.inr hx⟩
   rcases List.mem_cons.1 hx with rfl | hx
   ·exact hz
   ·exact zdc hz (h1 x hx)
theorem zrf:∀(b a:List DtId),Srt a→Srt b→Srt (jn a b)∧∀x,x∈jn a b↔x∈a∨x∈b
 | [],a,ha,_=>⟨ha,λx=>by simp [jn]⟩
 | y :: b,a,ha,hb=>by
  obtain ⟨hb1,hb2⟩:=List.pairwise_cons.1 hb
  have hd1:=drop_lt ha y
  have hsd:Srt (a.dropWhile λx=>decB (idLt x y)):=ha.sublist (List.dropWhile_sublist _)
  obtain ⟨he1,he2⟩:=drop_eq hsd y hd1
  have hse:Srt (dr1 y (a.dropWhile λx=>decB (idLt x y))):=hsd.sublist (dr1_sub _ _)
  obtain ⟨h1,h2⟩:=zrf b _ hse hb2
  have ht:∀x∈a.takeWhile (λx=>decB (idLt x y)),idLt x y:=λx hx=>by
   have:=tw_imp hx
   rwa [zbb] at this
  have hall:∀x∈jn (dr1 y (a.dropWhile λx=>decB (idLt x y))) b,idLt y x:=λx hx=>by
   rcases (h2 x).1 hx with hx | hx
   ·exact he1 x hx
   ·exact hb1 x hx
  refine ⟨?_,λx=>?_⟩
  ·rw [jn]
   refine List.pairwise_append.2 ⟨ha.sublist (List.takeWhile_sublist _),List.pairwise_cons.2 ⟨hall,h1⟩,λu hu v hv=>?_⟩
   rcases List.mem_cons.1 hv with rfl | hv
   ·exact ht u hu
   ·exact zdc (ht u hu) (hall v hv)
  ·rw [jn,List.mem_append,List.mem_cons,h2,List.mem_cons]
   constructor
   ·rintro (hx | rfl | hx | hx)
    ·exact .inl ((List.takeWhile_sublist _).subset hx)
    ·exact .inr (.inl rfl)
    ·exact .inl ((List.dropWhile_sublist _).subset ((dr1_sub _ _).subset hx))
    ·exact .inr (.inr hx)
   ·rintro (hx | rfl | hx)
    ·have:=List.takeWhile_append_dropWhile (p:=λx=>decB (idLt x y)) (l:=a)
     rw [←this,List.mem_append] at hx
     rcases hx with hx | hx
     ·exact .inl hx
     ·rcases he2 x hx with rfl | hx
      ·exact .inr (.inl rfl)
      ·exact .inr (.inr (.inl hx))
    ·exact .inr (.inl rfl)
    ·exact .inr (.inr (.inr hx))
noncomputable def rndL(l:List DtInst)(out:List DtId):List DtId:=out.foldl (λnx x=>jn nx (depsL l x)) out
noncomputable def rchL(l:List DtInst):Nat→List DtId→List DtId
 | 0,out=>out
 | r+1,out=>if (rndL l out).length=out.length then out else rchL l r (rndL l out)
noncomputable def reachL(l:List DtInst)(id:DtId):List DtId:=rchL l 18 (jn [] (depsL l id))
theorem rndL_spec{l:List DtInst}(h:InstsP l){out:List DtId}(hs:Srt out):Srt (rndL l out)∧∀x,x∈rndL l out↔x∈out∨∃y∈out,x∈depsL l y:=by
 have key:∀(ys nx:List DtId),Srt nx→Srt (ys.foldl (λnx x=>jn nx (depsL l x)) nx)∧∀x,x∈ys.foldl (λnx x=>jn nx (depsL l x)) nx↔x∈nx∨∃y∈ys,x∈depsL l y:=by
  intro ys
  induction ys with
  | nil=>intro nx hn;exact ⟨hn,λx=>by simp⟩
  | cons y ys ih =>
   intro nx hn
   obtain ⟨h1,h2⟩:=zrf (depsL l y) nx hn ((zhy _).1 (zjg h y)).2
   obtain ⟨h3,h4⟩:=ih _ h1
   refine ⟨h3,λx=>?_⟩
   rw [List.foldl_cons,h4,h2]
   simp only [List.mem_cons,exists_eq_or_imp,or_assoc]
 exact key out out hs
theorem sub_eq{a b:List DtId}(ha:Srt a)(hb:Srt b)(h:∀x∈a,x∈b)(hl:b.length=a.length):a=b:=by
 refine zwv a b ha hb λx=>⟨h x,λhx=>?_⟩
 refine Classical.byContradiction λhn=>?_
 have key:∀(a b:List DtId),a.Nodup→(∀x∈a,x∈b)→a.length≤b.length:=by
  intro a
  induction a with
  | nil=>intro b _ _;simp
  | cons z a ih =>
   intro b hn hs
   obtain ⟨h1,h2⟩:=List.nodup_cons.1 hn
   obtain ⟨s,t,rfl⟩:=List.append_of_mem (hs z List.mem_cons_self)
   have:=ih (s++t) h2 λx hx=>by
    have:=hs x (List.mem_cons_of_mem _ hx)
    simp only [List.mem_append,List.mem_cons] at this ⊢
    rcases this with h | rfl | h
    ·exact .inl h
    ·exact absurd hx h1
    ·exact .inr h
   simp at this ⊢
   omega
 obtain ⟨s,t,rfl⟩:=List.append_of_mem hx
 have:=key a (s++t) (zle ha) λz hz=>by
  have:=h z hz
  simp only [List.mem_append,List.mem_cons] at this ⊢
  rcases this with h | rfl | h
  ·exact .inl h
  ·exact absurd hz hn
  ·exact .inr h
 simp at this hl
 omega
theorem zc3{l:List DtInst}(h:InstsP l)(id:DtId):Srt (reachL l id)∧∀x,x∈reachL l id↔Rch l id x:=by
 have hd0:=(zhy _).1 (zjg h id)
 have hj:=zrf (depsL l id) [] List.Pairwise.nil hd0.2
 have key:∀(r:Nat) (out:List DtId),Srt out→(∀x∈out,Rch l id x)→(∀x∈depsL l id,x∈out)→(out=[]∨19≤out.length+r)→0<r→Srt (rchL l r out)∧(∀x∈rchL l r out,Rch l id x)∧(∀x∈depsL l id,x∈rchL l r out)∧∀y∈rchL l r out,∀x∈depsL l y,x∈rchL l r out:=by
  intro r
  induction r with
  | zero=>intro out _ _ _ _ h0;omega
  | succ r ih =>
   intro out hs hR hD hl _
   obtain ⟨h1,h2⟩:=rndL_spec h hs
   rw [rchL]
   split
   ·rename_i he
    have e:=sub_eq hs h1 (λx hx=>(h2 x).2 (.inl hx)) he
    refine ⟨hs,hR,hD,λy hy x hx=>?_⟩
    rw [e]
    exact (h2 x).2 (.inr ⟨y,hy,hx⟩)
   ·rename_i he
    have hle:out.length≤(rndL l out).length:=by
     have:out.length≤(rndL l out).length∨(rndL l out).length<out.length:=by omega
     rcases this with h | h5
     ·exact h
     ·exfalso
      have hnd:=zle hs
      have:=zww (out.map codeN) ((rndL l out).map codeN) (by
       refine List.pairwise_iff_getElem.2 λi j hi hj hij e=>?_
       simp only [List.length_map] at hi hj
       simp only [List.getElem_map] at e
       exact List.pairwise_iff_getElem.1 hnd i j hi hj hij (zta (zwx h (hR _ (List.getElem_mem _))) (zwx h (hR _ (List.getElem_mem _))) e)) λx hx=>by
        obtain ⟨y,hy,rfl⟩:=List.mem_map.1 hx
        exact List.mem_map_of_mem ((h2 y).2 (.inl hy))
      simp at this
      omega
    have hR2:∀x∈rndL l out,Rch l id x:=λx hx=>by
     rcases (h2 x).1 hx with hx | ⟨y,hy,hx⟩
     ·exact hR x hx
     ·exact .step (hR y hy) hx
    have h18:=zjf (zle h1) λx hx=>zwx h (hR2 x hx)
    have hne:out≠[]:=by
     rintro rfl
     exact he (by simp [rndL])
    have hpos:0<out.length:=List.length_pos_iff.2 hne
    have hl2:=hl.resolve_left hne
    exact ih _ h1 hR2 (λx hx=>(h2 x).2 (.inl (hD x hx))) (.inr (by omega)) (by omega)
 obtain ⟨k1,k2,k3,k4⟩:=key 18 (jn [] (depsL l id)) hj.1 (λx hx=>by
  rcases (hj.2 x).1 hx with hx | hx
  ·simp at hx
  ·exact .base hx) (λx hx=>(hj.2 x).2 (.inr hx)) (by
  rcases Nat.eq_zero_or_pos (jn [] (depsL l id)).length with h0 | h0
  ·exact .inl (List.length_eq_zero_iff.1 h0)
  ·exact .inr (by omega)) (by omega)
 refine ⟨k1,λx=>⟨k2 x,λhr=>?_⟩⟩
 induction hr with
 | base hb=>exact k3 _ hb
 | step _ hb ih=>exact k4 _ ih _ hb
theorem ztb{l:List DtInst}(h:InstsP l){i:Nat}(hi:i<l.length):instAt l l[i].fId=l[i]:=by
 refine zhb hi rfl λj x hj hx e=>?_
 obtain ⟨hk,rfl⟩:=List.getElem?_eq_some_iff.1 hx
 have hs:=zhz h
 have:=List.pairwise_iff_getElem.1 hs j i (by simpa using hk) (by simpa using hi) hj
 simp only [List.getElem_map] at this
 rw [e] at this
 exact zgb _ this
theorem zrg{l:List DtInst}(h:InstsP l)(id:DtId):(cAt l id<0∧cAt l id = -1∧(instAt l id).fStatus≠3)∨∃i,∃hi:i<l.length,cAt l id=i∧l[i].fId=id∧l[i].fStatus=3∧instAt l id=l[i]:=by
 unfold cAt idxZ
 cases hf:l.findIdx? (λx=>eqB x.fId id&&decide (x.fStatus=3)) with
 | none =>
  refine .inl ⟨by simp,rfl,λh3=>?_⟩
  rw [List.findIdx?_eq_none_iff] at hf
  rcases zhd l id with ⟨hm,he⟩ | e
  ·have:=hf _ hm
   rw [he,zl1,h3] at this
   simp at this
  ·rw [e] at h3;simp [zeroInst] at h3
 | some i =>
  obtain ⟨h1,h2,-⟩:=List.findIdx?_eq_some_iff_getElem.1 hf
  rw [Bool.and_eq_true,zbe,decide_eq_true_eq] at h2
  refine .inr ⟨i,h1,rfl,h2.1,h2.2,?_⟩
  have:=ztb h h1
  rwa [h2.1] at this
end Go.Proofs.YtodmafgmdlkhoaaGreat.Vs
end
section
open Go Go.Proofs Go.Proofs.YtodmafgmdlkhoaaGreat.Vs
namespace Go.Proofs.YtodmafgmdlkhoaaGreat.Vs
set_option linter.all false
set_option linter.unusedSimpArgs false
set_option linter.unusedVariables false
set_option maxRecDepth 100000
theorem jn_stop(a b:List DtId)(i j:Nat)(hj:j<b.length)(hn:∀h:i<a.length,¬idLt a[i] b[j]):(∀h:i<a.length,(a[i].fRep=b[j].fRep∧a[i].fSlot=b[j].fSlot)→jn (a.drop i) (b.drop j)=b[j] :: jn (a.drop (i+1)) (b.drop (j+1)))∧((∀h:i<a.length,¬(a[i].fRep=b[j].fRep∧a[i].fSlot=b[j].fSlot))→jn (a.drop i) (b.drop j)=b[j] :: jn (a.drop i) (b.drop (j+1))):=by
 have e2:=List.drop_eq_getElem_cons hj
 constructor
 ·intro h e
  rw [List.drop_eq_getElem_cons h,e2,jn_ge (hn h),zl7,zld ((zd4 _ _).mpr e)]
  rfl
 ·intro h
  by_cases hi:i<a.length
  ·rw [List.drop_eq_getElem_cons hi,e2,jn_ge (hn hi),zl7,zf9 (λe=>h hi ((zd4 _ _).mp e))]
   rfl
  ·rw [List.drop_of_length_le (by omega),e2,jn_0]
theorem jn_go(a b:List DtId)(i j:Nat)(hi:i<a.length)(hj:j<b.length)(h:idLt a[i] b[j]):jn (a.drop i) (b.drop j)=a[i] :: jn (a.drop (i+1)) (b.drop j):=by
 rw [List.drop_eq_getElem_cons hi,List.drop_eq_getElem_cons hj,jn_lt h]
theorem zfm(a b:List DtId)(ha:a.length≤1000)(hb:b.length≤1000):PCall Tryz.prog 147 [.sl 2 (a.map DtId.cells),.sl 2 (b.map DtId.cells)] (.sl 2 ((jn a b).map DtId.cells)):=by
 refine zbo Tryz.func147 (by rfl) (by rfl) (by rw [Tryz.ntmps147];exact Nat.le_of_ble_eq_true rfl) rfl (by decide) ?_
 rw [Tryz.ntmps147]
 refine AW_k [(0,_),(1,_)] ⟨rfl,rfl,trivial⟩ ?_
 refine AW_r rfl rfl λK hK=>?_
 simp (disch:=omega) [zG6,DtId.cells,zbs,aNews,aAppend,aBuildSlice,chunks,tkm,zbh]
 repeat' first|(simp (disch:=omega) only [gE];try simp (disch:=omega) [zG6,DtId.cells,zbs,aNews,aAppend,aBuildSlice,chunks,tkm,zbh])|(refine ⟨by omega,?_⟩)|(intro _)
 refine hK _ ?_;clear hK K
 refine AW_r rfl rfl λK hK=>?_
 simp (disch:=omega) [zG6,DtId.cells,zbs,aNews,aAppend,aBuildSlice,chunks,tkm,zbh]
 repeat' first|(simp (disch:=omega) only [gE];try simp (disch:=omega) [zG6,DtId.cells,zbs,aNews,aAppend,aBuildSlice,chunks,tkm,zbh])|(refine ⟨by omega,?_⟩)|(intro _)
 refine hK _ ?_;clear hK K
 refine AW_r rfl rfl λK hK=>?_
 simp (disch:=omega) [zG6,DtId.cells,zbs,aNews,aAppend,aBuildSlice,chunks,tkm,zbh]
 repeat' first|(simp (disch:=omega) only [gE];try simp (disch:=omega) [zG6,DtId.cells,zbs,aNews,aAppend,aBuildSlice,chunks,tkm,zbh])|(refine ⟨by omega,?_⟩)|(intro _)
 refine hK _ ?_;clear hK K
 refine zbj ?_
 refine AW_r rfl rfl λK hK=>?_
 simp (disch:=omega) [zG6,DtId.cells,zbs,aNews,aAppend,aBuildSlice,chunks,tkm,zbh]
 repeat' first|(simp (disch:=omega) only [gE];try simp (disch:=omega) [zG6,DtId.cells,zbs,aNews,aAppend,aBuildSlice,chunks,tkm,zbh])|(refine ⟨by omega,?_⟩)|(intro _)
 refine hK _ ?_;clear hK K
 refine zbl ?_
 refine zby (λmM sS=>∃(j:Nat) (i:Nat) (o:List DtId),mM=b.length-j∧(j≤b.length∧i≤a.length∧o.length≤i+j∧o++jn (a.drop i) (b.drop j)=jn a b)∧sS = { env:=lkE [(0,.sl 2 (a.map DtId.cells)),(1,.sl 2 (b.map DtId.cells)),(5,.arr 144 0 o.length),(6,(.g (.int .i64 ((i:Nat))))),(7,(.g (.int .i64 ((j:Nat)))))],ob:=lk [(144,.flat 2 (o.map DtId.cells))] }) ?_ ?_
 ·refine ⟨_,LeS.kr [(144,144)] [(0,.sl 2 (a.map DtId.cells)),(1,.sl 2 (b.map DtId.cells)),(5,.arr 144 0 ([]).length),(6,(.g (.int .i64 (((0):Nat))))),(7,(.g (.int .i64 (((0):Nat)))))] [(144,.flat 2 (([]).map DtId.cells))] (by simp [zG8,KpR,renV2,renV,zbk,DtId.cells];try rfl) (by simp [zG8,KpOR,renO,renV,zca,DtId.cells];try (simp [DtId.cells];done)) (by rfl) (by rfl) (by simp) (by simp) (by rfl) (by simp [forms]),_,0,0,[],rfl,?_,rfl⟩
  ·try simp
 ·rintro mM sS ⟨j,i,o,rfl,⟨hj,hi,hol,hjn⟩,rfl⟩
  refine zbj ?_
  refine AW_r rfl rfl λK hK=>?_
  simp (disch:=omega) [zG6,DtId.cells,zbs,aNews,aAppend,aBuildSlice,chunks,tkm,zbh]
  repeat' first|(simp (disch:=omega) only [gE];try simp (disch:=omega) [zG6,DtId.cells,zbs,aNews,aAppend,aBuildSlice,chunks,tkm,zbh])|(refine ⟨by omega,?_⟩)|(intro _)
  refine hK _ ?_;clear hK K
  refine zbm rfl (λhc1=>?_) (λhc1=>?_)
  ·try simp [zG7,zbe,zbd] at hc1
   all_goals
    refine zbn ?_
    refine zbq ?_
    refine zbj ?_
    refine zbl ?_
    refine zbj ?_
    refine zbl ?_
    refine zby (λmM sS=>∃(i2:Nat) (o2:List DtId),mM=a.length-i2∧(i2≤a.length∧o2.length≤i2+j∧o2++jn (a.drop i2) (b.drop j)=jn a b)∧sS = { env:=lkE [(0,.sl 2 (a.map DtId.cells)),(1,.sl 2 (b.map DtId.cells)),(5,.arr 144 0 o2.length),(6,(.g (.int .i64 ((i2:Nat))))),(7,(.g (.int .i64 ((j:Nat)))))],ob:=lk [(144,.flat 2 (o2.map DtId.cells))] }) ?_ ?_
    ·refine ⟨_,LeS.kr [(144,144)] [(0,.sl 2 (a.map DtId.cells)),(1,.sl 2 (b.map DtId.cells)),(5,.arr 144 0 (o).length),(6,(.g (.int .i64 (((i):Nat))))),(7,(.g (.int .i64 ((j:Nat)))))] [(144,.flat 2 ((o).map DtId.cells))] (by simp [zG8,KpR,renV2,renV,zbk,DtId.cells];try rfl) (by simp [zG8,KpOR,renO,renV,zca,DtId.cells];try (simp [DtId.cells];done)) (by rfl) (by rfl) (by simp) (by simp) (by rfl) (by simp [forms]),_,i,o,rfl,?_,rfl⟩
     ·exact ⟨hi,hol,hjn⟩
    ·rintro mM sS ⟨i2,o2,rfl,⟨hi2,ho2,hj2⟩,rfl⟩
     refine zbj ?_
     refine AW_q rfl mix (by kernel_rfl) rfl λK hK=>?_
     simp (disch:=omega) [zG6,DtId.cells,zbs,aNews,aAppend,aBuildSlice,chunks,tkm,zbh]
     repeat' first|(exfalso;omega)|(simp (disch:=omega) only [gE];try simp (disch:=omega) [zG6,DtId.cells,zbs,aNews,aAppend,aBuildSlice,chunks,tkm,zbh])|(refine zcg (zbc (zbu rfl) (zbc (zbu rfl) zbi)) (zs9 _ _) rfl ?_;simp (disch:=omega) [zG6,DtId.cells,zbs,aNews,aAppend,aBuildSlice,chunks,tkm,zbh])|(refine ⟨λ_=>?_,λ_=>?_⟩)|(refine ⟨by omega,?_⟩)|(intro _)
     all_goals (refine hK _ ?_;clear hK K)
     all_goals
      refine zbm rfl (λhc2=>?_) (λhc2=>?_)
      ·try simp [zG7,zbe,zbd] at hc2
       all_goals
        refine zbn ?_
        refine zbq ?_
        refine zbl ?_
        refine AW_r rfl rfl λK hK=>?_
        simp (disch:=omega) [zG6,DtId.cells,zbs,aNews,aAppend,aBuildSlice,chunks,tkm,zbh]
        repeat' first|(exfalso;omega)|(simp (disch:=omega) only [gE];try simp (disch:=omega) [zG6,DtId.cells,zbs,aNews,aAppend,aBuildSlice,chunks,tkm,zbh])|(refine ⟨λ_=>?_,λ_=>?_⟩)|(refine ⟨by omega,?_⟩)|(intro _)
        all_goals (refine hK _ ?_;clear hK K)
        all_goals
         refine zc8 rfl rfl λK hK=>?_
         simp (disch:=omega) [zG6,DtId.cells,zbs,aNews,aAppend,aBuildSlice,chunks,tkm,zbh]
         repeat' first|(simp (disch:=omega) only [gE];try simp (disch:=omega) [zG6,DtId.cells,zbs,aNews,aAppend,aBuildSlice,chunks,tkm,zbh])|(refine ⟨by omega,?_⟩)|(intro _)
         refine hK _ ?_;clear hK K
         refine ⟨_,LeS.kr [(144,592)] [(0,.sl 2 (a.map DtId.cells)),(1,.sl 2 (b.map DtId.cells)),(5,.arr 144 0 (o2++[a[i2]]).length),(6,(.g (.int .i64 (((i2+1):Nat))))),(7,(.g (.int .i64 ((j:Nat)))))] [(144,.flat 2 ((o2++[a[i2]]).map DtId.cells))] (by simp [zG8,KpR,renV2,renV,zbk,DtId.cells];try rfl) (by simp [zG8,KpOR,renO,renV,zca,DtId.cells];try (simp [DtId.cells];done)) (by rfl) (by rfl) (by simp) (by simp) (by rfl) (by simp [forms]),_,?_,i2+1,o2++[a[i2]],rfl,?_,rfl⟩
         ·omega
         ·refine ⟨by omega,by simp;omega,?_⟩;rw [←hj2,jn_go a b i2 j (by omega) (by omega) (by assumption)];simp
      ·try simp [zG7,zbe,zbd] at hc2
       all_goals
        have hs:=jn_stop a b i2 j (by omega) (λh=>by first|(exfalso;omega) | assumption)
        refine zb3 ?_
        refine zbq ?_
        refine zbj ?_
        refine AW_q rfl mix (by kernel_rfl) rfl λK hK=>?_
        simp (disch:=omega) [zG6,DtId.cells,zbs,aNews,aAppend,aBuildSlice,chunks,tkm,zbh]
        repeat' first|(exfalso;omega)|(simp (disch:=omega) only [gE];try simp (disch:=omega) [zG6,DtId.cells,zbs,aNews,aAppend,aBuildSlice,chunks,tkm,zbh])|(refine ⟨λ_=>?_,λ_=>?_⟩)|(refine ⟨by omega,?_⟩)|(intro _)
        all_goals (refine hK _ ?_;clear hK K)
        all_goals
         refine zbm rfl (λhc3=>?_) (λhc3=>?_)
         ·try simp [zG7,zbe,zbd] at hc3
          all_goals
           refine zc8 rfl rfl λK hK=>?_
           simp (disch:=omega) [zG6,DtId.cells,zbs,aNews,aAppend,aBuildSlice,chunks,tkm,zbh]
           repeat' first|(exfalso;omega)|(simp (disch:=omega) only [gE];try simp (disch:=omega) [zG6,DtId.cells,zbs,aNews,aAppend,aBuildSlice,chunks,tkm,zbh])|(refine ⟨λ_=>?_,λ_=>?_⟩)|(refine ⟨by omega,?_⟩)|(intro _)
           all_goals (refine hK _ ?_;clear hK K)
           all_goals
            refine zbq ?_
            refine zc8 rfl rfl λK hK=>?_
            simp (disch:=omega) [zG6,DtId.cells,zbs,aNews,aAppend,aBuildSlice,chunks,tkm,zbh]
            repeat' first|(simp (disch:=omega) only [gE];try simp (disch:=omega) [zG6,DtId.cells,zbs,aNews,aAppend,aBuildSlice,chunks,tkm,zbh])|(refine ⟨by omega,?_⟩)|(intro _)
            refine hK _ ?_;clear hK K
            refine zbq ?_
            refine zc8 rfl rfl λK hK=>?_
            simp (disch:=omega) [zG6,DtId.cells,zbs,aNews,aAppend,aBuildSlice,chunks,tkm,zbh]
            repeat' first|(simp (disch:=omega) only [gE];try simp (disch:=omega) [zG6,DtId.cells,zbs,aNews,aAppend,aBuildSlice,chunks,tkm,zbh])|(refine ⟨by omega,?_⟩)|(intro _)
            refine hK _ ?_;clear hK K
            refine ⟨_,LeS.kr [(144,1008)] [(0,.sl 2 (a.map DtId.cells)),(1,.sl 2 (b.map DtId.cells)),(5,.arr 144 0 (o2++[b[j]]).length),(6,(.g (.int .i64 (((i2+1):Nat))))),(7,(.g (.int .i64 (((j+1):Nat)))))] [(144,.flat 2 ((o2++[b[j]]).map DtId.cells))] (by simp [zG8,KpR,renV2,renV,zbk,DtId.cells];try rfl) (by simp [zG8,KpOR,renO,renV,zca,DtId.cells];try (simp [DtId.cells];done)) (by rfl) (by rfl) (by simp) (by simp) (by rfl) (by simp [forms]),_,?_,j+1,i2+1,o2++[b[j]],rfl,?_,rfl⟩
            ·omega
            ·refine ⟨by omega,by omega,by simp;omega,?_⟩;rw [←hj2];first|(rw [hs.1 (by omega) (by grind)];simp;done)|(rw [hs.2 (λh=>by first|(exfalso;omega) | grind)];simp;done)
         ·try simp [zG7,zbe,zbd] at hc3
          all_goals
           refine zbn ?_
           refine zbq ?_
           refine zc8 rfl rfl λK hK=>?_
           simp (disch:=omega) [zG6,DtId.cells,zbs,aNews,aAppend,aBuildSlice,chunks,tkm,zbh]
           repeat' first|(exfalso;omega)|(simp (disch:=omega) only [gE];try simp (disch:=omega) [zG6,DtId.cells,zbs,aNews,aAppend,aBuildSlice,chunks,tkm,zbh])|(refine ⟨λ_=>?_,λ_=>?_⟩)|(refine ⟨by omega,?_⟩)|(intro _)
           all_goals (refine hK _ ?_;clear hK K)
           all_goals
            refine zbq ?_
            refine zc8 rfl rfl λK hK=>?_
            simp (disch:=omega) [zG6,DtId.cells,zbs,aNews,aAppend,aBuildSlice,chunks,tkm,zbh]
            repeat' first|(simp (disch:=omega) only [gE];try simp (disch:=omega) [zG6,DtId.cells,zbs,aNews,aAppend,aBuildSlice,chunks,tkm,zbh])|(refine ⟨by omega,?_⟩)|(intro _)
            refine hK _ ?_;clear hK K
            refine ⟨_,LeS.kr [(144,1008)] [(0,.sl 2 (a.map DtId.cells)),(1,.sl 2 (b.map DtId.cells)),(5,.arr 144 0 (o2++[b[j]]).length),(6,(.g (.int .i64 (((i2):Nat))))),(7,(.g (.int .i64 (((j+1):Nat)))))] [(144,.flat 2 ((o2++[b[j]]).map DtId.cells))] (by simp [zG8,KpR,renV2,renV,zbk,DtId.cells];try rfl) (by simp [zG8,KpOR,renO,renV,zca,DtId.cells];try (simp [DtId.cells];done)) (by rfl) (by rfl) (by simp) (by simp) (by rfl) (by simp [forms]),_,?_,j+1,i2,o2++[b[j]],rfl,?_,rfl⟩
            ·omega
            ·refine ⟨by omega,by omega,by simp;omega,?_⟩;rw [←hj2];first|(rw [hs.1 (by omega) (by grind)];simp;done)|(rw [hs.2 (λh=>by first|(exfalso;omega) | grind)];simp;done)
  ·try simp [zG7,zbe,zbd] at hc1
   all_goals
    refine zb3 ?_
    refine zbq ?_
    refine AW_r rfl rfl λK hK=>?_
    simp (disch:=omega) [zG6,DtId.cells,zbs,aNews,aAppend,aBuildSlice,chunks,tkm,zbh]
    repeat' first|(exfalso;omega)|(simp (disch:=omega) only [gE];try simp (disch:=omega) [zG6,DtId.cells,zbs,aNews,aAppend,aBuildSlice,chunks,tkm,zbh])|(refine ⟨λ_=>?_,λ_=>?_⟩)|(refine ⟨by omega,?_⟩)|(intro _)
    all_goals (refine hK _ ?_;clear hK K)
    all_goals
     refine zbr (zb6 ?_)
     simp (disch:=omega) [zG6,DtId.cells,zbs,aNews,aAppend,aBuildSlice,chunks,tkm,zbh]
     all_goals ((have e:j=b.length:=by omega);subst e;rw [List.drop_length,jn_n] at hjn;rw [←hjn];simp [List.take_of_length_le])
end Go.Proofs.YtodmafgmdlkhoaaGreat.Vs
end
section
open Go Go.Proofs Go.Proofs.YtodmafgmdlkhoaaGreat.Vs
namespace Go.Proofs.YtodmafgmdlkhoaaGreat.Vs
set_option linter.all false
set_option linter.unusedSimpArgs false
set_option linter.unusedVariables false
set_option maxRecDepth 100000
theorem zk1{l:List DtInst}{id:DtId}(h:(instAt l id).fStatus≠3):depsL l id=[]:=by
 unfold depsL;rw [if_neg h]
theorem depsL_some{l:List DtInst}{id:DtId}{x:DtInst}(h:instAt l id=x)(h3:x.fStatus=3):depsL l id=x.fDeps:=by
 unfold depsL;rw [h,if_pos h3]
theorem zcl{l:List DtInst}(h:InstsP l)(id:DtId):(depsL l id).length≤18:=by
 have:=(zhy _).1 (zjg h id)
 exact zjf (zle this.2) this.1
theorem zwy(l:List DtInst)(id:DtId)(hn:l.length≤1048576)(hp:InstsP l):PCall Tryz.prog 128 [.sl 16 (l.map DtInst.cells),.agg (DtId.cells id)] (.sl 2 ((depsL l id).map DtId.cells)):=by
 rcases zrg hp id with ⟨h1,h2,h3⟩ | ⟨i,hi,h1,h2,h3,h4⟩
 ·have hd:=zk1 h3
  refine zbo Tryz.func128 (by rfl) (by rfl) (by rw [Tryz.ntmps128];exact Nat.le_of_ble_eq_true rfl) rfl (by decide) ?_
  rw [Tryz.ntmps128]
  refine AW_k [(0,_),(1,_)] ⟨rfl,rfl,trivial⟩ ?_
  refine AW_r rfl rfl λK hK=>?_
  simp (disch:=omega) [zG6,DtInst.cells,DtCmd.cells,DtId.cells,h2,hd]
  repeat' first|(refine ⟨by omega,?_⟩)|(intro _)
  refine hK _ ?_;clear hK K
  refine AW_r rfl rfl λK hK=>?_
  simp (disch:=omega) [zG6,DtInst.cells,DtCmd.cells,DtId.cells,h2,hd]
  repeat' first|(exfalso;omega)|(refine zcg (zbc zbw (zbc (zbu rfl) zbi)) (zhc _ _ (by assumption)) rfl ?_;simp (disch:=omega) [zG6,DtInst.cells,DtCmd.cells,DtId.cells,h2,hd])|(refine ⟨by omega,?_⟩)|(intro _)
  refine hK _ ?_;clear hK K
  refine zbj ?_
  refine AW_r rfl rfl λK hK=>?_
  simp (disch:=omega) [zG6,DtInst.cells,DtCmd.cells,DtId.cells,h2,hd]
  repeat' first|(refine ⟨by omega,?_⟩)|(intro _)
  refine hK _ ?_;clear hK K
  refine zbm rfl (λhc1=>?_) (λhc1=>?_)
  ·try simp [zG7,zbe,zbd] at hc1
   all_goals
    refine AW_r rfl rfl λK hK=>?_
    simp (disch:=omega) [zG6,DtInst.cells,DtCmd.cells,DtId.cells,h2,hd]
    repeat' first|(exfalso;omega)|(refine ⟨λ_=>?_,λ_=>?_⟩)|(refine ⟨by omega,?_⟩)|(intro _)
    all_goals (refine hK _ ?_;clear hK K)
    all_goals
     refine zbr (zb6 ?_)
     simp (disch:=omega) [zG6,DtInst.cells,DtCmd.cells,DtId.cells,h2,hd]
     all_goals simp
  ·try simp [zG7,zbe,zbd] at hc1
   all_goals
    refine zbn ?_
    refine zbq ?_
    refine AW_r rfl rfl λK hK=>?_
    simp (disch:=omega) [zG6,DtInst.cells,DtCmd.cells,DtId.cells,h2,hd]
    repeat' first|(exfalso;omega)|(refine ⟨λ_=>?_,λ_=>?_⟩)|(refine ⟨by omega,?_⟩)|(intro _)
    all_goals (refine hK _ ?_;clear hK K)
    all_goals
     refine zbr (zb6 ?_)
     simp (disch:=omega) [zG6,DtInst.cells,DtCmd.cells,DtId.cells,h2,hd]
     all_goals simp
 ·have hd:=depsL_some h4 h3
  refine zbo Tryz.func128 (by rfl) (by rfl) (by rw [Tryz.ntmps128];exact Nat.le_of_ble_eq_true rfl) rfl (by decide) ?_
  rw [Tryz.ntmps128]
  refine AW_k [(0,_),(1,_)] ⟨rfl,rfl,trivial⟩ ?_
  refine AW_r rfl rfl λK hK=>?_
  simp (disch:=omega) [zG6,DtInst.cells,DtCmd.cells,DtId.cells,h1,hd]
  repeat' first|(refine ⟨by omega,?_⟩)|(intro _)
  refine hK _ ?_;clear hK K
  refine AW_r rfl rfl λK hK=>?_
  simp (disch:=omega) [zG6,DtInst.cells,DtCmd.cells,DtId.cells,h1,hd]
  repeat' first|(exfalso;omega)|(refine zcg (zbc zbw (zbc (zbu rfl) zbi)) (zhc _ _ (by assumption)) rfl ?_;simp (disch:=omega) [zG6,DtInst.cells,DtCmd.cells,DtId.cells,h1,hd])|(refine ⟨by omega,?_⟩)|(intro _)
  refine hK _ ?_;clear hK K
  refine zbj ?_
  refine AW_r rfl rfl λK hK=>?_
  simp (disch:=omega) [zG6,DtInst.cells,DtCmd.cells,DtId.cells,h1,hd]
  repeat' first|(refine ⟨by omega,?_⟩)|(intro _)
  refine hK _ ?_;clear hK K
  refine zbm rfl (λhc2=>?_) (λhc2=>?_)
  ·try simp [zG7,zbe,zbd] at hc2
   all_goals
    refine AW_r rfl rfl λK hK=>?_
    simp (disch:=omega) [zG6,DtInst.cells,DtCmd.cells,DtId.cells,h1,hd]
    repeat' first|(exfalso;omega)|(refine ⟨λ_=>?_,λ_=>?_⟩)|(refine ⟨by omega,?_⟩)|(intro _)
    all_goals (refine hK _ ?_;clear hK K)
    all_goals
     refine zbr (zb6 ?_)
     simp (disch:=omega) [zG6,DtInst.cells,DtCmd.cells,DtId.cells,h1,hd]
     all_goals simp
  ·try simp [zG7,zbe,zbd] at hc2
   all_goals
    refine zbn ?_
    refine zbq ?_
    refine AW_r rfl rfl λK hK=>?_
    simp (disch:=omega) [zG6,DtInst.cells,DtCmd.cells,DtId.cells,h1,hd]
    repeat' first|(exfalso;omega)|(refine ⟨λ_=>?_,λ_=>?_⟩)|(refine ⟨by omega,?_⟩)|(intro _)
    all_goals (refine hK _ ?_;clear hK K)
    all_goals
     refine zbr (zb6 ?_)
     simp (disch:=omega) [zG6,DtInst.cells,DtCmd.cells,DtId.cells,h1,hd]
     all_goals simp
theorem rchL_step(l:List DtInst)(r:Nat)(hr:r<18)(o:List DtId):((rndL l o).length=o.length→rchL l (18-r) o=o)∧(¬(rndL l o).length=o.length→rchL l (18-r) o=rchL l (18-(r+1)) (rndL l o)):=by
 rw [show 18-r=(18-(r+1))+1 by omega,rchL]
 exact ⟨λh=>if_pos h,λh=>if_neg h⟩
noncomputable def rdT(l:List DtInst)(o:List DtId)(i:Nat):List DtId:=(o.take i).foldl (λnx x=>jn nx (depsL l x)) o
theorem rdT_s(l:List DtInst)(o:List DtId)(i:Nat)(h:i<o.length):rdT l o (i+1)=jn (rdT l o i) (depsL l o[i]):=by
 unfold rdT;rw [List.take_succ_eq_append_getElem h,List.foldl_append];rfl
theorem rdT_e(l:List DtInst)(o:List DtId)(i:Nat)(h:o.length≤i):rdT l o i=rndL l o:=by
 unfold rdT rndL;rw [List.take_of_length_le h]
theorem rdT_0(l:List DtInst)(o:List DtId):rdT l o 0=o:=by unfold rdT;simp
theorem jn_P{a b:List DtId}(ha:Srt a∧∀x∈a,IdP x)(hb:IdsP b):Srt (jn a b)∧∀x∈jn a b,IdP x:=by
 have hb:=(zhy _).1 hb
 obtain ⟨h1,h2⟩:=zrf b a ha.1 hb.2
 refine ⟨h1,λx hx=>?_⟩
 rcases (h2 x).1 hx with h | h
 ·exact ha.2 x h
 ·exact hb.1 x h
theorem zzf{a:List DtId}(ha:Srt a∧∀x∈a,IdP x):a.length≤18:=zjf (zle ha.1) ha.2
theorem zj3(l:List DtInst)(id:DtId)(hn:l.length≤1048576)(hp:InstsP l):PCall Tryz.prog 99 [.sl 16 (l.map DtInst.cells),.agg (DtId.cells id)] (.sl 2 ((reachL l id).map DtId.cells)):=by
 refine zbo Tryz.func99 (by rfl) (by rfl) (by rw [Tryz.ntmps99];exact Nat.le_of_ble_eq_true rfl) rfl (by decide) ?_
 rw [Tryz.ntmps99]
 refine AW_k [(0,_),(1,_)] ⟨rfl,rfl,trivial⟩ ?_
 refine AW_r rfl rfl λK hK=>?_
 simp (disch:=omega) [zG6,DtId.cells]
 repeat' first|(refine zjc (zbc (zd3 (.inl rfl) (by simp) rfl) (zbc zbw zbi)) (zfm [] (depsL l id) (by simp) (Nat.le_trans (zcl hp id) (by omega))) (λh=>by cases h) ?_;try simp (disch:=omega) [zG6,DtId.cells])|(refine ⟨by omega,?_⟩)|(intro _)
 refine hK _ ?_;clear hK K
 refine AW_r rfl rfl λK hK=>?_
 simp (disch:=omega) [zG6,DtId.cells]
 repeat' first|(exfalso;omega)|(refine zjc (zbc (zd3 (.inl rfl) (by simp) rfl) (zbc zbw zbi)) (zfm [] (depsL l id) (by simp) (Nat.le_trans (zcl hp id) (by omega))) (λh=>by cases h) ?_;try simp (disch:=omega) [zG6,DtId.cells])|(refine zcg (zbc zbw (zbc (zbu rfl) zbi)) (zwy _ _ (by assumption) (by assumption)) rfl ?_;simp (disch:=omega) [zG6,DtId.cells])|(refine zcg (zbc zbw (zbc zbw zbi)) (zfm _ _ (by omega) (Nat.le_trans (zcl hp _) (by omega))) rfl ?_;simp (disch:=omega) [zG6,DtId.cells])|(refine ⟨by omega,?_⟩)|(intro _)
 refine hK _ ?_;clear hK K
 refine zbj ?_
 refine AW_r rfl rfl λK hK=>?_
 simp (disch:=omega) [zG6,DtId.cells]
 repeat' first|(refine zjc (zbc (zd3 (.inl rfl) (by simp) rfl) (zbc zbw zbi)) (zfm [] (depsL l id) (by simp) (Nat.le_trans (zcl hp id) (by omega))) (λh=>by cases h) ?_;try simp (disch:=omega) [zG6,DtId.cells])|(refine ⟨by omega,?_⟩)|(intro _)
 refine hK _ ?_;clear hK K
 refine zbl ?_
 refine zby (λmM sS=>∃(r:Nat) (o:List DtId),mM=18-r∧(r≤18∧(Srt o∧∀x∈o,IdP x)∧rchL l (18-r) o=reachL l id)∧sS = { env:=lkE [(0,.sl 16 (l.map DtInst.cells)),(3,.ptr 64 0),(5,.sl 2 (o.map DtId.cells)),(6,(.g (.int .i64 ((r:Nat)))))],ob:=lk [(64,.cells (DtId.cells id))] }) ?_ ?_
 ·refine ⟨_,LeS.ko [(0,.sl 16 (l.map DtInst.cells)),(3,.ptr 64 0),(5,.sl 2 ((jn [] (depsL l id)).map DtId.cells)),(6,(.g (.int .i64 (((0):Nat)))))] [(64,.cells (DtId.cells id))] (by simp [KpE,zbt,zbk,zbp,DtId.cells];try (rw [he];done)) (by simp [zG8,KpO,zca,DtId.cells];try rfl) (by rfl) (by simp) (by rfl),_,0,jn [] (depsL l id),rfl,?_,rfl⟩
  ·exact ⟨by omega,jn_P ⟨List.Pairwise.nil,by simp⟩ (zjg hp id),rfl⟩
 ·rintro mM sS ⟨r,o,rfl,⟨hr,ho,hrc⟩,rfl⟩
  have hol:=zzf ho
  refine zbj ?_
  refine AW_r rfl rfl λK hK=>?_
  simp (disch:=omega) [zG6,DtId.cells]
  repeat' first|(refine zjc (zbc (zd3 (.inl rfl) (by simp) rfl) (zbc zbw zbi)) (zfm [] (depsL l id) (by simp) (Nat.le_trans (zcl hp id) (by omega))) (λh=>by cases h) ?_;try simp (disch:=omega) [zG6,DtId.cells])|(refine ⟨by omega,?_⟩)|(intro _)
  refine hK _ ?_;clear hK K
  refine zbm rfl (λhc3=>?_) (λhc3=>?_)
  ·try simp [zG7,zbe,zbd] at hc3
   all_goals
    refine zbn ?_
    refine zbq ?_
    refine zbj ?_
    refine zbl ?_
    refine AW_r rfl rfl λK hK=>?_
    simp (disch:=omega) [zG6,DtId.cells]
    repeat' first|(exfalso;omega)|(refine zjc (zbc (zd3 (.inl rfl) (by simp) rfl) (zbc zbw zbi)) (zfm [] (depsL l id) (by simp) (Nat.le_trans (zcl hp id) (by omega))) (λh=>by cases h) ?_;try simp (disch:=omega) [zG6,DtId.cells])|(refine ⟨λ_=>?_,λ_=>?_⟩)|(refine ⟨by omega,?_⟩)|(intro _)
    all_goals (refine hK _ ?_;clear hK K)
    all_goals
     refine zbj ?_
     refine AW_r rfl rfl λK hK=>?_
     simp (disch:=omega) [zG6,DtId.cells]
     repeat' first|(refine zjc (zbc (zd3 (.inl rfl) (by simp) rfl) (zbc zbw zbi)) (zfm [] (depsL l id) (by simp) (Nat.le_trans (zcl hp id) (by omega))) (λh=>by cases h) ?_;try simp (disch:=omega) [zG6,DtId.cells])|(refine ⟨by omega,?_⟩)|(intro _)
     refine hK _ ?_;clear hK K
     refine zbl ?_
     refine zby (λmM sS=>∃(i:Nat),mM=o.length-i∧(i≤o.length∧(Srt (rdT l o i)∧∀x∈rdT l o i,IdP x))∧sS = { env:=lkE [(0,.sl 16 (l.map DtInst.cells)),(3,.ptr 64 0),(5,.sl 2 (o.map DtId.cells)),(6,(.g (.int .i64 ((r:Nat))))),(7,.sl 2 ((rdT l o i).map DtId.cells)),(8,(.g (.int .i64 ((i:Nat)))))],ob:=lk [(64,.cells (DtId.cells id))] }) ?_ ?_
     ·refine ⟨_,LeS.ko [(0,.sl 16 (l.map DtInst.cells)),(3,.ptr 64 0),(5,.sl 2 (o.map DtId.cells)),(6,(.g (.int .i64 ((r:Nat))))),(7,.sl 2 ((rdT l o (0)).map DtId.cells)),(8,(.g (.int .i64 (((0):Nat)))))] [(64,.cells (DtId.cells id))] (by simp [KpE,zbt,zbk,zbp,DtId.cells,rdT_0];try (rw [hs];done)) (by simp [zG8,KpO,zca,DtId.cells,rdT_0];try rfl) (by rfl) (by simp) (by rfl),_,0,rfl,?_,rfl⟩
      ·exact ⟨by omega,by rw [rdT_0];exact ho⟩
     ·rintro mM sS ⟨i,rfl,⟨hi,hnx⟩,rfl⟩
      have hnl:=zzf hnx
      refine zbj ?_
      refine AW_r rfl rfl λK hK=>?_
      simp (disch:=omega) [zG6,DtId.cells]
      repeat' first|(refine zjc (zbc (zd3 (.inl rfl) (by simp) rfl) (zbc zbw zbi)) (zfm [] (depsL l id) (by simp) (Nat.le_trans (zcl hp id) (by omega))) (λh=>by cases h) ?_;try simp (disch:=omega) [zG6,DtId.cells])|(refine ⟨by omega,?_⟩)|(intro _)
      refine hK _ ?_;clear hK K
      refine zbm rfl (λhc4=>?_) (λhc4=>?_)
      ·try simp [zG7,zbe,zbd] at hc4
       all_goals
        have hs:=rdT_s l o i (by omega)
        refine zbn ?_
        refine zbq ?_
        refine zbj ?_
        refine zbl ?_
        refine zc8 rfl rfl λK hK=>?_
        simp (disch:=omega) [zG6,DtId.cells]
        repeat' first|(exfalso;omega)|(refine zjc (zbc (zd3 (.inl rfl) (by simp) rfl) (zbc zbw zbi)) (zfm [] (depsL l id) (by simp) (Nat.le_trans (zcl hp id) (by omega))) (λh=>by cases h) ?_;try simp (disch:=omega) [zG6,DtId.cells])|(refine zcg (zbc zbw (zbc (zbu rfl) zbi)) (zwy _ _ (by assumption) (by assumption)) rfl ?_;simp (disch:=omega) [zG6,DtId.cells])|(refine zcg (zbc zbw (zbc zbw zbi)) (zfm _ _ (by omega) (Nat.le_trans (zcl hp _) (by omega))) rfl ?_;simp (disch:=omega) [zG6,DtId.cells])|(refine ⟨λ_=>?_,λ_=>?_⟩)|(refine ⟨by omega,?_⟩)|(intro _)
        all_goals (refine hK _ ?_;clear hK K)
        all_goals
         refine zbq ?_
         refine zc8 rfl rfl λK hK=>?_
         simp (disch:=omega) [zG6,DtId.cells]
         repeat' first|(refine zjc (zbc (zd3 (.inl rfl) (by simp) rfl) (zbc zbw zbi)) (zfm [] (depsL l id) (by simp) (Nat.le_trans (zcl hp id) (by omega))) (λh=>by cases h) ?_;try simp (disch:=omega) [zG6,DtId.cells])|(refine ⟨by omega,?_⟩)|(intro _)
         refine hK _ ?_;clear hK K
         refine ⟨_,LeS.ko [(0,.sl 16 (l.map DtInst.cells)),(3,.ptr 64 0),(5,.sl 2 (o.map DtId.cells)),(6,(.g (.int .i64 ((r:Nat))))),(7,.sl 2 ((rdT l o (i+1)).map DtId.cells)),(8,(.g (.int .i64 (((i+1):Nat)))))] [(64,.cells (DtId.cells id))] (by simp [KpE,zbt,zbk,zbp,DtId.cells,rdT_0];try (rw [hs];done)) (by simp [zG8,KpO,zca,DtId.cells,rdT_0];try rfl) (by rfl) (by simp) (by rfl),_,?_,i+1,rfl,?_,rfl⟩
         ·omega
         ·refine ⟨by omega,?_⟩;rw [hs];exact jn_P hnx (zjg hp _)
      ·try simp [zG7,zbe,zbd] at hc4
       all_goals
        have he:=rdT_e l o i (by omega)
        have hst:=rchL_step l r (by omega) o
        refine zb3 ?_
        refine zbq ?_
        refine zbj ?_
        refine AW_r rfl rfl λK hK=>?_
        simp (disch:=omega) [zG6,DtId.cells]
        repeat' first|(exfalso;omega)|(refine zjc (zbc (zd3 (.inl rfl) (by simp) rfl) (zbc zbw zbi)) (zfm [] (depsL l id) (by simp) (Nat.le_trans (zcl hp id) (by omega))) (λh=>by cases h) ?_;try simp (disch:=omega) [zG6,DtId.cells])|(refine ⟨λ_=>?_,λ_=>?_⟩)|(refine ⟨by omega,?_⟩)|(intro _)
        all_goals (refine hK _ ?_;clear hK K)
        all_goals
         refine zbm rfl (λhc5=>?_) (λhc5=>?_)
         ·try simp [zG7,zbe,zbd] at hc5
          all_goals
           refine AW_r rfl rfl λK hK=>?_
           simp (disch:=omega) [zG6,DtId.cells]
           repeat' first|(exfalso;omega)|(refine zjc (zbc (zd3 (.inl rfl) (by simp) rfl) (zbc zbw zbi)) (zfm [] (depsL l id) (by simp) (Nat.le_trans (zcl hp id) (by omega))) (λh=>by cases h) ?_;try simp (disch:=omega) [zG6,DtId.cells])|(refine ⟨λ_=>?_,λ_=>?_⟩)|(refine ⟨by omega,?_⟩)|(intro _)
           all_goals (refine hK _ ?_;clear hK K)
           all_goals
            refine zbr (zb6 ?_)
            simp (disch:=omega) [zG6,DtId.cells]
            all_goals first|(rw [←hrc,hst.1 (by rw [←he];omega)];done)|((have e:r=18:=by omega);subst e;rw [←hrc];simp [rchL];done) | trace_state
         ·try simp [zG7,zbe,zbd] at hc5
          all_goals
           refine zbn ?_
           refine zbq ?_
           refine zc8 rfl rfl λK hK=>?_
           simp (disch:=omega) [zG6,DtId.cells]
           repeat' first|(exfalso;omega)|(refine zjc (zbc (zd3 (.inl rfl) (by simp) rfl) (zbc zbw zbi)) (zfm [] (depsL l id) (by simp) (Nat.le_trans (zcl hp id) (by omega))) (λh=>by cases h) ?_;try simp (disch:=omega) [zG6,DtId.cells])|(refine ⟨λ_=>?_,λ_=>?_⟩)|(refine ⟨by omega,?_⟩)|(intro _)
           all_goals (refine hK _ ?_;clear hK K)
           all_goals
            refine zbq ?_
            refine zc8 rfl rfl λK hK=>?_
            simp (disch:=omega) [zG6,DtId.cells]
            repeat' first|(refine zjc (zbc (zd3 (.inl rfl) (by simp) rfl) (zbc zbw zbi)) (zfm [] (depsL l id) (by simp) (Nat.le_trans (zcl hp id) (by omega))) (λh=>by cases h) ?_;try simp (disch:=omega) [zG6,DtId.cells])|(refine ⟨by omega,?_⟩)|(intro _)
            refine hK _ ?_;clear hK K
            refine ⟨_,LeS.ko [(0,.sl 16 (l.map DtInst.cells)),(3,.ptr 64 0),(5,.sl 2 ((rndL l o).map DtId.cells)),(6,(.g (.int .i64 (((r+1):Nat)))))] [(64,.cells (DtId.cells id))] (by simp [KpE,zbt,zbk,zbp,DtId.cells];try (rw [he];done)) (by simp [zG8,KpO,zca,DtId.cells];try rfl) (by rfl) (by simp) (by rfl),_,?_,r+1,rndL l o,rfl,?_,rfl⟩
            ·omega
            ·refine ⟨by omega,by rw [←he];exact hnx,?_⟩;rw [←hst.2 (by rw [←he];omega)];exact hrc
  ·try simp [zG7,zbe,zbd] at hc3
   all_goals
    refine zb3 ?_
    refine zbq ?_
    refine AW_r rfl rfl λK hK=>?_
    simp (disch:=omega) [zG6,DtId.cells]
    repeat' first|(exfalso;omega)|(refine zjc (zbc (zd3 (.inl rfl) (by simp) rfl) (zbc zbw zbi)) (zfm [] (depsL l id) (by simp) (Nat.le_trans (zcl hp id) (by omega))) (λh=>by cases h) ?_;try simp (disch:=omega) [zG6,DtId.cells])|(refine ⟨λ_=>?_,λ_=>?_⟩)|(refine ⟨by omega,?_⟩)|(intro _)
    all_goals (refine hK _ ?_;clear hK K)
    all_goals
     refine zbr (zb6 ?_)
     simp (disch:=omega) [zG6,DtId.cells]
     all_goals first|(rw [←hrc,hst.1 (by rw [←he];omega)];done)|((have e:r=18:=by omega);subst e;rw [←hrc];simp [rchL];done) | trace_state
def RdyP(l:List DtInst)(id:DtId):Prop:=¬cAt l id<0∧∀(j:Nat) x,(reachL l id)[j]? = some x→¬cAt l x<0
theorem zj4(l:List DtInst)(id:DtId)(hn:l.length≤1048576)(hp:InstsP l):PCall Tryz.prog 41 [.sl 16 (l.map DtInst.cells),.agg (DtId.cells id)] (.g (.bool (decB (RdyP l id)))):=by
 have hrl:(reachL l id).length≤18:=by
  have:=zc3 hp id
  exact zzf ⟨this.1,λx hx=>zwx hp ((this.2 x).1 hx)⟩
 refine zbo Tryz.func41 (by rfl) (by rfl) (by rw [Tryz.ntmps41];exact Nat.le_of_ble_eq_true rfl) rfl (by decide) ?_
 rw [Tryz.ntmps41]
 refine AW_k [(0,_),(1,_)] ⟨rfl,rfl,trivial⟩ ?_
 refine AW_r rfl rfl λK hK=>?_
 simp (disch:=omega) [zG6,DtId.cells,zbb,zbf]
 repeat' first|(refine ⟨by omega,?_⟩)|(intro _)
 refine hK _ ?_;clear hK K
 refine zbj ?_
 refine AW_r rfl rfl λK hK=>?_
 simp (disch:=omega) [zG6,DtId.cells,zbb,zbf]
 repeat' first|(exfalso;omega)|(refine zcg (zbc zbw (zbc (zbu rfl) zbi)) (zhc _ _ (by assumption)) rfl ?_;simp (disch:=omega) [zG6,DtId.cells,zbb,zbf])|(refine ⟨by omega,?_⟩)|(intro _)
 refine hK _ ?_;clear hK K
 refine zbm rfl (λhc6=>?_) (λhc6=>?_)
 ·try simp [zG7,zbe,zbd] at hc6
  all_goals
   refine AW_r rfl rfl λK hK=>?_
   simp (disch:=omega) [zG6,DtId.cells,zbb,zbf]
   repeat' first|(exfalso;omega)|(refine ⟨λ_=>?_,λ_=>?_⟩)|(refine ⟨by omega,?_⟩)|(intro _)
   all_goals (refine hK _ ?_;clear hK K)
   all_goals
    refine zbr (zb6 ?_)
    simp (disch:=omega) [zG6,DtId.cells,zbb,zbf]
    all_goals first | grind [RdyP]|(refine zce λh=>?_;grind [RdyP])|(refine zcb ?_;grind [RdyP]) | trace_state
 ·try simp [zG7,zbe,zbd] at hc6
  all_goals
   refine zbn ?_
   refine zbq ?_
   refine AW_r rfl rfl λK hK=>?_
   simp (disch:=omega) [zG6,DtId.cells,zbb,zbf]
   repeat' first|(exfalso;omega)|(refine zcg (zbc zbw (zbc (zbu rfl) zbi)) (zj3 _ _ (by assumption) (by assumption)) rfl ?_;simp (disch:=omega) [zG6,DtId.cells,zbb,zbf])|(refine ⟨λ_=>?_,λ_=>?_⟩)|(refine ⟨by omega,?_⟩)|(intro _)
   all_goals (refine hK _ ?_;clear hK K)
   all_goals
    refine zbj ?_
    refine AW_r rfl rfl λK hK=>?_
    simp (disch:=omega) [zG6,DtId.cells,zbb,zbf]
    repeat' first|(refine ⟨by omega,?_⟩)|(intro _)
    refine hK _ ?_;clear hK K
    refine zbl ?_
    refine zby (λmM sS=>∃(i:Nat),mM=(reachL l id).length-i∧(i≤(reachL l id).length∧∀(j:Nat) x,j<i→(reachL l id)[j]? = some x→¬cAt l x<0)∧sS = { env:=lkE [(0,.sl 16 (l.map DtInst.cells)),(3,.ptr 64 0),(5,.sl 2 ((reachL l id).map DtId.cells)),(6,(.g (.int .i64 ((i:Nat)))))],ob:=lk [(64,.cells (DtId.cells id))] }) ?_ ?_
    ·refine ⟨_,LeS.ko [(0,.sl 16 (l.map DtInst.cells)),(3,.ptr 64 0),(5,.sl 2 ((reachL l id).map DtId.cells)),(6,(.g (.int .i64 (((0):Nat)))))] [(64,.cells (DtId.cells id))] (by simp [KpE,zbt,zbk,zbp,DtId.cells];try rfl) (by simp [zG8,KpO,zca,DtId.cells];try rfl) (by rfl) (by simp) (by rfl),_,0,rfl,?_,rfl⟩
     ·simp
    ·rintro mM sS ⟨i,rfl,⟨hi,hpre⟩,rfl⟩
     refine zbj ?_
     refine AW_r rfl rfl λK hK=>?_
     simp (disch:=omega) [zG6,DtId.cells,zbb,zbf]
     repeat' first|(refine ⟨by omega,?_⟩)|(intro _)
     refine hK _ ?_;clear hK K
     refine zbm rfl (λhc7=>?_) (λhc7=>?_)
     ·try simp [zG7,zbe,zbd] at hc7
      all_goals
       have hg:(reachL l id)[i]? = some (reachL l id)[i]:=List.getElem?_eq_getElem (by omega)
       refine zbn ?_
       refine zbq ?_
       refine zbj ?_
       refine zbl ?_
       refine AW_r rfl rfl λK hK=>?_
       simp (disch:=omega) [zG6,DtId.cells,zbb,zbf]
       repeat' first|(exfalso;omega)|(refine zcg (zbc zbw (zbc (zbu rfl) zbi)) (zhc _ _ (by assumption)) rfl ?_;simp (disch:=omega) [zG6,DtId.cells,zbb,zbf])|(refine ⟨λ_=>?_,λ_=>?_⟩)|(refine ⟨by omega,?_⟩)|(intro _)
       all_goals (refine hK _ ?_;clear hK K)
       all_goals
        refine zbm rfl (λhc8=>?_) (λhc8=>?_)
        ·try simp [zG7,zbe,zbd] at hc8
         all_goals
          refine AW_r rfl rfl λK hK=>?_
          simp (disch:=omega) [zG6,DtId.cells,zbb,zbf]
          repeat' first|(exfalso;omega)|(refine ⟨λ_=>?_,λ_=>?_⟩)|(refine ⟨by omega,?_⟩)|(intro _)
          all_goals (refine hK _ ?_;clear hK K)
          all_goals
           refine zbr (zb6 ?_)
           simp (disch:=omega) [zG6,DtId.cells,zbb,zbf]
           all_goals first | grind [RdyP]|(refine zce λh=>?_;grind [RdyP])|(refine zcb ?_;grind [RdyP]) | trace_state
        ·try simp [zG7,zbe,zbd] at hc8
         all_goals
          refine zbn ?_
          refine zbq ?_
          refine zc8 rfl rfl λK hK=>?_
          simp (disch:=omega) [zG6,DtId.cells,zbb,zbf]
          repeat' first|(exfalso;omega)|(refine ⟨λ_=>?_,λ_=>?_⟩)|(refine ⟨by omega,?_⟩)|(intro _)
          all_goals (refine hK _ ?_;clear hK K)
          all_goals
           refine ⟨_,LeS.ko [(0,.sl 16 (l.map DtInst.cells)),(3,.ptr 64 0),(5,.sl 2 ((reachL l id).map DtId.cells)),(6,(.g (.int .i64 (((i+1):Nat)))))] [(64,.cells (DtId.cells id))] (by simp [KpE,zbt,zbk,zbp,DtId.cells];try rfl) (by simp [zG8,KpO,zca,DtId.cells];try rfl) (by rfl) (by simp) (by rfl),_,?_,i+1,rfl,?_,rfl⟩
           ·omega
           ·refine ⟨by omega,?_⟩;grind
     ·try simp [zG7,zbe,zbd] at hc7
      all_goals
       refine zb3 ?_
       refine zbq ?_
       refine AW_r rfl rfl λK hK=>?_
       simp (disch:=omega) [zG6,DtId.cells,zbb,zbf]
       repeat' first|(exfalso;omega)|(refine ⟨λ_=>?_,λ_=>?_⟩)|(refine ⟨by omega,?_⟩)|(intro _)
       all_goals (refine hK _ ?_;clear hK K)
       all_goals
        refine zbr (zb6 ?_)
        simp (disch:=omega) [zG6,DtId.cells,zbb,zbf]
        all_goals first | grind [RdyP]|(refine zce λh=>?_;grind [RdyP])|(refine zcb ?_;grind [RdyP]) | trace_state
end Go.Proofs.YtodmafgmdlkhoaaGreat.Vs
end
section
open Go Go.Proofs Go.Proofs.YtodmafgmdlkhoaaGreat.Vs
namespace Go.Proofs.YtodmafgmdlkhoaaGreat.Vs
set_option linter.all false
set_option linter.unusedSimpArgs false
set_option linter.unusedVariables false
theorem zwz{l:List DtInst}(h:InstsP l)(id:DtId):(¬cAt l id<0)↔(instAt l id).fStatus=3:=by
 rcases zrg h id with ⟨h1,h2,h3⟩ | ⟨i,hi,h1,h2,h3,h4⟩
 ·exact ⟨λh=>absurd h1 h,λh=>absurd h h3⟩
 ·exact ⟨λ_=>by rw [h4];exact h3,λ_=>by omega⟩
/-- What the program asks: all that is reached, and the instance itself. -/
theorem zzg{l:List DtInst}(h:InstsP l)(id:DtId):RdyP l id↔∀(j:Nat) x,(reachL l id++[id])[j]? = some x→(instAt l x).fStatus=3:=by
 unfold RdyP
 rw [zwz h]
 constructor
 ·rintro ⟨h1,h2⟩ j x hx
  rcases List.mem_append.1 (List.mem_of_getElem? hx) with hm | hm
  ·obtain ⟨k,hk⟩:=List.getElem?_of_mem hm
   exact (zwz h x).1 (h2 k x hk)
  ·rw [List.mem_singleton] at hm;subst hm;exact h1
 ·intro h1
  have h2:∀x∈reachL l id++[id],(instAt l x).fStatus=3:=λx hx=>by
   obtain ⟨k,hk⟩:=List.getElem?_of_mem hx
   exact h1 k x hk
  exact ⟨h2 id (by simp),λj x hx=>(zwz h x).2 (h2 x (List.mem_append_left _ (List.mem_of_getElem? hx)))⟩
end Go.Proofs.YtodmafgmdlkhoaaGreat.Vs
end
section
open Go Go.Proofs Go.Proofs.YtodmafgmdlkhoaaGreat.Vs
namespace Go.Proofs.YtodmafgmdlkhoaaGreat.Vs
set_option linter.all false
set_option linter.unusedSimpArgs false
set_option linter.unusedVariables false
/-! the search in breadth -/
structure Bf (l:List DtInst) (id:DtId) (c:Option DtId) (ds:List DtId) (off:Nat) (zs out:List DtId):Prop where
 ho:off≤zs.length
 hz:zs.length≤out.length+1
 hn:out.Nodup
 hr:∀x∈out,Rch l id x
 hq:∀x∈zs,x=id∨x∈out
 hp:∀x,x=id∨x∈out→x∈zs.drop off∨(∀y∈depsL l x,y∈out)∨c=some x
 hd:∀y∈ds,y∈out
 hc:∀x,c=some x→x=id∨x∈out
theorem bf_0(l:List DtInst)(id:DtId):Bf l id none [] 0 [id] []:=by
 refine ⟨by simp,by simp,by simp,by simp,by simp,?_,by simp,by simp⟩
 rintro x (rfl | h)
 ·simp
 ·simp at h
theorem bf_pop{l:List DtInst}{id:DtId}{off:Nat}{zs out:List DtId}(h:Bf l id none [] off zs out)(ho:off<zs.length):Bf l id (some zs[off]) [] (off+1) zs out:=by
 refine ⟨ho,h.hz,h.hn,h.hr,h.hq,λx hx=>?_,by simp,λx hx=>?_⟩
 ·rcases h.hp x hx with h1 | h1 | h1
  ·rw [List.drop_eq_getElem_cons ho] at h1
   rcases List.mem_cons.1 h1 with rfl | h1
   ·exact .inr (.inr rfl)
   ·exact .inl h1
  ·exact .inr (.inl h1)
  ·cases h1
 ·cases hx
  exact h.hq _ (List.getElem_mem _)
theorem zw0{l:List DtInst}{id c d:DtId}{ds:List DtId}{off:Nat}{zs out:List DtId}(h:Bf l id (some c) ds off zs out)(hd:d∈out):Bf l id (some c) (ds++[d]) off zs out :=
 ⟨h.ho,h.hz,h.hn,h.hr,h.hq,h.hp,λy hy=>by
  rcases List.mem_append.1 hy with hy | hy
  ·exact h.hd y hy
  ·rw [List.mem_singleton] at hy;exact hy ▸ hd,h.hc⟩
theorem bf_new{l:List DtInst}{id c d:DtId}{ds:List DtId}{off:Nat}{zs out:List DtId}(h:Bf l id (some c) ds off zs out)(hd:d∉out)(hdc:d∈depsL l c)(o2:Nat)(z2:List DtId)(h1:o2≤z2.length)(h2:z2.length≤zs.length+1)(h3:∀x∈z2,x∈zs∨x=d)(h4:z2.drop o2=zs.drop off++[d]):Bf l id (some c) (ds++[d]) o2 z2 (out++[d]):=by
 have hz:=h.hz
 have hcx:=h.hc c rfl
 refine ⟨h1,by simp;omega,?_,λx hx=>?_,λx hx=>?_,λx hx=>?_,λy hy=>?_,λx hx=>?_⟩
 ·refine List.nodup_append.2 ⟨h.hn,by simp,λa ha b hb=>?_⟩
  rw [List.mem_singleton] at hb
  rintro rfl
  exact hd (hb ▸ ha)
 ·rcases List.mem_append.1 hx with hx | hx
  ·exact h.hr x hx
  ·rw [List.mem_singleton] at hx
   subst hx
   rcases hcx with rfl | hc
   ·exact .base hdc
   ·exact .step (h.hr _ hc) hdc
 ·rcases h3 x hx with hx | rfl
  ·exact (h.hq x hx).imp (λh=>h) λh=>List.mem_append_left _ h
  ·exact .inr (by simp)
 ·by_cases e:x=d
  ·exact .inl (by rw [h4,e];simp)
  ·have hx':x=id∨x∈out:=hx.imp (λh=>h) λh=>(List.mem_append.1 h).elim (λh=>h) λh=>absurd (List.mem_singleton.1 h) e
   rcases h.hp x hx' with h5 | h5 | h5
   ·exact .inl (by rw [h4];exact List.mem_append_left _ h5)
   ·exact .inr (.inl λy hy=>List.mem_append_left _ (h5 y hy))
   ·exact .inr (.inr h5)
 ·rcases List.mem_append.1 hy with hy | hy
  ·exact List.mem_append_left _ (h.hd y hy)
  ·exact List.mem_append_right _ hy
 ·exact (h.hc x hx).imp (λh=>h) λh=>List.mem_append_left _ h
theorem zw1{l:List DtInst}{id c d:DtId}{ds:List DtId}{off:Nat}{zs out:List DtId}(h:Bf l id (some c) ds off zs out)(hd:d∉out)(hdc:d∈depsL l c):Bf l id (some c) (ds++[d]) off (zs++[d]) (out++[d]) :=
 bf_new h hd hdc off (zs++[d]) (by have:=h.ho;simp;omega) (by simp) (λx hx=>by simpa using hx) (by rw [List.drop_append_of_le_length h.ho])
theorem zw2{l:List DtInst}{id c d:DtId}{ds:List DtId}{off:Nat}{zs out:List DtId}(h:Bf l id (some c) ds off zs out)(hd:d∉out)(hdc:d∈depsL l c):Bf l id (some c) (ds++[d]) 0 (zs.drop off++[d]) (out++[d]) :=
 bf_new h hd hdc 0 (zs.drop off++[d]) (by simp) (by simp) (λx hx=>by
  rcases List.mem_append.1 hx with hx | hx
  ·exact .inl (List.mem_of_mem_drop hx)
  ·exact .inr (List.mem_singleton.1 hx)) (by simp)
theorem zzh{l:List DtInst}{id c:DtId}{ds:List DtId}{off:Nat}{zs out:List DtId}(h:Bf l id (some c) ds off zs out)(hd:depsL l c=ds):Bf l id none [] off zs out :=
 ⟨h.ho,h.hz,h.hn,h.hr,h.hq,λx hx=>by
  rcases h.hp x hx with h1 | h1 | h1
  ·exact .inl h1
  ·exact .inr (.inl h1)
  ·cases h1
   exact .inr (.inl λy hy=>h.hd y (hd ▸ hy)),by simp,by simp⟩
theorem bf_end{l:List DtInst}{id:DtId}{off:Nat}{zs out:List DtId}(h:Bf l id none [] off zs out)(ho:zs.length≤off):∀x,x∈out↔Rch l id x:=by
 have hp:∀x,x=id∨x∈out→∀y∈depsL l x,y∈out:=λx hx=>by
  rcases h.hp x hx with h1 | h1 | h1
  ·rw [List.drop_of_length_le ho] at h1;simp at h1
  ·exact h1
  ·cases h1
 refine λx=>⟨h.hr x,λhr=>?_⟩
 induction hr with
 | base hb=>exact hp _ (.inl rfl) _ hb
 | step _ hb ih=>exact hp _ (.inr ih) _ hb
theorem zlf{l:List DtInst}(hp:InstsP l){id:DtId}{c:Option DtId}{ds:List DtId}{off:Nat}{zs out:List DtId}(h:Bf l id c ds off zs out):out.length≤18 :=
 zjf h.hn λx hx=>zwx hp (h.hr x hx)
end Go.Proofs.YtodmafgmdlkhoaaGreat.Vs
end
section
open Go Go.Proofs Go.Proofs.YtodmafgmdlkhoaaGreat.Vs
namespace Go.Proofs.YtodmafgmdlkhoaaGreat.Vs
set_option linter.all false
set_option linter.unusedSimpArgs false
set_option linter.unusedVariables false
theorem zfi(a b:DtId):ltOf cmpI a b=decB (idLt a b):=by
 rw [Bool.eq_iff_iff,zbb,←zco]
 unfold ltOf
 simp
theorem srt_mem{l:List DtId}(x:DtId):x∈srt cmpI l↔x∈l:=List.mem_mergeSort
theorem srt_srt{l:List DtId}(hn:l.Nodup):Srt (srt cmpI l):=by
 have h1:(srt cmpI l).Pairwise λa b=>(!(ltOf cmpI) b a)=true:=by
  refine List.pairwise_mergeSort (λa b c hab hbc=>?_) (λa b=>?_) l
  ·rw [Bool.not_eq_true',zfi,zbf] at hab hbc ⊢
   intro hca
   by_cases e:b=a
   ·subst e;exact hbc hca
   ·exact hbc (zdc hca (zhx hab e))
  ·rw [Bool.or_eq_true,Bool.not_eq_true',Bool.not_eq_true',zfi,zfi,zbf,zbf]
   by_cases h:idLt b a
   ·exact .inr λh2=>zgb _ (zdc h h2)
   ·exact .inl h
 have h2:(srt cmpI l).Nodup:=(List.mergeSort_perm _ _).nodup_iff.2 hn
 refine List.Pairwise.imp₂ (λa b h3 h4=>?_) h1 h2
 rw [Bool.not_eq_true',zfi,zbf] at h3
 exact zhx h3 (λe=>h4 e.symm)
theorem ztc{l:List DtInst}(h:InstsP l){id:DtId}{off:Nat}{zs out:List DtId}(hb:Bf l id none [] off zs out)(ho:zs.length≤off):srt cmpI out=reachL l id:=by
 obtain ⟨h1,h2⟩:=zc3 h id
 refine zwv _ _ (srt_srt hb.hn) h1 λx=>?_
 rw [srt_mem,h2,bf_end hb ho]
end Go.Proofs.YtodmafgmdlkhoaaGreat.Vs
end
