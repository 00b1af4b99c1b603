import Derived.Test.YtodmafgmdlkhoaaSM4
import Derived.Test.YtodmafgmdlkhoaaSM3
section
namespace Go.Proofs.Ytodmafgmdlkhoaa.Vs
set_option linter.all false
set_option maxRecDepth 100000
def SaidAt(l:List DtSaid)(i:Nat)(x:DtSaid):Prop:=1≤x.fClient∧x.fClient≤9∧1≤x.fNo∧x.fNo≤1000∧∀y,0<i→l[i-1]? = some y→y.fClient<x.fClient
def StateP(s:DtState):Prop:=CatP s.fCat∧∀(i:Nat) x,s.fSaid[i]? = some x→SaidAt s.fSaid i x
theorem zkf(s:DtState)(hs:DtState.sz s≤1048576):DtCatalog.sz s.fCat≤1048576∧s.fSaid.length≤1048576:=by
 have h0:=zck DtSaid.sz_nonneg s.fSaid
 have h1:=DtCatalog.sz_nonneg s.fCat
 simp only [DtState.sz,szS] at hs
 omega
def zG12:=And.intro @zcj (And.intro @gE (And.intro @tP (And.intro @zba @zbf)))
def zG13:=And.intro @zbz (And.intro @zbq @zby)
theorem zm7(s:DtState)(hs:DtState.sz s≤1048576):PCall Try.prog 9 [.agg (DtState.cells s)] (.g (.bool (decB (StateP s)))):=by
 have ⟨hz,hl⟩:=zkf s hs
 refine zbr Try.func9 (by rfl) (by rfl) (by rw [Try.ntmps9];exact Nat.le_of_ble_eq_true rfl) rfl (by decide) ?_
 rw [Try.ntmps9]
 refine AW_k [(0,_)] ⟨rfl,trivial⟩ ?_
 refine AW_r rfl rfl λK hK=>?_
 simp (disch:=omega) [zG12,DtState.cells,DtCatalog.cells,DtSaid.cells]
 repeat' first|(exfalso;omega)|(refine ⟨λ_=>?_,λ_=>?_⟩)|(refine ⟨by omega,?_⟩)|(intro _)
 all_goals (refine hK _ ?_;clear hK K)
 all_goals
  refine zbi ?_
  refine AW_r rfl rfl λK hK=>?_
  simp (disch:=omega) [zG12,DtState.cells,DtCatalog.cells,DtSaid.cells]
  repeat' first|(exfalso;omega)|(refine zdg (zbe (zb6 rfl) zbo) (zm5 _ (by omega)) rfl ?_;simp (disch:=omega) [zG12,DtState.cells,DtCatalog.cells,DtSaid.cells])|(refine ⟨λ_=>?_,λ_=>?_⟩)|(refine ⟨by omega,?_⟩)|(intro _)
  all_goals (refine hK _ ?_;clear hK K)
  all_goals
   refine zbh rfl (λhc1=>?_) (λhc1=>?_)
   ·try simp [zba,zbf,zbc,zbb] at hc1
    all_goals
     refine AW_r rfl rfl λK hK=>?_
     simp (disch:=omega) [zG12,DtState.cells,DtCatalog.cells,DtSaid.cells]
     repeat' first|(exfalso;omega)|(refine ⟨λ_=>?_,λ_=>?_⟩)|(refine ⟨by omega,?_⟩)|(intro _)
     all_goals (refine hK _ ?_;clear hK K)
     all_goals
      refine zbp (zcb ?_)
      simp (disch:=omega) [zG12,DtState.cells,DtCatalog.cells,DtSaid.cells]
      all_goals first | grind [StateP,SaidAt]|(refine zb5 λh=>?_;grind [StateP,SaidAt])|(refine zb4 ?_;grind [StateP,SaidAt])
   ·try simp [zba,zbf,zbc,zbb] at hc1
    all_goals
     refine zbj ?_
     refine zbn ?_
     refine zbi ?_
     refine AW_r rfl rfl λK hK=>?_
     simp (disch:=omega) [zG12,DtState.cells,DtCatalog.cells,DtSaid.cells]
     repeat' first|(exfalso;omega)|(refine ⟨λ_=>?_,λ_=>?_⟩)|(refine ⟨by omega,?_⟩)|(intro _)
     all_goals (refine hK _ ?_;clear hK K)
     all_goals
      refine zbm ?_
      refine zbv (λmM sS=>∃(i:Nat),mM=s.fSaid.length-i∧(i≤s.fSaid.length∧∀(j:Nat) x,j<i→s.fSaid[j]? = some x→SaidAt s.fSaid j x)∧sS = { env:=lkE [(1,.ptr 32 0),(3,(.g (.int .i64 ((i:Nat)))))],ob:=lk [(32,.cells (DtState.cells s))] }) ?_ ?_
      ·refine ⟨_,LeS.ko [(1,.ptr 32 0),(3,(.g (.int .i64 (((0):Nat)))))] [(32,.cells (DtState.cells s))] (by simp [KpE,zbz,zbk,zbq,DtState.cells,DtCatalog.cells];try rfl) (by simp [zG13,KpO,zcc,DtState.cells,DtCatalog.cells];try rfl) (by rfl) (by simp) (by rfl),_,0,rfl,?_,rfl⟩
       ·simp
      ·rintro mM sS ⟨i,rfl,⟨hi,hpre⟩,rfl⟩
       refine zbi ?_
       refine AW_r rfl rfl λK hK=>?_
       simp (disch:=omega) [zG12,DtState.cells,DtCatalog.cells,DtSaid.cells]
       repeat' first|(exfalso;omega)|(refine ⟨λ_=>?_,λ_=>?_⟩)|(refine ⟨by omega,?_⟩)|(intro _)
       all_goals (refine hK _ ?_;clear hK K)
       all_goals
        refine zbh rfl (λhc2=>?_) (λhc2=>?_)
        ·try simp [zba,zbf,zbc,zbb] at hc2
         all_goals
          have hg:s.fSaid[i]? = some s.fSaid[i]:=List.getElem?_eq_getElem (by omega)
          have hg':s.fSaid[i-1]? = some s.fSaid[i-1]:=List.getElem?_eq_getElem (by omega)
          rcases Nat.eq_zero_or_pos i with hi0 | hi0
          all_goals
           refine zbj ?_
           refine zbn ?_
           refine zbi ?_
           refine zbm ?_
           refine AW_r rfl rfl λK hK=>?_
           simp (disch:=omega) [zG12,DtState.cells,DtCatalog.cells,DtSaid.cells]
           repeat' first|(exfalso;omega)|(refine ⟨λ_=>?_,λ_=>?_⟩)|(refine ⟨by omega,?_⟩)|(intro _)
           all_goals (refine hK _ ?_;clear hK K)
           all_goals
            refine AW_q rfl mix (by kernel_rfl) rfl λK hK=>?_
            simp (disch:=omega) [zG12,DtState.cells,DtCatalog.cells,DtSaid.cells]
            repeat' first|(exfalso;omega)|(refine zdg (zbe zcl (zbe zcl (zbe zcl zbo))) (l1In _ _ _) rfl ?_;simp (disch:=omega) [zG12,DtState.cells,DtCatalog.cells,DtSaid.cells])|(refine ⟨λ_=>?_,λ_=>?_⟩)|(refine ⟨by omega,?_⟩)|(intro _)
            all_goals (refine hK _ ?_;clear hK K)
            all_goals
             refine zbh rfl (λhc3=>?_) (λhc3=>?_)
             ·try simp [zba,zbf,zbc,zbb] at hc3
              all_goals
               refine AW_r rfl rfl λK hK=>?_
               simp (disch:=omega) [zG12,DtState.cells,DtCatalog.cells,DtSaid.cells]
               repeat' first|(exfalso;omega)|(refine ⟨λ_=>?_,λ_=>?_⟩)|(refine ⟨by omega,?_⟩)|(intro _)
               all_goals (refine hK _ ?_;clear hK K)
               all_goals
                refine zbp (zcb ?_)
                simp (disch:=omega) [zG12,DtState.cells,DtCatalog.cells,DtSaid.cells]
                all_goals first | grind [StateP,SaidAt]|(refine zb5 λh=>?_;grind [StateP,SaidAt])|(refine zb4 ?_;grind [StateP,SaidAt])
             ·try simp [zba,zbf,zbc,zbb] at hc3
              all_goals
               refine zbj ?_
               refine zbn ?_
               refine zc8 rfl rfl λK hK=>?_
               simp (disch:=omega) [zG12,DtState.cells,DtCatalog.cells,DtSaid.cells]
               repeat' first|(exfalso;omega)|(refine ⟨λ_=>?_,λ_=>?_⟩)|(refine ⟨by omega,?_⟩)|(intro _)
               all_goals (refine hK _ ?_;clear hK K)
               all_goals
                refine ⟨_,LeS.ko [(1,.ptr 32 0),(3,(.g (.int .i64 (((i+1):Nat)))))] [(32,.cells (DtState.cells s))] (by simp [KpE,zbz,zbk,zbq,DtState.cells,DtCatalog.cells];try rfl) (by simp [zG13,KpO,zcc,DtState.cells,DtCatalog.cells];try rfl) (by rfl) (by simp) (by rfl),_,?_,i+1,rfl,?_,rfl⟩
                ·omega
                ·refine ⟨by omega,?_⟩;clear hg';grind [SaidAt]
        ·try simp [zba,zbf,zbc,zbb] at hc2
         all_goals
          refine zbx ?_
          refine zbn ?_
          refine AW_r rfl rfl λK hK=>?_
          simp (disch:=omega) [zG12,DtState.cells,DtCatalog.cells,DtSaid.cells]
          repeat' first|(exfalso;omega)|(refine ⟨λ_=>?_,λ_=>?_⟩)|(refine ⟨by omega,?_⟩)|(intro _)
          all_goals (refine hK _ ?_;clear hK K)
          all_goals
           refine zbp (zcb ?_)
           simp (disch:=omega) [zG12,DtState.cells,DtCatalog.cells,DtSaid.cells]
           all_goals first | grind [StateP,SaidAt]|(refine zb5 λh=>?_;grind [StateP,SaidAt])|(refine zb4 ?_;grind [StateP,SaidAt])
theorem zm8(s:DtState)(hs:DtState.sz s≤1048576):PCall Try.prog 28 [.agg (DtState.cells s)] (.g (.bool (decB (StateP s)))):=by
 have ⟨hz,hl⟩:=zkf s hs
 refine zbr Try.func28 (by rfl) (by rfl) (by rw [Try.ntmps28];exact Nat.le_of_ble_eq_true rfl) rfl (by decide) ?_
 rw [Try.ntmps28]
 refine AW_k [(0,_)] ⟨rfl,trivial⟩ ?_
 refine AW_r rfl rfl λK hK=>?_
 simp (disch:=omega) [zG12,DtState.cells,DtCatalog.cells,DtSaid.cells]
 repeat' first|(exfalso;omega)|(refine ⟨λ_=>?_,λ_=>?_⟩)|(refine ⟨by omega,?_⟩)|(intro _)
 all_goals (refine hK _ ?_;clear hK K)
 all_goals
  refine zbi ?_
  refine AW_r rfl rfl λK hK=>?_
  simp (disch:=omega) [zG12,DtState.cells,DtCatalog.cells,DtSaid.cells]
  repeat' first|(exfalso;omega)|(refine ⟨λ_=>?_,λ_=>?_⟩)|(refine ⟨by omega,?_⟩)|(intro _)
  all_goals (refine hK _ ?_;clear hK K)
  all_goals
   refine zbm ?_
   refine zbv (λmM sS=>∃(i:Nat),mM=s.fSaid.length-i∧(i≤s.fSaid.length∧∀(j:Nat) x,j<i→s.fSaid[j]? = some x→SaidAt s.fSaid j x)∧sS = { env:=lkE [(1,.ptr 32 0),(6,.sl 3 (s.fSaid.map DtSaid.cells)),(7,(.g (.int .i64 ((s.fSaid.length:Nat))))),(8,(.g (.int .i64 ((i:Nat)))))],ob:=lk [(32,.cells (DtState.cells s))] }) ?_ ?_
   ·refine ⟨_,LeS.ko [(1,.ptr 32 0),(6,.sl 3 (s.fSaid.map DtSaid.cells)),(7,(.g (.int .i64 ((s.fSaid.length:Nat))))),(8,(.g (.int .i64 (((0):Nat)))))] [(32,.cells (DtState.cells s))] (by simp [KpE,zbz,zbk,zbq,DtState.cells,DtCatalog.cells];try rfl) (by simp [zG13,KpO,zcc,DtState.cells,DtCatalog.cells];try rfl) (by rfl) (by simp) (by rfl),_,0,rfl,?_,rfl⟩
    ·simp
   ·rintro mM sS ⟨i,rfl,⟨hi,hpre⟩,rfl⟩
    refine AW_r rfl rfl λK hK=>?_
    simp (disch:=omega) [zG12,DtState.cells,DtCatalog.cells,DtSaid.cells]
    repeat' first|(exfalso;omega)|(refine ⟨λ_=>?_,λ_=>?_⟩)|(refine ⟨by omega,?_⟩)|(intro _)
    all_goals (refine hK _ ?_;clear hK K)
    all_goals
     refine zbi ?_
     refine zbh rfl (λhc4=>?_) (λhc4=>?_)
     ·try simp [zba,zbf,zbc,zbb] at hc4
      all_goals
       have hg:s.fSaid[i]? = some s.fSaid[i]:=List.getElem?_eq_getElem (by omega)
       have hg':s.fSaid[i-1]? = some s.fSaid[i-1]:=List.getElem?_eq_getElem (by omega)
       rcases Nat.eq_zero_or_pos i with hi0 | hi0
       all_goals
        refine zbj ?_
        refine zbn ?_
        refine zbi ?_
        refine zbm ?_
        refine AW_r rfl rfl λK hK=>?_
        simp (disch:=omega) [zG12,DtState.cells,DtCatalog.cells,DtSaid.cells]
        repeat' first|(exfalso;omega)|(refine ⟨λ_=>?_,λ_=>?_⟩)|(refine ⟨by omega,?_⟩)|(intro _)
        all_goals (refine hK _ ?_;clear hK K)
        all_goals
         refine AW_q rfl mix (by kernel_rfl) rfl λK hK=>?_
         simp (disch:=omega) [zG12,DtState.cells,DtCatalog.cells,DtSaid.cells]
         repeat' first|(exfalso;omega)|(refine zdg (zbe zcl (zbe zcl (zbe zcl zbo))) (zkp _ _ _) rfl ?_;simp (disch:=omega) [zG12,DtState.cells,DtCatalog.cells,DtSaid.cells])|(refine ⟨λ_=>?_,λ_=>?_⟩)|(refine ⟨by omega,?_⟩)|(intro _)
         all_goals (refine hK _ ?_;clear hK K)
         all_goals
          refine zbh rfl (λhc5=>?_) (λhc5=>?_)
          ·try simp [zba,zbf,zbc,zbb] at hc5
           all_goals
            refine AW_r rfl rfl λK hK=>?_
            simp (disch:=omega) [zG12,DtState.cells,DtCatalog.cells,DtSaid.cells]
            repeat' first|(exfalso;omega)|(refine ⟨λ_=>?_,λ_=>?_⟩)|(refine ⟨by omega,?_⟩)|(intro _)
            all_goals (refine hK _ ?_;clear hK K)
            all_goals
             refine zbp (zcb ?_)
             simp (disch:=omega) [zG12,DtState.cells,DtCatalog.cells,DtSaid.cells]
             all_goals first | grind [StateP,SaidAt]|(refine zb5 λh=>?_;grind [StateP,SaidAt])|(refine zb4 ?_;grind [StateP,SaidAt])|(rw [Bool.eq_iff_iff,zba,zba];grind [StateP,SaidAt])
          ·try simp [zba,zbf,zbc,zbb] at hc5
           all_goals
            refine zbj ?_
            refine zbn ?_
            refine zc8 rfl rfl λK hK=>?_
            simp (disch:=omega) [zG12,DtState.cells,DtCatalog.cells,DtSaid.cells]
            repeat' first|(exfalso;omega)|(refine ⟨λ_=>?_,λ_=>?_⟩)|(refine ⟨by omega,?_⟩)|(intro _)
            all_goals (refine hK _ ?_;clear hK K)
            all_goals
             refine ⟨_,LeS.ko [(1,.ptr 32 0),(6,.sl 3 (s.fSaid.map DtSaid.cells)),(7,(.g (.int .i64 ((s.fSaid.length:Nat))))),(8,(.g (.int .i64 (((i+1):Nat)))))] [(32,.cells (DtState.cells s))] (by simp [KpE,zbz,zbk,zbq,DtState.cells,DtCatalog.cells];try rfl) (by simp [zG13,KpO,zcc,DtState.cells,DtCatalog.cells];try rfl) (by rfl) (by simp) (by rfl),_,?_,i+1,rfl,?_,rfl⟩
             ·omega
             ·refine ⟨by omega,?_⟩;clear hg';grind [SaidAt]
     ·try simp [zba,zbf,zbc,zbb] at hc4
      all_goals
       refine zbx ?_
       refine zbn ?_
       refine AW_r rfl rfl λK hK=>?_
       simp (disch:=omega) [zG12,DtState.cells,DtCatalog.cells,DtSaid.cells]
       repeat' first|(exfalso;omega)|(refine zdg (zbe (zb6 rfl) zbo) (zm6 _ (by omega)) rfl ?_;simp (disch:=omega) [zG12,DtState.cells,DtCatalog.cells,DtSaid.cells])|(refine ⟨λ_=>?_,λ_=>?_⟩)|(refine ⟨by omega,?_⟩)|(intro _)
       all_goals (refine hK _ ?_;clear hK K)
       all_goals
        refine zbp (zcb ?_)
        simp (disch:=omega) [zG12,DtState.cells,DtCatalog.cells,DtSaid.cells]
        all_goals first | grind [StateP,SaidAt]|(refine zb5 λh=>?_;grind [StateP,SaidAt])|(refine zb4 ?_;grind [StateP,SaidAt])|(rw [Bool.eq_iff_iff,zba,zba];grind [StateP,SaidAt])
end Go.Proofs.Ytodmafgmdlkhoaa.Vs
end
section
namespace Go.Proofs.Ytodmafgmdlkhoaa.Vs
set_option linter.all false
set_option maxRecDepth 100000
theorem del_eq{α:Type}(l:List α)(k:Nat)(h:k<l.length):List.take ((k:Int)+((l.length-(k+1):Nat):Int)).toNat (l.take k++((l.drop (k+1)).take (l.length-(k+1))++l.drop (k+(l.length-(k+1)))))=l.take k++l.drop (k+1):=by
 have e:((k:Int)+((l.length-(k+1):Nat):Int)).toNat=k+(l.length-(k+1)):=by omega
 rw [e,List.take_of_length_le (l:=l.drop (k+1)) (by simp),←List.append_assoc,List.take_append_of_le_length (by simp;omega),List.take_of_length_le (by simp;omega)]
theorem zcn{l:List (List AV)}(h:scR l=true)(k:Nat):scR (l.take k)=true:=List.all_eq_true.2 λx hx=>List.all_eq_true.1 h x (List.mem_of_mem_take hx)
theorem zct{l:List (List AV)}(h:scR l=true)(k:Nat):scR (l.drop k)=true:=List.all_eq_true.2 λx hx=>List.all_eq_true.1 h x (List.mem_of_mem_drop hx)
theorem deleteCSet(rows:List (List AV))(hs:scR rows=true)(k:Nat)(hk:k<rows.length)(hl:rows.length≤1048576):XCall Try.prog 65 [.arr 8 0 rows.length,(.g (.int .i64 ((k:Nat)))),(.g (.int .i64 ((k:Nat)+1)))] [.own 2 rows] (.arr 16 0 (rows.length-1)) [.dead] [.own 2 (rows.take k++rows.drop (k+1))]:=by
 refine zbs Try.func65 (by rfl) (by rfl) (by rw [Try.ntmps65];exact Nat.le_of_ble_eq_true rfl) rfl (by simp) rfl rfl ?_
 rw [Try.ntmps65]
 refine zhl (.win 2 rows) (by simp [cvO]<;>assumption) ?_
 refine AW_k [(0,_),(1,_),(2,_)] ⟨rfl,rfl,rfl,trivial⟩ ?_
 refine zmw (sz:=2) (xs:=rows) 8 (by simp [zG13]) (by omega) λc0 hc0=>?_
 refine AW_x rfl rfl λK hK=>?_
 simp (disch:=omega)
 repeat' first|(refine ⟨by omega,?_⟩)|(intro _)
 refine hK _ ?_;clear hK K
 refine AW_x rfl rfl λK hK=>?_
 simp (disch:=omega)
 repeat' first|(refine ⟨by omega,?_⟩)|(intro _)
 refine hK _ ?_;clear hK K
 refine zbi ?_
 refine AW_x rfl rfl λK hK=>?_
 simp (disch:=omega)
 repeat' first|(refine ⟨by omega,?_⟩)|(intro _)
 refine hK _ ?_;clear hK K
 refine zbh rfl (λhc1=>?_) (λhc1=>?_)
 ·try simp at hc1
  all_goals
   refine AW_x rfl rfl λK hK=>?_
   simp (disch:=omega)
   repeat' first|(exfalso;omega)|(refine ⟨λ_=>?_,λ_=>?_⟩)|(refine ⟨by omega,?_⟩)|(intro _)
   all_goals (refine hK _ ?_;clear hK K)
   all_goals
    refine zbp (zb0 [8] [] (by simp [zG13,List.range_succ]) (by simp) ?_)
    simp (disch:=omega)
    all_goals exact ⟨by omega,zcn hs _,zct hs _⟩
 ·try simp at hc1
  all_goals
   refine zbj ?_
   refine zbn ?_
   refine AW_x rfl rfl λK hK=>?_
   simp (disch:=omega)
   repeat' first|(exfalso;omega)|(refine ⟨λ_=>?_,λ_=>?_⟩)|(refine ⟨by omega,?_⟩)|(intro _)
   all_goals (refine hK _ ?_;clear hK K)
   all_goals
    refine AW_d rfl mix (by kernel_rfl) (by kernel_rfl) λK hK=>?_
    simp (disch:=omega)
    repeat' first|(refine ⟨by omega,?_⟩)|(intro _)
    refine hK _ _ (by kernel_rfl) ?_;clear hK K
    refine AW_x rfl rfl λK hK=>?_
    simp (disch:=omega)
    repeat' first|(refine ⟨by omega,?_⟩)|(intro _)
    refine hK _ ?_;clear hK K
    refine zda (LeS.cwin (sz:=2) (c0:=c0) (xs:=rows.take k++rows.drop (k+1)) 8 (by simp [zG13];exact del_eq rows k hk)) ?_
    refine AW_x rfl rfl λK hK=>?_
    simp (disch:=omega)
    repeat' first|(refine ⟨by omega,?_⟩)|(intro _)
    refine hK _ ?_;clear hK K
    refine zbp (zb0 [8] [] (by simp [zG13,List.range_succ]) (by simp) ?_)
    simp (disch:=omega)
    all_goals exact ⟨by omega,zcn hs _,zct hs _⟩
theorem zc9{y:List AV}(hy:∀x∈y,scal0 x=true):scR [y]=true:=by simp [scR];exact hy
theorem take_A{α:Type}(A B:List α)(n:Nat)(h:n=A.length):(A++B).take n=A:=by subst h;simp
theorem drop_A{α:Type}(A B:List α)(n:Nat)(h:n=A.length):(A++B).drop n=B:=by subst h;simp
theorem zhr{α:Type}(l:List α)(k:Nat)(h:k<l.length):List.take k (List.take (k+1) l++(List.take (l.length-k) (List.drop k l)++List.drop (k+1+(l.length-k)) l))=l.take k:=by
 rw [List.take_append_of_le_length (by simp;omega),List.take_take,Nat.min_eq_left (by omega)]
theorem zha{α:Type}(y:α)(n k:Nat)(h:k<n):List.take (n+1-k) [y]=[y]:=List.take_of_length_le (by simp;omega)
theorem zhs{α:Type}(l:List α)(k:Nat)(h:k<l.length):List.drop (k+1) (List.take (k+1) l++(List.take (l.length-k) (List.drop k l)++List.drop (k+1+(l.length-k)) l))=l.drop k:=by
 rw [drop_A _ _ _ (by simp;omega),List.take_of_length_le (l:=List.drop k l) (by simp),List.drop_eq_nil_of_le (i:=k+1+(l.length-k)) (by omega),List.append_nil]
theorem ins_q0{α:Type}(l:List α)(y z:α)(k:Nat)(h:k<l.length):List.take k (List.take k l++List.replicate (l.length+1-k) z)++(List.take (l.length+1-k) [y]++List.drop (k+1) (List.take k l++List.replicate (l.length+1-k) z))=(l.take k++[y])++List.replicate (l.length-k) z:=by
 rw [take_A _ _ _ (by simp;omega),zha y _ _ h,List.drop_append,List.drop_eq_nil_of_le (by simp;omega)]
 have e:k+1-(List.take k l).length=1:=by simp;omega
 rw [e,List.drop_replicate,show l.length+1-k-1=l.length-k by omega]
 simp
theorem zht{α:Type}(l:List α)(y z:α)(k:Nat)(h:k<l.length):List.take (k+1) (List.take k (List.take k l++List.replicate (l.length+1-k) z)++(List.take (l.length+1-k) [y]++List.drop (k+1) (List.take k l++List.replicate (l.length+1-k) z)))=l.take k++[y]:=by
 rw [ins_q0 l y z k h,take_A _ _ _ (by simp;omega)]
theorem zhu{α:Type}(l:List α)(y z:α)(k:Nat)(h:k<l.length):List.drop (k+1+(l.length-k)) (List.take k (List.take k l++List.replicate (l.length+1-k) z)++(List.take (l.length+1-k) [y]++List.drop (k+1) (List.take k l++List.replicate (l.length+1-k) z)))=[]:=by
 rw [ins_q0 l y z k h,List.drop_eq_nil_of_le (by simp;omega)]
theorem zhv{α:Type}(l:List α)(k:Nat):List.take (l.length-k) (List.drop k l)=l.drop k:=List.take_of_length_le (by simp)
attribute [local simp] List.range_succ
theorem insertCSet(rows:List (List AV))(hs:scR rows=true)(y:List AV)(hy:∀x∈y,scal0 x=true)(k:Nat)(hk:k≤rows.length)(hl:rows.length≤1048576):XCall Try.prog 89 [.arr 8 0 rows.length,(.g (.int .i64 ((k:Nat)))),.arr 9 0 1] [.own 2 rows,.own 2 [y]] (.arr 16 0 (rows.length+1)) [.dead,.dead] [.own 2 (rows.take k++y :: rows.drop k)]:=by
 refine zbs Try.func89 (by rfl) (by rfl) (by rw [Try.ntmps89];exact Nat.le_of_ble_eq_true rfl) rfl (by simp) rfl rfl ?_
 rw [Try.ntmps89]
 refine zzv (.win 2 rows) (.win 2 [y]) (by simp [cvO]<;>assumption) (by simp [cvO]<;>assumption) ?_
 refine AW_k [(0,_),(1,_),(2,_)] ⟨rfl,rfl,rfl,trivial⟩ ?_
 refine AW_x rfl rfl λK hK=>?_
 simp (disch:=omega)
 repeat' first|(refine ⟨by omega,?_⟩)|(intro _)
 refine hK _ ?_;clear hK K
 refine AW_x rfl rfl λK hK=>?_
 simp (disch:=omega)
 repeat' first|(refine ⟨by omega,?_⟩)|(intro _)
 refine hK _ ?_;clear hK K
 refine AW_x rfl rfl λK hK=>?_
 simp (disch:=omega)
 repeat' first|(refine ⟨by omega,?_⟩)|(intro _)
 refine hK _ ?_;clear hK K
 refine zbi ?_
 refine AW_x rfl rfl λK hK=>?_
 simp (disch:=omega)
 repeat' first|(refine ⟨by omega,?_⟩)|(intro _)
 refine hK _ ?_;clear hK K
 refine zbh rfl (λhc2=>?_) (λhc2=>?_)
 ·try simp at hc2
  all_goals
   refine AW_x rfl rfl λK hK=>?_
   simp (disch:=omega)
   repeat' first|(exfalso;omega)|(refine ⟨λ_=>?_,λ_=>?_⟩)|(refine ⟨by omega,?_⟩)|(intro _)
   all_goals (refine hK _ ?_;clear hK K)
   all_goals
    refine zbp (zb0 [8] [] (by simp [zG13,List.range_succ]) (by simp) ?_)
    simp (disch:=omega)
    all_goals first | omega|(exfalso;simp_all;done)|(obtain rfl:k=rows.length:=(by omega);rw [List.take_of_length_le (by omega),List.drop_eq_nil_of_le (by omega)];exact ⟨rfl,hs,hy⟩)|(have hkl:k<rows.length:=(by omega);rw [zhr rows k hkl,zha y _ _ hkl,zhs rows k hkl];exact ⟨rfl,zcn hs _,zc9 hy,zct hs _⟩)|(have hkl:k<rows.length:=(by omega);rw [zht rows y _ k hkl,zhv,zhu rows y _ k hkl];exact ⟨by simp,by rw [zd4,zcn hs,zc9 hy];rfl,zct hs _,rfl⟩) | trace_state
 ·try simp at hc2
  all_goals
   refine zbj ?_
   refine zbn ?_
   refine AW_x rfl rfl λK hK=>?_
   simp (disch:=omega)
   repeat' first|(exfalso;omega)|(refine ⟨λ_=>?_,λ_=>?_⟩)|(refine ⟨by omega,?_⟩)|(intro _)
   all_goals (refine hK _ ?_;clear hK K)
   all_goals
    refine zbi ?_
    refine AW_x rfl rfl λK hK=>?_
    simp (disch:=omega)
    repeat' first|(refine ⟨by omega,?_⟩)|(intro _)
    refine hK _ ?_;clear hK K
    refine zbh rfl (λhc3=>?_) (λhc3=>?_)
    ·try simp at hc3
     all_goals
      refine AW_x rfl rfl λK hK=>?_
      simp (disch:=omega)
      repeat' first|(exfalso;omega)|(refine ⟨λ_=>?_,λ_=>?_⟩)|(refine ⟨by omega,?_⟩)|(intro _)
      all_goals (refine hK _ ?_;clear hK K)
      all_goals
       refine zbp (zb0 [416] [] (by simp [zG13,List.range_succ]) (by simp) ?_)
       simp (disch:=omega)
       all_goals first | omega|(exfalso;simp_all;done)|(obtain rfl:k=rows.length:=(by omega);rw [List.take_of_length_le (by omega),List.drop_eq_nil_of_le (by omega)];exact ⟨rfl,hs,hy⟩)|(have hkl:k<rows.length:=(by omega);rw [zhr rows k hkl,zha y _ _ hkl,zhs rows k hkl];exact ⟨rfl,zcn hs _,zc9 hy,zct hs _⟩)|(have hkl:k<rows.length:=(by omega);rw [zht rows y _ k hkl,zhv,zhu rows y _ k hkl];exact ⟨by simp,by rw [zd4,zcn hs,zc9 hy];rfl,zct hs _,rfl⟩) | trace_state
    ·try simp at hc3
     all_goals
      refine zbj ?_
      refine zbn ?_
      refine zbi ?_
      refine zmw (sz:=2) (xs:=rows) 8 (by simp [zG13]) (by omega) λc0 hc0=>?_
      refine AW_x rfl rfl λK hK=>?_
      simp (disch:=omega)
      repeat' first|(exfalso;omega)|(refine ⟨λ_=>?_,λ_=>?_⟩)|(refine ⟨by omega,?_⟩)|(intro _)
      all_goals (refine hK _ ?_;clear hK K)
      all_goals
       refine zbh rfl (λhc4=>?_) (λhc4=>?_)
       ·try simp at hc4
        all_goals
         refine AW_x rfl rfl λK hK=>?_
         simp (disch:=omega)
         repeat' first|(exfalso;omega)|(refine ⟨λ_=>?_,λ_=>?_⟩)|(refine ⟨by omega,?_⟩)|(intro _)
         all_goals (refine hK _ ?_;clear hK K)
         all_goals
          refine zmw (sz:=2) 656 (by simp [zG13];exact rfl) (by simp;omega) λc1 hc1'=>?_
          have hc1:rows.length+1≤c1:=by simp at hc1';omega
          refine AW_x rfl rfl λK hK=>?_
          simp (disch:=omega)
          repeat' first|(refine ⟨by omega,?_⟩)|(intro _)
          refine hK _ ?_;clear hK K
          refine AW_d rfl mix (by kernel_rfl) (by kernel_rfl) λK hK=>?_
          simp (disch:=omega)
          repeat' first|(refine ⟨by omega,?_⟩)|(intro _)
          refine hK _ _ (by kernel_rfl) ?_;clear hK K
          refine zda (LeS.cwin (sz:=2) (c0:=c1) 656 (by simp [zG13];exact rfl)) ?_
          refine AW_x rfl rfl λK hK=>?_
          simp (disch:=omega)
          repeat' first|(refine ⟨by omega,?_⟩)|(intro _)
          refine hK _ ?_;clear hK K
          refine zbp (zb0 [656] [] (by simp [zG13,List.range_succ]) (by simp) ?_)
          simp (disch:=omega)
          all_goals first | omega|(exfalso;simp_all;done)|(obtain rfl:k=rows.length:=(by omega);rw [List.take_of_length_le (by omega),List.drop_eq_nil_of_le (by omega)];exact ⟨rfl,hs,hy⟩)|(have hkl:k<rows.length:=(by omega);rw [zhr rows k hkl,zha y _ _ hkl,zhs rows k hkl];exact ⟨rfl,zcn hs _,zc9 hy,zct hs _⟩)|(have hkl:k<rows.length:=(by omega);rw [zht rows y _ k hkl,zhv,zhu rows y _ k hkl];exact ⟨by simp,by rw [zd4,zcn hs,zc9 hy];rfl,zct hs _,rfl⟩) | trace_state
       ·try simp at hc4
        all_goals
         refine zbj ?_
         refine zbn ?_
         refine AW_x rfl rfl λK hK=>?_
         simp (disch:=omega)
         repeat' first|(exfalso;omega)|(refine ⟨λ_=>?_,λ_=>?_⟩)|(refine ⟨by omega,?_⟩)|(intro _)
         all_goals (refine hK _ ?_;clear hK K)
         all_goals
          refine zbi ?_
          refine AW_x rfl rfl λK hK=>?_
          simp (disch:=omega)
          repeat' first|(exfalso;omega)|(refine XKd_o (sz:=2) (xs:=[y]) (sz':=2) (ys:=rows) (c:=c0) Try.f101 24 4 75 _ Try.func101 (by rfl) (by rfl) (by kernel_rfl) (by kernel_rfl) (by rfl) (by rfl) ⟨rfl,by decide,by simp [zG13],by omega,by simp,by simp [zG13],by omega,by omega⟩ ?_;simp (disch:=omega))|(refine ⟨by omega,?_⟩)|(intro _)
          refine hK _ ?_;clear hK K
          refine zbh rfl (λhc5=>?_) (λhc5=>?_)
          ·try simp at hc5
           all_goals
            refine AW_d rfl mix (by kernel_rfl) (by kernel_rfl) λK hK=>?_
            simp (disch:=omega)
            repeat' first|(exfalso;omega)|(refine ⟨λ_=>?_,λ_=>?_⟩)|(refine ⟨by omega,?_⟩)|(intro _)
            all_goals (refine hK _ _ (by kernel_rfl) ?_;clear hK K)
            all_goals
             refine AW_x rfl rfl λK hK=>?_
             simp (disch:=omega)
             repeat' first|(refine ⟨by omega,?_⟩)|(intro _)
             refine hK _ ?_;clear hK K
             refine zda (LeS.cwin (sz:=2) (c0:=c0) 8 (by simp [zG13];exact rfl)) ?_
             refine AW_x rfl rfl λK hK=>?_
             simp (disch:=omega)
             repeat' first|(refine ⟨by omega,?_⟩)|(intro _)
             refine hK _ ?_;clear hK K
             refine zbp (zb0 [8] [] (by simp [zG13,List.range_succ]) (by simp) ?_)
             simp (disch:=omega)
             all_goals first | omega|(exfalso;simp_all;done)|(obtain rfl:k=rows.length:=(by omega);rw [List.take_of_length_le (by omega),List.drop_eq_nil_of_le (by omega)];exact ⟨rfl,hs,hy⟩)|(have hkl:k<rows.length:=(by omega);rw [zhr rows k hkl,zha y _ _ hkl,zhs rows k hkl];exact ⟨rfl,zcn hs _,zc9 hy,zct hs _⟩)|(have hkl:k<rows.length:=(by omega);rw [zht rows y _ k hkl,zhv,zhu rows y _ k hkl];exact ⟨by simp,by rw [zd4,zcn hs,zc9 hy];rfl,zct hs _,rfl⟩) | trace_state
          ·try simp at hc5
           all_goals
            refine zbj ?_
            refine zbn ?_
            refine AW_x rfl rfl λK hK=>?_
            simp (disch:=omega)
            repeat' first|(exfalso;omega)|(refine ⟨λ_=>?_,λ_=>?_⟩)|(refine ⟨by omega,?_⟩)|(intro _)
            all_goals (refine hK _ ?_;clear hK K)
            all_goals
             refine AW_x rfl rfl λK hK=>?_
             simp (disch:=omega)
             repeat' first|(exfalso;omega)|(refine ⟨by omega,?_⟩)|(intro _)
             refine hK _ ?_;clear hK K
             refine AW_x rfl rfl λK hK=>?_
             simp (disch:=omega)
             repeat' first|(refine ⟨by omega,?_⟩)|(intro _)
             refine hK _ ?_;clear hK K
             refine zbp (zb0 [8] [] (by simp [zG13,List.range_succ]) (by simp) ?_)
             simp (disch:=omega)
             all_goals first | omega|(exfalso;simp_all;done)|(obtain rfl:k=rows.length:=(by omega);rw [List.take_of_length_le (by omega),List.drop_eq_nil_of_le (by omega)];exact ⟨rfl,hs,hy⟩)|(have hkl:k<rows.length:=(by omega);rw [zhr rows k hkl,zha y _ _ hkl,zhs rows k hkl];exact ⟨rfl,zcn hs _,zc9 hy,zct hs _⟩)|(have hkl:k<rows.length:=(by omega);rw [zht rows y _ k hkl,zhv,zhu rows y _ k hkl];exact ⟨by simp,by rw [zd4,zcn hs,zc9 hy];rfl,zct hs _,rfl⟩) | trace_state
theorem insertSaid(rows:List (List AV))(hs:scR rows=true)(y:List AV)(hy:∀x∈y,scal0 x=true)(k:Nat)(hk:k≤rows.length)(hl:rows.length≤1048576):XCall Try.prog 33 [.arr 8 0 rows.length,(.g (.int .i64 ((k:Nat)))),.arr 9 0 1] [.own 3 rows,.own 3 [y]] (.arr 16 0 (rows.length+1)) [.dead,.dead] [.own 3 (rows.take k++y :: rows.drop k)]:=by
 refine zbs Try.func33 (by rfl) (by rfl) (by rw [Try.ntmps33];exact Nat.le_of_ble_eq_true rfl) rfl (by simp) rfl rfl ?_
 rw [Try.ntmps33]
 refine zzv (.win 3 rows) (.win 3 [y]) (by simp [cvO]<;>assumption) (by simp [cvO]<;>assumption) ?_
 refine AW_k [(0,_),(1,_),(2,_)] ⟨rfl,rfl,rfl,trivial⟩ ?_
 refine AW_x rfl rfl λK hK=>?_
 simp (disch:=omega)
 repeat' first|(refine ⟨by omega,?_⟩)|(intro _)
 refine hK _ ?_;clear hK K
 refine AW_x rfl rfl λK hK=>?_
 simp (disch:=omega)
 repeat' first|(refine ⟨by omega,?_⟩)|(intro _)
 refine hK _ ?_;clear hK K
 refine AW_x rfl rfl λK hK=>?_
 simp (disch:=omega)
 repeat' first|(refine ⟨by omega,?_⟩)|(intro _)
 refine hK _ ?_;clear hK K
 refine zbi ?_
 refine AW_x rfl rfl λK hK=>?_
 simp (disch:=omega)
 repeat' first|(refine ⟨by omega,?_⟩)|(intro _)
 refine hK _ ?_;clear hK K
 refine zbh rfl (λhc6=>?_) (λhc6=>?_)
 ·try simp at hc6
  all_goals
   refine AW_x rfl rfl λK hK=>?_
   simp (disch:=omega)
   repeat' first|(exfalso;omega)|(refine ⟨λ_=>?_,λ_=>?_⟩)|(refine ⟨by omega,?_⟩)|(intro _)
   all_goals (refine hK _ ?_;clear hK K)
   all_goals
    refine zbp (zb0 [8] [] (by simp [zG13,List.range_succ]) (by simp) ?_)
    simp (disch:=omega)
    all_goals first | omega|(exfalso;simp_all;done)|(obtain rfl:k=rows.length:=(by omega);rw [List.take_of_length_le (by omega),List.drop_eq_nil_of_le (by omega)];exact ⟨rfl,hs,hy⟩)|(have hkl:k<rows.length:=(by omega);rw [zhr rows k hkl,zha y _ _ hkl,zhs rows k hkl];exact ⟨rfl,zcn hs _,zc9 hy,zct hs _⟩)|(have hkl:k<rows.length:=(by omega);rw [zht rows y _ k hkl,zhv,zhu rows y _ k hkl];exact ⟨by simp,by rw [zd4,zcn hs,zc9 hy];rfl,zct hs _,rfl⟩) | trace_state
 ·try simp at hc6
  all_goals
   refine zbj ?_
   refine zbn ?_
   refine AW_x rfl rfl λK hK=>?_
   simp (disch:=omega)
   repeat' first|(exfalso;omega)|(refine ⟨λ_=>?_,λ_=>?_⟩)|(refine ⟨by omega,?_⟩)|(intro _)
   all_goals (refine hK _ ?_;clear hK K)
   all_goals
    refine zbi ?_
    refine AW_x rfl rfl λK hK=>?_
    simp (disch:=omega)
    repeat' first|(refine ⟨by omega,?_⟩)|(intro _)
    refine hK _ ?_;clear hK K
    refine zbh rfl (λhc7=>?_) (λhc7=>?_)
    ·try simp at hc7
     all_goals
      refine AW_x rfl rfl λK hK=>?_
      simp (disch:=omega)
      repeat' first|(exfalso;omega)|(refine ⟨λ_=>?_,λ_=>?_⟩)|(refine ⟨by omega,?_⟩)|(intro _)
      all_goals (refine hK _ ?_;clear hK K)
      all_goals
       refine zbp (zb0 [416] [] (by simp [zG13,List.range_succ]) (by simp) ?_)
       simp (disch:=omega)
       all_goals first | omega|(exfalso;simp_all;done)|(obtain rfl:k=rows.length:=(by omega);rw [List.take_of_length_le (by omega),List.drop_eq_nil_of_le (by omega)];exact ⟨rfl,hs,hy⟩)|(have hkl:k<rows.length:=(by omega);rw [zhr rows k hkl,zha y _ _ hkl,zhs rows k hkl];exact ⟨rfl,zcn hs _,zc9 hy,zct hs _⟩)|(have hkl:k<rows.length:=(by omega);rw [zht rows y _ k hkl,zhv,zhu rows y _ k hkl];exact ⟨by simp,by rw [zd4,zcn hs,zc9 hy];rfl,zct hs _,rfl⟩) | trace_state
    ·try simp at hc7
     all_goals
      refine zbj ?_
      refine zbn ?_
      refine zbi ?_
      refine zmw (sz:=3) (xs:=rows) 8 (by simp [zG13]) (by omega) λc0 hc0=>?_
      refine AW_x rfl rfl λK hK=>?_
      simp (disch:=omega)
      repeat' first|(exfalso;omega)|(refine ⟨λ_=>?_,λ_=>?_⟩)|(refine ⟨by omega,?_⟩)|(intro _)
      all_goals (refine hK _ ?_;clear hK K)
      all_goals
       refine zbh rfl (λhc8=>?_) (λhc8=>?_)
       ·try simp at hc8
        all_goals
         refine AW_x rfl rfl λK hK=>?_
         simp (disch:=omega)
         repeat' first|(exfalso;omega)|(refine ⟨λ_=>?_,λ_=>?_⟩)|(refine ⟨by omega,?_⟩)|(intro _)
         all_goals (refine hK _ ?_;clear hK K)
         all_goals
          refine zmw (sz:=3) 656 (by simp [zG13];exact rfl) (by simp;omega) λc1 hc1'=>?_
          have hc1:rows.length+1≤c1:=by simp at hc1';omega
          refine AW_x rfl rfl λK hK=>?_
          simp (disch:=omega)
          repeat' first|(refine ⟨by omega,?_⟩)|(intro _)
          refine hK _ ?_;clear hK K
          refine AW_d rfl mix (by kernel_rfl) (by kernel_rfl) λK hK=>?_
          simp (disch:=omega)
          repeat' first|(refine ⟨by omega,?_⟩)|(intro _)
          refine hK _ _ (by kernel_rfl) ?_;clear hK K
          refine zda (LeS.cwin (sz:=3) (c0:=c1) 656 (by simp [zG13];exact rfl)) ?_
          refine AW_x rfl rfl λK hK=>?_
          simp (disch:=omega)
          repeat' first|(refine ⟨by omega,?_⟩)|(intro _)
          refine hK _ ?_;clear hK K
          refine zbp (zb0 [656] [] (by simp [zG13,List.range_succ]) (by simp) ?_)
          simp (disch:=omega)
          all_goals first | omega|(exfalso;simp_all;done)|(obtain rfl:k=rows.length:=(by omega);rw [List.take_of_length_le (by omega),List.drop_eq_nil_of_le (by omega)];exact ⟨rfl,hs,hy⟩)|(have hkl:k<rows.length:=(by omega);rw [zhr rows k hkl,zha y _ _ hkl,zhs rows k hkl];exact ⟨rfl,zcn hs _,zc9 hy,zct hs _⟩)|(have hkl:k<rows.length:=(by omega);rw [zht rows y _ k hkl,zhv,zhu rows y _ k hkl];exact ⟨by simp,by rw [zd4,zcn hs,zc9 hy];rfl,zct hs _,rfl⟩) | trace_state
       ·try simp at hc8
        all_goals
         refine zbj ?_
         refine zbn ?_
         refine AW_x rfl rfl λK hK=>?_
         simp (disch:=omega)
         repeat' first|(exfalso;omega)|(refine ⟨λ_=>?_,λ_=>?_⟩)|(refine ⟨by omega,?_⟩)|(intro _)
         all_goals (refine hK _ ?_;clear hK K)
         all_goals
          refine zbi ?_
          refine AW_x rfl rfl λK hK=>?_
          simp (disch:=omega)
          repeat' first|(exfalso;omega)|(refine XKd_o (sz:=3) (xs:=[y]) (sz':=3) (ys:=rows) (c:=c0) Try.f70 27 4 59 _ Try.func70 (by rfl) (by rfl) (by kernel_rfl) (by kernel_rfl) (by rfl) (by rfl) ⟨rfl,by decide,by simp [zG13],by omega,by simp,by simp [zG13],by omega,by omega⟩ ?_;simp (disch:=omega))|(refine ⟨by omega,?_⟩)|(intro _)
          refine hK _ ?_;clear hK K
          refine zbh rfl (λhc9=>?_) (λhc9=>?_)
          ·try simp at hc9
           all_goals
            refine AW_d rfl mix (by kernel_rfl) (by kernel_rfl) λK hK=>?_
            simp (disch:=omega)
            repeat' first|(exfalso;omega)|(refine ⟨λ_=>?_,λ_=>?_⟩)|(refine ⟨by omega,?_⟩)|(intro _)
            all_goals (refine hK _ _ (by kernel_rfl) ?_;clear hK K)
            all_goals
             refine AW_x rfl rfl λK hK=>?_
             simp (disch:=omega)
             repeat' first|(refine ⟨by omega,?_⟩)|(intro _)
             refine hK _ ?_;clear hK K
             refine zda (LeS.cwin (sz:=3) (c0:=c0) 8 (by simp [zG13];exact rfl)) ?_
             refine AW_x rfl rfl λK hK=>?_
             simp (disch:=omega)
             repeat' first|(refine ⟨by omega,?_⟩)|(intro _)
             refine hK _ ?_;clear hK K
             refine zbp (zb0 [8] [] (by simp [zG13,List.range_succ]) (by simp) ?_)
             simp (disch:=omega)
             all_goals first | omega|(exfalso;simp_all;done)|(obtain rfl:k=rows.length:=(by omega);rw [List.take_of_length_le (by omega),List.drop_eq_nil_of_le (by omega)];exact ⟨rfl,hs,hy⟩)|(have hkl:k<rows.length:=(by omega);rw [zhr rows k hkl,zha y _ _ hkl,zhs rows k hkl];exact ⟨rfl,zcn hs _,zc9 hy,zct hs _⟩)|(have hkl:k<rows.length:=(by omega);rw [zht rows y _ k hkl,zhv,zhu rows y _ k hkl];exact ⟨by simp,by rw [zd4,zcn hs,zc9 hy];rfl,zct hs _,rfl⟩) | trace_state
          ·try simp at hc9
           all_goals
            refine zbj ?_
            refine zbn ?_
            refine AW_x rfl rfl λK hK=>?_
            simp (disch:=omega)
            repeat' first|(exfalso;omega)|(refine ⟨λ_=>?_,λ_=>?_⟩)|(refine ⟨by omega,?_⟩)|(intro _)
            all_goals (refine hK _ ?_;clear hK K)
            all_goals
             refine AW_x rfl rfl λK hK=>?_
             simp (disch:=omega)
             repeat' first|(exfalso;omega)|(refine ⟨by omega,?_⟩)|(intro _)
             refine hK _ ?_;clear hK K
             refine AW_x rfl rfl λK hK=>?_
             simp (disch:=omega)
             repeat' first|(refine ⟨by omega,?_⟩)|(intro _)
             refine hK _ ?_;clear hK K
             refine zbp (zb0 [8] [] (by simp [zG13,List.range_succ]) (by simp) ?_)
             simp (disch:=omega)
             all_goals first | omega|(exfalso;simp_all;done)|(obtain rfl:k=rows.length:=(by omega);rw [List.take_of_length_le (by omega),List.drop_eq_nil_of_le (by omega)];exact ⟨rfl,hs,hy⟩)|(have hkl:k<rows.length:=(by omega);rw [zhr rows k hkl,zha y _ _ hkl,zhs rows k hkl];exact ⟨rfl,zcn hs _,zc9 hy,zct hs _⟩)|(have hkl:k<rows.length:=(by omega);rw [zht rows y _ k hkl,zhv,zhu rows y _ k hkl];exact ⟨by simp,by rw [zd4,zcn hs,zc9 hy];rfl,zct hs _,rfl⟩) | trace_state
end Go.Proofs.Ytodmafgmdlkhoaa.Vs
end
section
namespace Go.Proofs.Ytodmafgmdlkhoaa.Vs
set_option linter.all false
set_option maxRecDepth 100000
def CatB(c:DtCatalog):Prop:=c.fSets.length≤1048576∧(∀i (h:i<c.fSets.length),c.fSets[i].fSnaps.length≤1048576)∧∀i (h:i<c.fSets.length) k (h2:k<c.fSets[i].fSnaps.length),c.fSets[i].fSnaps[k].fChunks.length≤1048576
theorem zqy(c:DtCatalog)(hs:DtCatalog.sz c≤1048576):CatB c:=by
 have h0:=zck DtCSet.sz_nonneg c.fSets
 simp only [DtCatalog.sz,szS] at hs
 refine ⟨by omega,λi h=>?_,λi h k h2=>?_⟩
 ·have h1:=zdu DtCSet.sz_nonneg c.fSets c.fSets[i] (List.getElem_mem _)
  have h2:=zck DtCSnap.sz_nonneg c.fSets[i].fSnaps
  simp only [DtCSet.sz,szS] at h1
  omega
 ·have h1:=zdu DtCSet.sz_nonneg c.fSets c.fSets[i] (List.getElem_mem _)
  have h3:=zdu DtCSnap.sz_nonneg c.fSets[i].fSnaps c.fSets[i].fSnaps[k] (List.getElem_mem _)
  have h4:=zck zdt c.fSets[i].fSnaps[k].fChunks
  simp only [DtCSet.sz,szS] at h1
  simp only [DtCSnap.sz,szS] at h3
  omega
theorem tkm_s{α β:Type}(f:α→β)(l:List α)(i:Nat)(h:i<l.length):List.take (i+1) (l.map f)=List.take i (l.map f)++[f l[i]]:=by
 rw [List.take_succ_eq_append_getElem (by simpa using h)];simp
attribute [local simp] DtCatalog.cells DtCSet.cells DtCSnap.cells zbl
theorem zpr(l:List (List UInt8))(hl:l.length≤1048576):XCall Try.prog 85 [.sl 1 (l.map cS)] [] (.arr 16 0 l.length) [] [.own 1 (l.map cS)]:=by
 refine zbs Try.func85 (by rfl) (by rfl) (by rw [Try.ntmps85];exact Nat.le_of_ble_eq_true rfl) rfl (by simp) rfl rfl ?_
 rw [Try.ntmps85]
 refine zf1   ?_
 refine AW_k [(0,_)] ⟨rfl,trivial⟩ ?_
 refine AW_x rfl rfl λK hK=>?_
 simp (disch:=omega)
 repeat' first|(refine ⟨by omega,?_⟩)|(intro _)
 refine hK _ ?_;clear hK K
 refine AW_x rfl rfl λK hK=>?_
 simp (disch:=omega)
 repeat' first|(refine ⟨by omega,?_⟩)|(intro _)
 refine hK _ ?_;clear hK K
 refine zbp (zb0 [80] [] (by simp [zG13,List.range_succ]) (by simp) ?_)
 simp (disch:=omega)
 all_goals first | omega | trace_state
theorem zxl(c:DtCatalog)(hb:CatB c):XCall Try.prog 57 [.agg (DtCatalog.cells c)] [] (.agg [.arr 16 0 c.fSets.length]) [] [.own 2 (c.fSets.map DtCSet.cells)]:=by
 obtain ⟨hb1,hb2,hb3⟩:=hb
 refine zbs Try.func57 (by rfl) (by rfl) (by rw [Try.ntmps57];exact Nat.le_of_ble_eq_true rfl) rfl (by simp) rfl rfl ?_
 rw [Try.ntmps57]
 refine zf1   ?_
 refine AW_k [(0,_)] ⟨rfl,trivial⟩ ?_
 refine AW_x rfl rfl λK hK=>?_
 simp (disch:=omega)
 repeat' first|(refine ⟨by omega,?_⟩)|(intro _)
 refine hK _ ?_;clear hK K
 refine AW_x rfl rfl λK hK=>?_
 simp (disch:=omega)
 repeat' first|(refine ⟨by omega,?_⟩)|(simp (disch:=omega))|(intro _)
 refine hK _ ?_;clear hK K
 refine zbi ?_
 refine AW_x rfl rfl λK hK=>?_
 simp (disch:=omega)
 repeat' first|(refine ⟨by omega,?_⟩)|(simp (disch:=omega))|(intro _)
 refine hK _ ?_;clear hK K
 refine zbm ?_
 refine zbv (λmM sS=>∃(i:Nat),mM=c.fSets.length-i∧(i≤c.fSets.length)∧sS = { env:=lkE [(2,.ptr 48 0),(3,.ptr 64 0),(11,.sl 2 (c.fSets.map DtCSet.cells)),(12,(.g (.int .i64 ((c.fSets.length:Nat))))),(13,(.g (.int .i64 ((i:Nat)))))],ob:=lk [(48,.cells [.g (.slice none 0 0)]),(64,.cells [.arr 500 0 i]),(500,.own 2 ((c.fSets.take i).map DtCSet.cells))] }) ?_ ?_
 ·refine ⟨_,LeS.trans (LeS.znc (cs:=[.g (.slice none 0 0)]) 500 2 64 0 (by simp [zG13,zbk]) (by simp [zG13,zbk,DtCatalog.cells,DtCSet.cells]) (by rfl)) (LeS.kx [(48,48),(64,64),(500,500)] [(2,.ptr 48 0),(3,.ptr 64 0),(11,.sl 2 (c.fSets.map DtCSet.cells)),(12,(.g (.int .i64 ((c.fSets.length:Nat))))),(13,(.g (.int .i64 (((0):Nat)))))] [(48,.cells [.g (.slice none 0 0)]),(64,.cells [.arr 500 0 (0)]),(500,.own 2 ((c.fSets.take (0)).map DtCSet.cells))] (by simp [zG13,KpR,renV2,renV,zbk,DtCatalog.cells,DtCSet.cells];try rfl) (by simp [zG13,KpOX,renO,plO,cvO,renV,pl1,DtCatalog.cells,DtCSet.cells];try (first | rfl|(rw [htk];rfl))) (by rfl) (by simp) (by simp) (by rfl) (by simp [formsX,List.range_succ,zbq,zby])),_,0,rfl,?_,rfl⟩
  ·simp
 ·rintro mM sS ⟨i,rfl,hi,rfl⟩
  refine AW_x rfl rfl λK hK=>?_
  simp (disch:=omega)
  repeat' first|(refine ⟨by omega,?_⟩)|(intro _)
  refine hK _ ?_;clear hK K
  refine zbi ?_
  refine zbh rfl (λhc1=>?_) (λhc1=>?_)
  ·try simp at hc1
   all_goals
    have hn2:=hb2 i (by omega)
    have htk:=tkm_s DtCSet.cells c.fSets i (by omega)
    refine zbj ?_
    refine zbn ?_
    refine zbi ?_
    refine zbm ?_
    refine AW_x rfl rfl λK hK=>?_
    simp (disch:=omega)
    repeat' first|(exfalso;omega)|(refine ⟨λ_=>?_,λ_=>?_⟩)|(refine ⟨by omega,?_⟩)|(simp (disch:=omega))|(intro _)
    all_goals (refine hK _ ?_;clear hK K)
    all_goals
     refine AW_x rfl rfl λK hK=>?_
     simp (disch:=omega)
     repeat' first|(refine ⟨by omega,?_⟩)|(simp (disch:=omega))|(intro _)
     refine hK _ ?_;clear hK K
     refine zbi ?_
     refine AW_x rfl rfl λK hK=>?_
     simp (disch:=omega)
     repeat' first|(refine ⟨by omega,?_⟩)|(simp (disch:=omega))|(intro _)
     refine hK _ ?_;clear hK K
     refine zbm ?_
     refine zbv (λmM sS=>∃(j:Nat),mM=c.fSets[i].fSnaps.length-j∧(j≤c.fSets[i].fSnaps.length)∧sS = { env:=lkE [(2,.ptr 48 0),(3,.ptr 64 0),(6,.ptr 112 0),(11,.sl 2 (c.fSets.map DtCSet.cells)),(12,(.g (.int .i64 ((c.fSets.length:Nat))))),(13,(.g (.int .i64 ((i:Nat))))),(21,.sl 3 (c.fSets[i].fSnaps.map DtCSnap.cells)),(22,(.g (.int .i64 ((c.fSets[i].fSnaps.length:Nat))))),(23,(.g (.int .i64 ((j:Nat)))))],ob:=lk [(48,.cells [.g (.slice none 0 0)]),(64,.cells [.arr 500 0 i]),(500,.own 2 ((c.fSets.take i).map DtCSet.cells)),(112,.cells [.s c.fSets[i].fName,.arr 501 0 j]),(501,.own 3 ((c.fSets[i].fSnaps.take j).map DtCSnap.cells))] }) ?_ ?_
     ·refine ⟨_,LeS.trans (LeS.znc (cs:=[.s c.fSets[i].fName,.g (.slice none 0 0)]) 501 3 112 1 (by simp [zG13,zbk]) (by simp [zG13,zbk,DtCatalog.cells,DtCSet.cells,DtCSnap.cells]) (by rfl)) (LeS.kx [(48,48),(64,64),(500,500),(112,112),(501,501)] [(2,.ptr 48 0),(3,.ptr 64 0),(6,.ptr 112 0),(11,.sl 2 (c.fSets.map DtCSet.cells)),(12,(.g (.int .i64 ((c.fSets.length:Nat))))),(13,(.g (.int .i64 ((i:Nat))))),(21,.sl 3 (c.fSets[i].fSnaps.map DtCSnap.cells)),(22,(.g (.int .i64 ((c.fSets[i].fSnaps.length:Nat))))),(23,(.g (.int .i64 (((0):Nat)))))] [(48,.cells [.g (.slice none 0 0)]),(64,.cells [.arr 500 0 i]),(500,.own 2 ((c.fSets.take i).map DtCSet.cells)),(112,.cells [.s c.fSets[i].fName,.arr 501 0 (0)]),(501,.own 3 ((c.fSets[i].fSnaps.take (0)).map DtCSnap.cells))] (by simp [zG13,KpR,renV2,renV,zbk,DtCatalog.cells,DtCSet.cells,DtCSnap.cells];try rfl) (by simp [zG13,KpOX,renO,plO,cvO,renV,pl1,DtCatalog.cells,DtCSet.cells,DtCSnap.cells];try (first | rfl|(rw [htk2];rfl))) (by rfl) (by simp) (by simp) (by rfl) (by simp [formsX,List.range_succ,zbq,zby])),_,0,rfl,?_,rfl⟩
      ·simp
     ·rintro mM sS ⟨j,rfl,hj,rfl⟩
      refine AW_x rfl rfl λK hK=>?_
      simp (disch:=omega)
      repeat' first|(refine ⟨by omega,?_⟩)|(intro _)
      refine hK _ ?_;clear hK K
      refine zbi ?_
      refine zbh rfl (λhc2=>?_) (λhc2=>?_)
      ·try simp at hc2
       all_goals
        have hn3:=hb3 i (by omega) j (by omega)
        have htk2:=tkm_s DtCSnap.cells c.fSets[i].fSnaps j (by omega)
        refine zbj ?_
        refine zbn ?_
        refine zbi ?_
        refine zbm ?_
        refine AW_x rfl rfl λK hK=>?_
        simp (disch:=omega)
        repeat' first|(exfalso;omega)|(refine ⟨λ_=>?_,λ_=>?_⟩)|(refine ⟨by omega,?_⟩)|(simp (disch:=omega))|(intro _)
        all_goals (refine hK _ ?_;clear hK K)
        all_goals
         refine zh2 rfl mix (by kernel_rfl) (by kernel_rfl) λK hK=>?_
         simp (disch:=omega)
         repeat' first|(exfalso;omega)|(refine zk0 [] true [] (zpr (c.fSets[i].fSnaps[j].fChunks) (by omega)) ?_ (λst' hst=>?_) ?_;(focus (simp [List.range_succ,nmC];done));(focus (simp (disch:=omega) [nmC,List.range_succ] at hst;simp (disch:=omega) [hst,zbl,nmC,List.range_succ];done));simp (disch:=omega))|(refine ⟨by omega,?_⟩)|(simp (disch:=omega))|(intro _)
         refine hK _ _ (by kernel_rfl) ?_;clear hK K
         refine zbn ?_
         refine zb3 rfl rfl λK hK=>?_
         simp (disch:=omega)
         repeat' first|(refine ⟨by omega,?_⟩)|(intro _)
         refine hK _ ?_;clear hK K
         refine ⟨_,LeS.kx [(48,48),(64,64),(500,500),(112,112),(501,624)] [(2,.ptr 48 0),(3,.ptr 64 0),(6,.ptr 112 0),(11,.sl 2 (c.fSets.map DtCSet.cells)),(12,(.g (.int .i64 ((c.fSets.length:Nat))))),(13,(.g (.int .i64 ((i:Nat))))),(21,.sl 3 (c.fSets[i].fSnaps.map DtCSnap.cells)),(22,(.g (.int .i64 ((c.fSets[i].fSnaps.length:Nat))))),(23,(.g (.int .i64 (((j+1):Nat)))))] [(48,.cells [.g (.slice none 0 0)]),(64,.cells [.arr 500 0 i]),(500,.own 2 ((c.fSets.take i).map DtCSet.cells)),(112,.cells [.s c.fSets[i].fName,.arr 501 0 (j+1)]),(501,.own 3 ((c.fSets[i].fSnaps.take (j+1)).map DtCSnap.cells))] (by simp [zG13,KpR,renV2,renV,zbk,DtCatalog.cells,DtCSet.cells,DtCSnap.cells];try rfl) (by simp [zG13,KpOX,renO,plO,cvO,renV,pl1,DtCatalog.cells,DtCSet.cells,DtCSnap.cells];try (first | rfl|(rw [htk2];rfl))) (by rfl) (by simp) (by simp) (by rfl) (by simp [formsX,List.range_succ,zbq,zby]),_,?_,j+1,rfl,?_,rfl⟩
         ·omega
         ·omega
      try simp at hc2
      have hj2:j=c.fSets[i].fSnaps.length:=by omega
      subst hj2
      refine zbx ?_
      refine zbn ?_
      refine zb3 rfl rfl λK hK=>?_
      simp (disch:=omega)
      repeat' first|(exfalso;omega)|(refine ⟨λ_=>?_,λ_=>?_⟩)|(refine ⟨by omega,?_⟩)|(simp (disch:=omega))|(intro _)
      all_goals (refine hK _ ?_;clear hK K)
      all_goals
       refine zbn ?_
       refine zb3 rfl rfl λK hK=>?_
       simp (disch:=omega)
       repeat' first|(refine ⟨by omega,?_⟩)|(intro _)
       refine hK _ ?_;clear hK K
       refine ⟨_,LeS.kx [(48,48),(64,64),(500,736)] [(2,.ptr 48 0),(3,.ptr 64 0),(11,.sl 2 (c.fSets.map DtCSet.cells)),(12,(.g (.int .i64 ((c.fSets.length:Nat))))),(13,(.g (.int .i64 (((i+1):Nat)))))] [(48,.cells [.g (.slice none 0 0)]),(64,.cells [.arr 500 0 (i+1)]),(500,.own 2 ((c.fSets.take (i+1)).map DtCSet.cells))] (by simp [zG13,KpR,renV2,renV,zbk,DtCatalog.cells,DtCSet.cells];try rfl) (by simp [zG13,KpOX,renO,plO,cvO,renV,pl1,DtCatalog.cells,DtCSet.cells];try (first | rfl|(rw [htk];rfl))) (by rfl) (by simp) (by simp) (by rfl) (by simp [formsX,List.range_succ,zbq,zby]),_,?_,i+1,rfl,?_,rfl⟩
       ·omega
       ·omega
  try simp at hc1
  refine zbx ?_
  refine zbn ?_
  refine AW_x rfl rfl λK hK=>?_
  simp (disch:=omega)
  repeat' first|(exfalso;omega)|(refine ⟨λ_=>?_,λ_=>?_⟩)|(refine ⟨by omega,?_⟩)|(simp (disch:=omega))|(intro _)
  all_goals (refine hK _ ?_;clear hK K)
  all_goals
   refine zbp (zb0 [500] [] (by simp [zG13,List.range_succ]) (by simp) ?_)
   simp (disch:=omega)
   all_goals first | omega | trace_state
theorem zxm(c:DtCatalog)(hb:CatB c):XCall Try.prog 72 [.agg (DtCatalog.cells c)] [] (.agg [.arr 16 0 c.fSets.length]) [] [.own 2 (c.fSets.map DtCSet.cells)]:=by
 obtain ⟨hb1,hb2,hb3⟩:=hb
 refine zbs Try.func72 (by rfl) (by rfl) (by rw [Try.ntmps72];exact Nat.le_of_ble_eq_true rfl) rfl (by simp) rfl rfl ?_
 rw [Try.ntmps72]
 refine zf1   ?_
 refine AW_k [(0,_)] ⟨rfl,trivial⟩ ?_
 refine AW_x rfl rfl λK hK=>?_
 simp (disch:=omega)
 repeat' first|(refine ⟨by omega,?_⟩)|(intro _)
 refine hK _ ?_;clear hK K
 refine AW_x rfl rfl λK hK=>?_
 simp (disch:=omega)
 repeat' first|(refine ⟨by omega,?_⟩)|(simp (disch:=omega))|(intro _)
 refine hK _ ?_;clear hK K
 refine zbi ?_
 refine AW_x rfl rfl λK hK=>?_
 simp (disch:=omega)
 repeat' first|(refine ⟨by omega,?_⟩)|(intro _)
 refine hK _ ?_;clear hK K
 refine zbm ?_
 refine zbv (λmM sS=>∃(i:Nat),mM=c.fSets.length-i∧(i≤c.fSets.length)∧sS = { env:=lkE [(1,.ptr 32 0),(2,.ptr 48 0),(3,.ptr 64 0),(4,(.g (.int .i64 ((i:Nat)))))],ob:=lk [(32,.cells (DtCatalog.cells c)),(48,.cells [.g (.slice none 0 0)]),(64,.cells [.arr 500 0 i]),(500,.own 2 ((c.fSets.take i).map DtCSet.cells))] }) ?_ ?_
 ·refine ⟨_,LeS.trans (LeS.znc (cs:=[.g (.slice none 0 0)]) 500 2 64 0 (by simp [zG13,zbk]) (by simp [zG13,zbk,DtCatalog.cells,DtCSet.cells]) (by rfl)) (LeS.kx [(32,32),(48,48),(64,64),(500,500)] [(1,.ptr 32 0),(2,.ptr 48 0),(3,.ptr 64 0),(4,(.g (.int .i64 (((0):Nat)))))] [(32,.cells (DtCatalog.cells c)),(48,.cells [.g (.slice none 0 0)]),(64,.cells [.arr 500 0 (0)]),(500,.own 2 ((c.fSets.take (0)).map DtCSet.cells))] (by simp [zG13,KpR,renV2,renV,zbk,DtCatalog.cells,DtCSet.cells];try rfl) (by simp [zG13,KpOX,renO,plO,cvO,renV,pl1,DtCatalog.cells,DtCSet.cells];try (first | rfl|(rw [htk];rfl))) (by rfl) (by simp) (by simp) (by rfl) (by simp [formsX,List.range_succ,zbq,zby])),_,0,rfl,?_,rfl⟩
  ·simp
 ·rintro mM sS ⟨i,rfl,hi,rfl⟩
  refine zbi ?_
  refine AW_x rfl rfl λK hK=>?_
  simp (disch:=omega)
  repeat' first|(refine ⟨by omega,?_⟩)|(simp (disch:=omega))|(intro _)
  refine hK _ ?_;clear hK K
  refine zbh rfl (λhc3=>?_) (λhc3=>?_)
  ·try simp at hc3
   all_goals
    have hn2:=hb2 i (by omega)
    have htk:=tkm_s DtCSet.cells c.fSets i (by omega)
    refine zbj ?_
    refine zbn ?_
    refine zbi ?_
    refine zbm ?_
    refine AW_x rfl rfl λK hK=>?_
    simp (disch:=omega)
    repeat' first|(exfalso;omega)|(refine ⟨λ_=>?_,λ_=>?_⟩)|(refine ⟨by omega,?_⟩)|(simp (disch:=omega))|(intro _)
    all_goals (refine hK _ ?_;clear hK K)
    all_goals
     refine zbi ?_
     refine AW_x rfl rfl λK hK=>?_
     simp (disch:=omega)
     repeat' first|(refine ⟨by omega,?_⟩)|(intro _)
     refine hK _ ?_;clear hK K
     refine zbm ?_
     refine zbv (λmM sS=>∃(j:Nat),mM=c.fSets[i].fSnaps.length-j∧(j≤c.fSets[i].fSnaps.length)∧sS = { env:=lkE [(1,.ptr 32 0),(2,.ptr 48 0),(3,.ptr 64 0),(4,(.g (.int .i64 ((i:Nat))))),(5,.ptr 96 0),(6,(.g (.int .i64 ((j:Nat)))))],ob:=lk [(32,.cells (DtCatalog.cells c)),(48,.cells [.g (.slice none 0 0)]),(64,.cells [.arr 500 0 i]),(500,.own 2 ((c.fSets.take i).map DtCSet.cells)),(96,.cells [.s c.fSets[i].fName,.arr 501 0 j]),(501,.own 3 ((c.fSets[i].fSnaps.take j).map DtCSnap.cells))] }) ?_ ?_
     ·refine ⟨_,LeS.trans (LeS.znc (cs:=[.s c.fSets[i].fName,.g (.slice none 0 0)]) 501 3 96 1 (by simp [zG13,zbk]) (by simp [zG13,zbk,DtCatalog.cells,DtCSet.cells,DtCSnap.cells]) (by rfl)) (LeS.kx [(32,32),(48,48),(64,64),(500,500),(96,96),(501,501)] [(1,.ptr 32 0),(2,.ptr 48 0),(3,.ptr 64 0),(4,(.g (.int .i64 ((i:Nat))))),(5,.ptr 96 0),(6,(.g (.int .i64 (((0):Nat)))))] [(32,.cells (DtCatalog.cells c)),(48,.cells [.g (.slice none 0 0)]),(64,.cells [.arr 500 0 i]),(500,.own 2 ((c.fSets.take i).map DtCSet.cells)),(96,.cells [.s c.fSets[i].fName,.arr 501 0 (0)]),(501,.own 3 ((c.fSets[i].fSnaps.take (0)).map DtCSnap.cells))] (by simp [zG13,KpR,renV2,renV,zbk,DtCatalog.cells,DtCSet.cells,DtCSnap.cells];try rfl) (by simp [zG13,KpOX,renO,plO,cvO,renV,pl1,DtCatalog.cells,DtCSet.cells,DtCSnap.cells];try (first | rfl|(rw [htk2];rfl))) (by rfl) (by simp) (by simp) (by rfl) (by simp [formsX,List.range_succ,zbq,zby])),_,0,rfl,?_,rfl⟩
      ·simp
     ·rintro mM sS ⟨j,rfl,hj,rfl⟩
      refine zbi ?_
      refine AW_x rfl rfl λK hK=>?_
      simp (disch:=omega)
      repeat' first|(refine ⟨by omega,?_⟩)|(simp (disch:=omega))|(intro _)
      refine hK _ ?_;clear hK K
      refine zbh rfl (λhc4=>?_) (λhc4=>?_)
      ·try simp at hc4
       all_goals
        have hn3:=hb3 i (by omega) j (by omega)
        have htk2:=tkm_s DtCSnap.cells c.fSets[i].fSnaps j (by omega)
        refine zbj ?_
        refine zbn ?_
        refine zbi ?_
        refine zbm ?_
        refine AW_x rfl rfl λK hK=>?_
        simp (disch:=omega)
        repeat' first|(exfalso;omega)|(refine ⟨λ_=>?_,λ_=>?_⟩)|(refine ⟨by omega,?_⟩)|(simp (disch:=omega))|(intro _)
        all_goals (refine hK _ ?_;clear hK K)
        all_goals
         refine AW_x rfl rfl λK hK=>?_
         simp (disch:=omega)
         repeat' first|(refine ⟨by omega,?_⟩)|(simp (disch:=omega))|(intro _)
         refine hK _ ?_;clear hK K
         refine zb3 rfl rfl λK hK=>?_
         simp (disch:=omega)
         repeat' first|(refine ⟨by omega,?_⟩)|(simp (disch:=omega))|(intro _)
         refine hK _ ?_;clear hK K
         refine zbn ?_
         refine zb3 rfl rfl λK hK=>?_
         simp (disch:=omega)
         repeat' first|(refine ⟨by omega,?_⟩)|(intro _)
         refine hK _ ?_;clear hK K
         refine ⟨_,LeS.kx [(32,32),(48,48),(64,64),(500,500),(96,96),(501,848)] [(1,.ptr 32 0),(2,.ptr 48 0),(3,.ptr 64 0),(4,(.g (.int .i64 ((i:Nat))))),(5,.ptr 96 0),(6,(.g (.int .i64 (((j+1):Nat)))))] [(32,.cells (DtCatalog.cells c)),(48,.cells [.g (.slice none 0 0)]),(64,.cells [.arr 500 0 i]),(500,.own 2 ((c.fSets.take i).map DtCSet.cells)),(96,.cells [.s c.fSets[i].fName,.arr 501 0 (j+1)]),(501,.own 3 ((c.fSets[i].fSnaps.take (j+1)).map DtCSnap.cells))] (by simp [zG13,KpR,renV2,renV,zbk,DtCatalog.cells,DtCSet.cells,DtCSnap.cells];try rfl) (by simp [zG13,KpOX,renO,plO,cvO,renV,pl1,DtCatalog.cells,DtCSet.cells,DtCSnap.cells];try (first | rfl|(rw [htk2];rfl))) (by rfl) (by simp) (by simp) (by rfl) (by simp [formsX,List.range_succ,zbq,zby]),_,?_,j+1,rfl,?_,rfl⟩
         ·omega
         ·omega
      try simp at hc4
      have hj2:j=c.fSets[i].fSnaps.length:=by omega
      subst hj2
      refine zbx ?_
      refine zbn ?_
      refine zb3 rfl rfl λK hK=>?_
      simp (disch:=omega)
      repeat' first|(exfalso;omega)|(refine ⟨λ_=>?_,λ_=>?_⟩)|(refine ⟨by omega,?_⟩)|(simp (disch:=omega))|(intro _)
      all_goals (refine hK _ ?_;clear hK K)
      all_goals
       refine zbn ?_
       refine zb3 rfl rfl λK hK=>?_
       simp (disch:=omega)
       repeat' first|(refine ⟨by omega,?_⟩)|(intro _)
       refine hK _ ?_;clear hK K
       refine ⟨_,LeS.kx [(32,32),(48,48),(64,64),(500,944)] [(1,.ptr 32 0),(2,.ptr 48 0),(3,.ptr 64 0),(4,(.g (.int .i64 (((i+1):Nat)))))] [(32,.cells (DtCatalog.cells c)),(48,.cells [.g (.slice none 0 0)]),(64,.cells [.arr 500 0 (i+1)]),(500,.own 2 ((c.fSets.take (i+1)).map DtCSet.cells))] (by simp [zG13,KpR,renV2,renV,zbk,DtCatalog.cells,DtCSet.cells];try rfl) (by simp [zG13,KpOX,renO,plO,cvO,renV,pl1,DtCatalog.cells,DtCSet.cells];try (first | rfl|(rw [htk];rfl))) (by rfl) (by simp) (by simp) (by rfl) (by simp [formsX,List.range_succ,zbq,zby]),_,?_,i+1,rfl,?_,rfl⟩
       ·omega
       ·omega
  try simp at hc3
  refine zbx ?_
  refine zbn ?_
  refine AW_x rfl rfl λK hK=>?_
  simp (disch:=omega)
  repeat' first|(exfalso;omega)|(refine ⟨λ_=>?_,λ_=>?_⟩)|(refine ⟨by omega,?_⟩)|(simp (disch:=omega))|(intro _)
  all_goals (refine hK _ ?_;clear hK K)
  all_goals
   refine zbp (zb0 [500] [] (by simp [zG13,List.range_succ]) (by simp) ?_)
   simp (disch:=omega)
   all_goals first | omega | trace_state
end Go.Proofs.Ytodmafgmdlkhoaa.Vs
end
section
namespace Go.Proofs.Ytodmafgmdlkhoaa.Vs
set_option linter.all false
set_option maxRecDepth 100000
noncomputable def findS(l:List DtCSet)(name:List UInt8):Int:=idxZ (λp=>eqB p.fName name) l
attribute [local simp] DtCSet.cells
theorem set1(p:DtCSet)(name:List UInt8):GCall Try.prog 92 [.agg (DtCSet.cells p),.ptr 0 0] [[.s name]] [] (.g (.bool (eqB p.fName name))) []:=by
 refine zbr Try.func92 (by rfl) (by rfl) (by rw [Try.ntmps92];exact Nat.le_of_ble_eq_true rfl) rfl (by decide) ?_
 rw [Try.ntmps92]
 refine AW_k [(0,_),(1,_)] ⟨rfl,rfl,trivial⟩ ?_
 refine AW_r rfl rfl λK hK=>?_
 simp
 repeat' first|(refine ⟨by omega,?_⟩)|(intro _)
 refine hK _ ?_;clear hK K
 refine AW_r rfl rfl λK hK=>?_
 simp
 repeat' first|(refine ⟨by omega,?_⟩)|(intro _)
 refine hK _ ?_;clear hK K
 refine zbp (zcb ?_)
 simp
 all_goals first|(rw [Bool.eq_iff_iff,zbc];simp;done)|(rw [eqB];simp)
theorem zqz{F:FuncId}{name:List UInt8}{p:DtCSet→Bool}(xs:List DtCSet)(hn:xs.length≤1048576)(hf:∀x,GCall Try.prog F [.agg (DtCSet.cells x),.ptr 0 0] [[.s name]] [] (.g (.bool (p x))) []):GCall Try.prog 91 [.sl 2 (xs.map DtCSet.cells),.fn F [] [.ptr 0 0]] [[.s name]] [] (.g (.int .i64 (idxZ p xs))) []:=by
 refine zbr Try.func91 (by rfl) (by rfl) (by rw [Try.ntmps91];exact Nat.le_of_ble_eq_true rfl) rfl (by decide) ?_
 rw [Try.ntmps91]
 refine AW_k [(0,_),(1,_)] ⟨rfl,rfl,trivial⟩ ?_
 refine AW_r rfl rfl λK hK=>?_
 simp (disch:=omega)
 repeat' first|(refine zdb 0 (.inr rfl) (zbt [.s name] rfl) (zbe (zb6 rfl) (zbe zcq zbo)) (hf _) rfl ?_;try simp (disch:=omega))|(refine ⟨by omega,?_⟩)|(intro _)
 refine hK _ ?_;clear hK K
 refine zbi ?_
 refine AW_r rfl rfl λK hK=>?_
 simp (disch:=omega)
 repeat' first|(refine zdb 0 (.inr rfl) (zbt [.s name] rfl) (zbe (zb6 rfl) (zbe zcq zbo)) (hf _) rfl ?_;try simp (disch:=omega))|(refine ⟨by omega,?_⟩)|(intro _)
 refine hK _ ?_;clear hK K
 refine zbm ?_
 refine zbv (λmM sS=>∃(i:Nat),mM=xs.length-i∧(i≤xs.length∧∀j x,j<i→xs[j]? = some x→p x=false)∧sS = { env:=lkE [(0,.sl 2 (xs.map DtCSet.cells)),(1,.fn F [] [.ptr 0 0]),(6,.sl 2 (xs.map DtCSet.cells)),(7,(.g (.int .i64 ((xs.length:Nat))))),(8,(.g (.int .i64 ((i:Nat)))))],ob:=formOb [[.s name]] [] }) ?_ ?_
 ·refine ⟨_,LeS.kp [(0,.sl 2 (xs.map DtCSet.cells)),(1,.fn F [] [.ptr 0 0]),(6,.sl 2 (xs.map DtCSet.cells)),(7,(.g (.int .i64 ((xs.length:Nat))))),(8,(.g (.int .i64 (((0):Nat)))))] (by simp [KpE,zbz,zbk,zbq];try rfl),_,0,rfl,?_,rfl⟩
  ·simp
 ·rintro mM sS ⟨i,rfl,⟨hi,hpre⟩,rfl⟩
  refine AW_r rfl rfl λK hK=>?_
  simp (disch:=omega)
  repeat' first|(refine zdb 0 (.inr rfl) (zbt [.s name] rfl) (zbe (zb6 rfl) (zbe zcq zbo)) (hf _) rfl ?_;try simp (disch:=omega))|(refine ⟨by omega,?_⟩)|(intro _)
  refine hK _ ?_;clear hK K
  refine zbi ?_
  refine zbh rfl (λhc1=>?_) (λhc1=>?_)
  ·try simp [zba,zbf,zbc,zbb] at hc1
   all_goals
    have hg:xs[i]? = some (xs[i]):=List.getElem?_eq_getElem (by omega)
    refine zbj ?_
    refine zbn ?_
    refine zbi ?_
    refine zbm ?_
    refine AW_r rfl rfl λK hK=>?_
    simp (disch:=omega)
    repeat' first|(exfalso;omega)|(refine zdb 0 (.inr rfl) (zbt [.s name] rfl) (zbe (zb6 rfl) (zbe zcq zbo)) (hf _) rfl ?_;try simp (disch:=omega))|(refine ⟨λ_=>?_,λ_=>?_⟩)|(refine ⟨by omega,?_⟩)|(intro _)
    all_goals (refine hK _ ?_;clear hK K)
    all_goals
     refine AW_r rfl rfl λK hK=>?_
     simp (disch:=omega)
     repeat' first|(refine zdb 0 (.inr rfl) (zbt [.s name] rfl) (zbe (zb6 rfl) (zbe zcq zbo)) (hf _) rfl ?_;try simp (disch:=omega))|(refine ⟨by omega,?_⟩)|(intro _)
     refine hK _ ?_;clear hK K
     refine zbh rfl (λhc2=>?_) (λhc2=>?_)
     ·try simp [zba,zbf,zbc,zbb] at hc2
      all_goals
       refine AW_r rfl rfl λK hK=>?_
       simp (disch:=omega)
       repeat' first|(exfalso;omega)|(refine zdb 0 (.inr rfl) (zbt [.s name] rfl) (zbe (zb6 rfl) (zbe zcq zbo)) (hf _) rfl ?_;try simp (disch:=omega))|(refine ⟨λ_=>?_,λ_=>?_⟩)|(refine ⟨by omega,?_⟩)|(intro _)
       all_goals (refine hK _ ?_;clear hK K)
       all_goals
        refine zbp (zcb ?_)
        simp (disch:=omega)
        all_goals first|(exact zch (by assumption) (by assumption) hpre)|(exact zc4 (λj x h=>hpre j x (by omega)))
     try simp [zba,zbf,zbc,zbb] at hc2
     refine zbj ?_
     refine zbn ?_
     refine zc8 rfl rfl λK hK=>?_
     simp (disch:=omega)
     repeat' first|(exfalso;omega)|(refine zdb 0 (.inr rfl) (zbt [.s name] rfl) (zbe (zb6 rfl) (zbe zcq zbo)) (hf _) rfl ?_;try simp (disch:=omega))|(refine ⟨λ_=>?_,λ_=>?_⟩)|(refine ⟨by omega,?_⟩)|(intro _)
     all_goals (refine hK _ ?_;clear hK K)
     all_goals
      refine ⟨_,LeS.kp [(0,.sl 2 (xs.map DtCSet.cells)),(1,.fn F [] [.ptr 0 0]),(6,.sl 2 (xs.map DtCSet.cells)),(7,(.g (.int .i64 ((xs.length:Nat))))),(8,(.g (.int .i64 (((i+1):Nat)))))] (by simp [KpE,zbz,zbk,zbq];try rfl),_,?_,i+1,rfl,?_,rfl⟩
      ·omega
      ·refine ⟨by omega,?_⟩;grind
  try simp [zba,zbf,zbc,zbb] at hc1
  refine zbx ?_
  refine zbn ?_
  refine AW_r rfl rfl λK hK=>?_
  simp (disch:=omega)
  repeat' first|(exfalso;omega)|(refine zdb 0 (.inr rfl) (zbt [.s name] rfl) (zbe (zb6 rfl) (zbe zcq zbo)) (hf _) rfl ?_;try simp (disch:=omega))|(refine ⟨λ_=>?_,λ_=>?_⟩)|(refine ⟨by omega,?_⟩)|(intro _)
  all_goals (refine hK _ ?_;clear hK K)
  all_goals
   refine zbp (zcb ?_)
   simp (disch:=omega)
   all_goals first|(exact zch (by assumption) (by assumption) hpre)|(exact zc4 (λj x h=>hpre j x (by omega)))
attribute [local simp] DtCatalog.cells
attribute [-simp] DtCSet.cells
theorem zxn(c:DtCatalog)(name:List UInt8)(hs:c.fSets.length≤1048576):PCall Try.prog 64 [.agg (DtCatalog.cells c),.s name] (.g (.int .i64 (findS c.fSets name))):=by
 refine zbr Try.func64 (by rfl) (by rfl) (by rw [Try.ntmps64];exact Nat.le_of_ble_eq_true rfl) rfl (by decide) ?_
 rw [Try.ntmps64]
 refine AW_k [(0,_),(1,_)] ⟨rfl,rfl,trivial⟩ ?_
 refine AW_r rfl rfl λK hK=>?_
 simp
 repeat' first|(refine ⟨by omega,?_⟩)|(intro _)
 refine hK _ ?_;clear hK K
 refine AW_r rfl rfl λK hK=>?_
 simp
 repeat' first|(refine zdb 64 (.inl rfl) (zbt [.s name] rfl) (zbe zce (zbe zvs zbo)) (zqz _ hs (λx=>set1 x name)) rfl ?_;simp)|(refine ⟨by omega,?_⟩)|(intro _)
 refine hK _ ?_;clear hK K
 refine zbp (zcb ?_)
 simp [findS]
 all_goals first | omega|(simp_all;done)|(simp [List.take_of_length_le];done)|((try simp_all);(try simp (disch:=omega) only [zcj,Int.tdiv_eq_ediv_of_nonneg,Int.tmod_eq_emod_of_nonneg,and_true,true_and]);done)|((try simp_all);(try simp (disch:=omega) only [zcj,Int.tdiv_eq_ediv_of_nonneg,Int.tmod_eq_emod_of_nonneg,and_true,true_and] at *);omega)
theorem l15At(c:DtCatalog)(name:List UInt8)(hs:c.fSets.length≤1048576):PCall Try.prog 74 [.agg (DtCatalog.cells c),.s name] (.g (.int .i64 (findS c.fSets name))):=by
 refine zbr Try.func74 (by rfl) (by rfl) (by rw [Try.ntmps74];exact Nat.le_of_ble_eq_true rfl) rfl (by decide) ?_
 rw [Try.ntmps74]
 refine AW_k [(0,_),(1,_)] ⟨rfl,rfl,trivial⟩ ?_
 refine AW_r rfl rfl λK hK=>?_
 simp (disch:=omega) [DtCatalog.cells]
 repeat' first|(refine ⟨by omega,?_⟩)|(intro _)
 refine hK _ ?_;clear hK K
 refine zbi ?_
 refine AW_r rfl rfl λK hK=>?_
 simp (disch:=omega) [DtCatalog.cells]
 repeat' first|(refine ⟨by omega,?_⟩)|(intro _)
 refine hK _ ?_;clear hK K
 refine zbm ?_
 refine zbv (λmM sS=>∃(i:Nat),mM=c.fSets.length-i∧(i≤c.fSets.length∧∀j x,j<i→c.fSets[j]? = some x→eqB x.fName name=false)∧sS = { env:=lkE [(1,.s name),(2,.ptr 48 0),(5,(.g (.int .i64 ((i:Nat)))))],ob:=upd (formOb [] []) 48 (some (.cells (DtCatalog.cells c))) }) ?_ ?_
 ·refine ⟨_,LeS.kp [(1,.s name),(2,.ptr 48 0),(5,(.g (.int .i64 (((0):Nat)))))] (by simp [KpE,zbz,zbk,zbq];try rfl),_,0,rfl,?_,rfl⟩
  ·simp
 ·rintro mM sS ⟨i,rfl,⟨hi,hpre⟩,rfl⟩
  refine zbi ?_
  refine AW_r rfl rfl λK hK=>?_
  simp (disch:=omega) [DtCatalog.cells,DtCSet.cells]
  repeat' first|(refine ⟨by omega,?_⟩)|(intro _)
  refine hK _ ?_;clear hK K
  refine zbh rfl (λhc3=>?_) (λhc3=>?_)
  ·try simp [zba,zbf,zbc,zbb] at hc3
   all_goals
    have hg:c.fSets[i]? = some c.fSets[i]:=List.getElem?_eq_getElem (by omega)
    refine zbj ?_
    refine zbn ?_
    refine zbi ?_
    refine zbm ?_
    refine AW_r rfl rfl λK hK=>?_
    simp (disch:=omega) [DtCatalog.cells,DtCSet.cells]
    repeat' first|(exfalso;omega)|(refine ⟨λ_=>?_,λ_=>?_⟩)|(refine ⟨by omega,?_⟩)|(intro _)
    all_goals (refine hK _ ?_;clear hK K)
    all_goals
     refine zbh rfl (λhc4=>?_) (λhc4=>?_)
     ·try simp [zba,zbf,zbc,zbb] at hc4
      all_goals
       refine AW_r rfl rfl λK hK=>?_
       simp (disch:=omega) [DtCatalog.cells,DtCSet.cells]
       repeat' first|(exfalso;omega)|(refine ⟨λ_=>?_,λ_=>?_⟩)|(refine ⟨by omega,?_⟩)|(intro _)
       all_goals (refine hK _ ?_;clear hK K)
       all_goals
        refine zbp (zcb ?_)
        simp (disch:=omega) [DtCatalog.cells,DtCSet.cells]
        all_goals first|(unfold findS;rw [zch (by assumption) (by simp_all [zbc]) hpre];done)|(unfold findS;exact (zch (by assumption) (by simp_all [zbc]) hpre))|(unfold findS;exact zc4 (λj x h=>hpre j x (by omega)))
     try simp [zba,zbf,zbc,zbb] at hc4
     refine zbj ?_
     refine zbn ?_
     refine zc8 rfl rfl λK hK=>?_
     simp (disch:=omega) [DtCatalog.cells,DtCSet.cells]
     repeat' first|(exfalso;omega)|(refine ⟨λ_=>?_,λ_=>?_⟩)|(refine ⟨by omega,?_⟩)|(intro _)
     all_goals (refine hK _ ?_;clear hK K)
     all_goals
      refine ⟨_,LeS.kp [(1,.s name),(2,.ptr 48 0),(5,(.g (.int .i64 (((i+1):Nat)))))] (by simp [KpE,zbz,zbk,zbq];try rfl),_,?_,i+1,rfl,?_,rfl⟩
      ·omega
      ·refine ⟨by omega,?_⟩;grind [zbb]
  try simp [zba,zbf,zbc,zbb] at hc3
  refine zbx ?_
  refine zbn ?_
  refine AW_r rfl rfl λK hK=>?_
  simp (disch:=omega) [DtCatalog.cells,DtCSet.cells]
  repeat' first|(exfalso;omega)|(refine ⟨λ_=>?_,λ_=>?_⟩)|(refine ⟨by omega,?_⟩)|(intro _)
  all_goals (refine hK _ ?_;clear hK K)
  all_goals
   refine zbp (zcb ?_)
   simp (disch:=omega) [DtCatalog.cells,DtCSet.cells]
   all_goals first|(unfold findS;rw [zch (by assumption) (by simp_all [zbc]) hpre];done)|(unfold findS;exact (zch (by assumption) (by simp_all [zbc]) hpre))|(unfold findS;exact zc4 (λj x h=>hpre j x (by omega)))
attribute [local simp] cS
attribute [-simp] DtCatalog.cells
def spc:List (List UInt8)→List UInt8
 | []=>[]
 | x :: l=>x++l.flatMap (λt=>32 :: t)
theorem spc_snoc(l:List (List UInt8))(x:List UInt8):spc (l++[x])=if l=[] then x else spc l++(32 :: x):=by
 cases l with
 | nil=>simp [spc]
 | cons y l=>simp [spc]
theorem zlj(l:List (List UInt8))(i:Nat)(h:i<l.length):spc (l.take (i+1))=if i=0 then l[i] else spc (l.take i)++(32 :: l[i]):=by
 rw [List.take_succ_eq_append_getElem h,spc_snoc]
 cases i with
 | zero=>simp
 | succ i =>
  have:l.take (i+1)≠[]:=by
   intro e
   have h2:(l.take (i+1)).length=i+1:=by rw [List.length_take];omega
   rw [e] at h2;simp at h2
  rw [if_neg this,if_neg (by omega)]
theorem spc_pre(l:List (List UInt8))(i:Nat):(spc (l.take i)).length≤(spc l).length:=by
 cases l with
 | nil=>simp
 | cons x l =>
  cases i with
  | zero=>simp [spc]
  | succ i =>
   rw [List.take_succ_cons]
   show (x++(l.take i).flatMap _).length≤(x++l.flatMap _).length
   have e:l.flatMap (λt=>(32:UInt8) :: t)=(l.take i).flatMap (λt=>32 :: t)++(l.drop i).flatMap (λt=>32 :: t):=by rw [←List.flatMap_append,List.take_append_drop]
   rw [e];simp
theorem zxo(l:List (List UInt8))(i:Nat)(h:i<l.length)(hb:(spc l).length≤1073741824):(spc (l.take i)).length+l[i].length≤1073741824∧(0<i→(spc (l.take i)).length+1+l[i].length≤1073741824):=by
 have h1:=spc_pre l (i+1)
 rw [zlj l i h] at h1
 split at h1
 ·rename_i h0;subst h0;simp [spc];omega
 ·simp at h1;omega
theorem zq0(l:List (List UInt8))(hs:l.length≤1048576)(hb:(spc l).length≤1073741824):PCall Try.prog 90 [.sl 1 (l.map cS)] (.s (spc l)):=by
 refine zbr Try.func90 (by rfl) (by rfl) (by rw [Try.ntmps90];exact Nat.le_of_ble_eq_true rfl) rfl (by decide) ?_
 rw [Try.ntmps90]
 refine AW_k [(0,_)] ⟨rfl,trivial⟩ ?_
 refine AW_r rfl rfl λK hK=>?_
 simp (disch:=omega)
 repeat' first|(refine ⟨by omega,?_⟩)|(intro _)
 refine hK _ ?_;clear hK K
 refine AW_r rfl rfl λK hK=>?_
 simp (disch:=omega)
 repeat' first|(refine ⟨by omega,?_⟩)|(intro _)
 refine hK _ ?_;clear hK K
 refine zbi ?_
 refine AW_r rfl rfl λK hK=>?_
 simp (disch:=omega)
 repeat' first|(refine ⟨by omega,?_⟩)|(intro _)
 refine hK _ ?_;clear hK K
 refine zbm ?_
 refine zbv (λmM sS=>∃(i:Nat),mM=l.length-i∧(i≤l.length)∧sS = { env:=lkE [(3,.s (spc (l.take i))),(6,.sl 1 (l.map cS)),(7,(.g (.int .i64 ((l.length:Nat))))),(8,(.g (.int .i64 ((i:Nat)))))],ob:=formOb [] [] }) ?_ ?_
 ·refine ⟨_,LeS.kp [(3,.s (spc (l.take (0)))),(6,.sl 1 (l.map cS)),(7,(.g (.int .i64 ((l.length:Nat))))),(8,(.g (.int .i64 (((0):Nat)))))] (by simp [KpE,zbz,zbk,zbq];all_goals first | rfl|(rw [hsp];split<;>first | rfl|(simp [spc];done)|(subst_vars;simp [spc];done)|(exfalso;omega)|(simp_all;done))),_,0,rfl,?_,rfl⟩
  ·simp
 ·rintro mM sS ⟨i,rfl,hi,rfl⟩
  refine AW_r rfl rfl λK hK=>?_
  simp (disch:=omega)
  repeat' first|(refine ⟨by omega,?_⟩)|(intro _)
  refine hK _ ?_;clear hK K
  refine zbi ?_
  refine zbh rfl (λhc5=>?_) (λhc5=>?_)
  ·try simp [zba,zbf,zbc,zbb] at hc5
   all_goals
    have hsp:=zlj l i (by omega)
    have ⟨hbd1,hbd2⟩:=zxo l i (by omega) hb
    refine zbj ?_
    refine zbn ?_
    refine zbi ?_
    refine zbm ?_
    refine AW_r rfl rfl λK hK=>?_
    simp (disch:=omega)
    repeat' first|(exfalso;omega)|(refine ⟨λ_=>?_,λ_=>?_⟩)|(refine ⟨by omega,?_⟩)|(intro _)
    all_goals (refine hK _ ?_;clear hK K)
    all_goals
     refine zbi ?_
     refine AW_r rfl rfl λK hK=>?_
     simp (disch:=omega)
     repeat' first|(refine ⟨by omega,?_⟩)|(intro _)
     refine hK _ ?_;clear hK K
     refine zbh rfl (λhc6=>?_) (λhc6=>?_)
     ·try simp [zba,zbf,zbc,zbb] at hc6
      all_goals
       refine zc8 rfl rfl λK hK=>?_
       simp (disch:=omega)
       repeat' first|(exfalso;omega)|(refine ⟨λ_=>?_,λ_=>?_⟩)|(refine ⟨by omega,?_⟩)|(intro _)
       all_goals (refine hK _ ?_;clear hK K)
       all_goals
        refine zbn ?_
        refine zc8 rfl rfl λK hK=>?_
        simp (disch:=omega)
        repeat' first|(refine ⟨by omega,?_⟩)|(intro _)
        refine hK _ ?_;clear hK K
        refine zbn ?_
        refine zc8 rfl rfl λK hK=>?_
        simp (disch:=omega)
        repeat' first|(refine ⟨by omega,?_⟩)|(intro _)
        refine hK _ ?_;clear hK K
        refine ⟨_,LeS.kp [(3,.s (spc (l.take (i+1)))),(6,.sl 1 (l.map cS)),(7,(.g (.int .i64 ((l.length:Nat))))),(8,(.g (.int .i64 (((i+1):Nat)))))] (by simp [KpE,zbz,zbk,zbq];all_goals first | rfl|(rw [hsp];split<;>first | rfl|(simp [spc];done)|(subst_vars;simp [spc];done)|(exfalso;omega)|(simp_all;done))),_,?_,i+1,rfl,?_,rfl⟩
        ·omega
        ·omega
     try simp [zba,zbf,zbc,zbb] at hc6
     refine zbj ?_
     refine zbn ?_
     refine zc8 rfl rfl λK hK=>?_
     simp (disch:=omega)
     repeat' first|(exfalso;omega)|(refine ⟨λ_=>?_,λ_=>?_⟩)|(refine ⟨by omega,?_⟩)|(intro _)
     all_goals (refine hK _ ?_;clear hK K)
     all_goals
      refine zbn ?_
      refine zc8 rfl rfl λK hK=>?_
      simp (disch:=omega)
      repeat' first|(refine ⟨by omega,?_⟩)|(intro _)
      refine hK _ ?_;clear hK K
      refine ⟨_,LeS.kp [(3,.s (spc (l.take (i+1)))),(6,.sl 1 (l.map cS)),(7,(.g (.int .i64 ((l.length:Nat))))),(8,(.g (.int .i64 (((i+1):Nat)))))] (by simp [KpE,zbz,zbk,zbq];all_goals first | rfl|(rw [hsp];split<;>first | rfl|(simp [spc];done)|(subst_vars;simp [spc];done)|(exfalso;omega)|(simp_all;done))),_,?_,i+1,rfl,?_,rfl⟩
      ·omega
      ·omega
  try simp [zba,zbf,zbc,zbb] at hc5
  refine zbx ?_
  refine zbn ?_
  refine AW_r rfl rfl λK hK=>?_
  simp (disch:=omega)
  repeat' first|(exfalso;omega)|(refine ⟨λ_=>?_,λ_=>?_⟩)|(refine ⟨by omega,?_⟩)|(intro _)
  all_goals (refine hK _ ?_;clear hK K)
  all_goals
   refine zbp (zcb ?_)
   simp (disch:=omega)
   all_goals ((have e:i=l.length:=by omega);subst e;simp)
end Go.Proofs.Ytodmafgmdlkhoaa.Vs
end
