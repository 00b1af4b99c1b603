import Derived.Test.YtodmafgmdlkhoaaSM3
section
namespace Go.Proofs.Ytodmafgmdlkhoaa.Vs
set_option linter.all false
set_option maxRecDepth 100000
def cB8(n:Int):List AV:=[.g (.int .u8 n)]
theorem zpg:∀ns:List Int,numsOf (ns.map cB8)=some ns
 | []=>rfl
 | n :: ns=>by
  have:=zpg ns
  simp only [List.map_cons,cB8,numsOf] at this ⊢
  rw [this];rfl
theorem zzr:∀(ns:List Int) (m:Int),numsOf (ns.map cB8++[[.g (.int .u8 m)]])=some (ns++[m]):=by
 intro ns m
 have:=zpg (ns++[m])
 simpa [cB8] using this
theorem tk1(acc:List Int):List.take acc.length (acc.map cB8)=acc.map cB8:=List.take_of_length_le (by simp)
theorem tk2(acc:List Int)(y:List AV):List.take (acc.length+1) (acc.map cB8++[y])=acc.map cB8++[y]:=List.take_of_length_le (by simp)
theorem wrap8{n:Int}(h0:0≤n)(h1:n<256):IntKind.u8.wrap n=n:=by
 simp [IntKind.wrap,IntKind.bits,IntKind.signed]
 omega
theorem strN_len(ns:List Int):(strN ns).length=ns.length:=by simp [strN]
theorem td10(m:Nat):(m:Int).tdiv 10=((m / 10:Nat):Int):=by rw [Int.tdiv_eq_ediv_of_nonneg (by omega)];rfl
theorem tm10(m:Nat):(m:Int).tmod 10=((m % 10:Nat):Int):=by rw [Int.tmod_eq_emod_of_nonneg (by omega)];rfl
def digN(n:Nat):List UInt8:=[UInt8.ofNat (48+n)]
theorem zql(n:Nat):strN [(48:Int)+(n:Int)]=digN n:=by
 unfold strN digN
 simp only [List.map_cons,List.map_nil]
 congr 1
def zG7:=And.intro @zcv (And.intro @zfs (And.intro @wrap8 (And.intro @tk1 (And.intro @tk2 (And.intro @zzr (And.intro @td10 (And.intro @tm10 (And.intro @zql @strN_len))))))))
def zG8:=And.intro @zbx (And.intro @zbq @zbz)
theorem specDec(n:Nat)(hn:n<10):PCall Try.prog 97 [(.g (.int .i64 ((n:Nat))))] (.s (digN n)):=by
 refine zbr Try.func97 (by rfl) (by rfl) (by rw [Try.ntmps97];exact Nat.le_of_ble_eq_true rfl) rfl (by decide) ?_
 rw [Try.ntmps97]
 refine AW_k [(0,_)] ⟨rfl,trivial⟩ ?_
 refine AW_r rfl rfl λK hK=>?_
 simp (disch:=omega) [zG7,List.getElem?_eq_getElem,aNews,aAppend,aBuildSlice,chunks,numsOf]
 repeat' first|(exfalso;omega)|(refine ⟨λ_=>?_,λ_=>?_⟩)|(refine ⟨by omega,?_⟩)|(intro _)
 all_goals (refine hK _ ?_;clear hK K)
 all_goals
  refine zbj ?_
  refine AW_r rfl rfl λK hK=>?_
  simp (disch:=omega) [zG7,List.getElem?_eq_getElem,aNews,aAppend,aBuildSlice,chunks,numsOf]
  repeat' first|(exfalso;omega)|(refine ⟨λ_=>?_,λ_=>?_⟩)|(refine ⟨by omega,?_⟩)|(intro _)
  all_goals (refine hK _ ?_;clear hK K)
  all_goals
   refine zbi rfl (λhc1=>?_) (λhc1=>?_)
   ·try simp at hc1
    all_goals
     refine AW_r rfl rfl λK hK=>?_
     simp (disch:=omega) [zG7,List.getElem?_eq_getElem,aNews,aAppend,aBuildSlice,chunks,numsOf]
     repeat' first|(exfalso;omega)|(refine ⟨λ_=>?_,λ_=>?_⟩)|(refine ⟨by omega,?_⟩)|(intro _)
     all_goals (refine hK _ ?_;clear hK K)
     all_goals
      refine zbp (zcc ?_)
      simp (disch:=omega) [zG7,List.getElem?_eq_getElem,aNews,aAppend,aBuildSlice,chunks,numsOf]
      all_goals first|(have h0:n=0:=(by omega);subst h0;rfl)|(rcases hv with ⟨h,h2⟩ | ⟨h,h2⟩;exfalso;omega;exact h2.symm)|(rcases hv with ⟨h,h2⟩ | ⟨h,h2⟩;exfalso;omega;exact h2) | trace_state
   ·try simp at hc1
    all_goals
     refine zbk ?_
     refine zbo ?_
     refine AW_r rfl rfl λK hK=>?_
     simp (disch:=omega) [zG7,List.getElem?_eq_getElem,aNews,aAppend,aBuildSlice,chunks,numsOf]
     repeat' first|(exfalso;omega)|(refine ⟨λ_=>?_,λ_=>?_⟩)|(refine ⟨by omega,?_⟩)|(intro _)
     all_goals (refine hK _ ?_;clear hK K)
     all_goals
      refine AW_r rfl rfl λK hK=>?_
      simp (disch:=omega) [zG7,List.getElem?_eq_getElem,aNews,aAppend,aBuildSlice,chunks,numsOf]
      repeat' first|(exfalso;omega)|(refine ⟨λ_=>?_,λ_=>?_⟩)|(refine ⟨by omega,?_⟩)|(intro _)
      all_goals (refine hK _ ?_;clear hK K)
      all_goals
       refine zbj ?_
       refine zbn ?_
       refine zbv (λmM sS=>∃(o:List UInt8) (m:Nat),mM=m+1∧((m=n∧o=[])∨(m=0∧o=digN n))∧sS = { env:=lkE [(0,(.g (.int .i64 ((m:Nat))))),(3,.s o),(4,(.g (.bool (false))))],ob:=lk [] }) ?_ ?_
       ·refine ⟨_,LeS.kr [] [(0,(.g (.int .i64 (((n):Nat))))),(3,.s ([])),(4,(.g (.bool (false))))] [] (by simp [zG8,KpR,renV2,renV,zbl];try simp;try omega) (by simp [zG8,KpOR,renO,renV,zca];try rfl) (by rfl) (by rfl) (by simp) (by simp) (by rfl) (by simp [forms]),_,[],n,rfl,?_,rfl⟩
        ·simp
       ·rintro mM sS ⟨o,m,rfl,hv,rfl⟩
        refine zbj ?_
        refine AW_r rfl rfl λK hK=>?_
        simp (disch:=omega) [zG7,List.getElem?_eq_getElem,aNews,aAppend,aBuildSlice,chunks,numsOf]
        repeat' first|(exfalso;omega)|(refine ⟨λ_=>?_,λ_=>?_⟩)|(refine ⟨by omega,?_⟩)|(intro _)
        all_goals (refine hK _ ?_;clear hK K)
        all_goals
         refine zbi rfl (λhc2=>?_) (λhc2=>?_)
         ·try simp at hc2
          all_goals
           have hmn:n=m:=by rcases hv with ⟨h,-⟩ | ⟨h,-⟩<;>omega
           have ho:o=[]:=by rcases hv with ⟨-,h⟩ | ⟨h,-⟩;exact h;exfalso;omega
           subst ho
           refine zbk ?_
           refine zbo ?_
           refine zbn ?_
           refine AW_r rfl rfl λK hK=>?_
           simp (disch:=omega) [zG7,List.getElem?_eq_getElem,aNews,aAppend,aBuildSlice,chunks,numsOf]
           repeat' first|(exfalso;omega)|(refine ⟨λ_=>?_,λ_=>?_⟩)|(refine ⟨by omega,?_⟩)|(intro _)
           all_goals (refine hK _ ?_;clear hK K)
           all_goals
            refine zbj ?_
            refine AW_r rfl rfl λK hK=>?_
            simp (disch:=omega) [zG7,List.getElem?_eq_getElem,aNews,aAppend,aBuildSlice,chunks,numsOf]
            repeat' first|(exfalso;omega)|(refine ⟨λ_=>?_,λ_=>?_⟩)|(refine ⟨by omega,?_⟩)|(intro _)
            all_goals (refine hK _ ?_;clear hK K)
            all_goals
             refine zbi rfl (λhc3=>?_) (λhc3=>?_)
             ·try simp at hc3
              all_goals
               refine zc8 rfl rfl λK hK=>?_
               simp (disch:=omega) [zG7,List.getElem?_eq_getElem,aNews,aAppend,aBuildSlice,chunks,numsOf]
               repeat' first|(exfalso;omega)|(refine ⟨λ_=>?_,λ_=>?_⟩)|(refine ⟨by omega,?_⟩)|(intro _)
               all_goals (refine hK _ ?_;clear hK K)
               all_goals
                refine zbo ?_
                refine AW_r rfl rfl λK hK=>?_
                simp (disch:=omega) [zG7,List.getElem?_eq_getElem,aNews,aAppend,aBuildSlice,chunks,numsOf]
                repeat' first|(exfalso;omega)|(refine ⟨λ_=>?_,λ_=>?_⟩)|(refine ⟨by omega,?_⟩)|(intro _)
                all_goals (refine hK _ ?_;clear hK K)
                all_goals
                 refine zc8 rfl rfl λK hK=>?_
                 simp (disch:=omega) [zG7,List.getElem?_eq_getElem,aNews,aAppend,aBuildSlice,chunks,numsOf]
                 repeat' first|(exfalso;omega)|(refine ⟨λ_=>?_,λ_=>?_⟩)|(refine ⟨by omega,?_⟩)|(intro _)
                 all_goals (refine hK _ ?_;clear hK K)
                 all_goals
                  refine ⟨_,LeS.kr [] [(0,(.g (.int .i64 (((m / 10):Nat))))),(3,.s (digN n)),(4,(.g (.bool (false))))] [] (by simp [zG8,KpR,renV2,renV,zbl];(have e10:(m:Int) % 10=n:=(by omega);simp [e10,zql];try omega)) (by simp [zG8,KpOR,renO,renV,zca];try rfl) (by rfl) (by rfl) (by simp) (by simp) (by rfl) (by simp [forms]),_,?_,digN n,m / 10,rfl,?_,rfl⟩
                  ·omega
                  ·right;exact ⟨by omega,rfl⟩
             ·try simp at hc3
              all_goals
               refine zbk ?_
               refine zbo ?_
               refine AW_r rfl rfl λK hK=>?_
               simp (disch:=omega) [zG7,List.getElem?_eq_getElem,aNews,aAppend,aBuildSlice,chunks,numsOf]
               repeat' first|(exfalso;omega)|(refine ⟨λ_=>?_,λ_=>?_⟩)|(refine ⟨by omega,?_⟩)|(intro _)
               all_goals (refine hK _ ?_;clear hK K)
               all_goals
                refine zc8 rfl rfl λK hK=>?_
                simp (disch:=omega) [zG7,List.getElem?_eq_getElem,aNews,aAppend,aBuildSlice,chunks,numsOf]
                repeat' first|(exfalso;omega)|(refine ⟨λ_=>?_,λ_=>?_⟩)|(refine ⟨by omega,?_⟩)|(intro _)
                all_goals (refine hK _ ?_;clear hK K)
                all_goals
                 refine ⟨_,LeS.kr [] [(0,(.g (.int .i64 (((m / 10):Nat))))),(3,.s (digN n)),(4,(.g (.bool (false))))] [] (by simp [zG8,KpR,renV2,renV,zbl];(have e10:(m:Int) % 10=n:=(by omega);simp [e10,zql];try omega)) (by simp [zG8,KpOR,renO,renV,zca];try rfl) (by rfl) (by rfl) (by simp) (by simp) (by rfl) (by simp [forms]),_,?_,digN n,m / 10,rfl,?_,rfl⟩
                 ·omega
                 ·right;exact ⟨by omega,rfl⟩
         ·try simp at hc2
          all_goals
           refine zb0 ?_
           refine zbo ?_
           refine zbj ?_
           refine AW_r rfl rfl λK hK=>?_
           simp (disch:=omega) [zG7,List.getElem?_eq_getElem,aNews,aAppend,aBuildSlice,chunks,numsOf]
           repeat' first|(exfalso;omega)|(refine ⟨λ_=>?_,λ_=>?_⟩)|(refine ⟨by omega,?_⟩)|(intro _)
           all_goals (refine hK _ ?_;clear hK K)
           all_goals
            refine zbi rfl (λhc4=>?_) (λhc4=>?_)
            ·try simp at hc4
             all_goals
              refine AW_r rfl rfl λK hK=>?_
              simp (disch:=omega) [zG7,List.getElem?_eq_getElem,aNews,aAppend,aBuildSlice,chunks,numsOf]
              repeat' first|(exfalso;omega)|(refine ⟨λ_=>?_,λ_=>?_⟩)|(refine ⟨by omega,?_⟩)|(intro _)
              all_goals (refine hK _ ?_;clear hK K)
              all_goals
               refine zbp (zcc ?_)
               simp (disch:=omega) [zG7,List.getElem?_eq_getElem,aNews,aAppend,aBuildSlice,chunks,numsOf]
               all_goals first|(have h0:n=0:=(by omega);subst h0;rfl)|(rcases hv with ⟨h,h2⟩ | ⟨h,h2⟩;exfalso;omega;exact h2.symm)|(rcases hv with ⟨h,h2⟩ | ⟨h,h2⟩;exfalso;omega;exact h2) | trace_state
            ·try simp at hc4
             all_goals
              refine zbk ?_
              refine zbo ?_
              refine AW_r rfl rfl λK hK=>?_
              simp (disch:=omega) [zG7,List.getElem?_eq_getElem,aNews,aAppend,aBuildSlice,chunks,numsOf]
              repeat' first|(exfalso;omega)|(refine ⟨λ_=>?_,λ_=>?_⟩)|(refine ⟨by omega,?_⟩)|(intro _)
              all_goals (refine hK _ ?_;clear hK K)
              all_goals
               refine zbp (zcc ?_)
               simp (disch:=omega) [zG7,List.getElem?_eq_getElem,aNews,aAppend,aBuildSlice,chunks,numsOf]
               all_goals first|(have h0:n=0:=(by omega);subst h0;rfl)|(rcases hv with ⟨h,h2⟩ | ⟨h,h2⟩;exfalso;omega;exact h2.symm)|(rcases hv with ⟨h,h2⟩ | ⟨h,h2⟩;exfalso;omega;exact h2) | trace_state
theorem implDec(n:Nat)(hn:n<10):PCall Try.prog 94 [(.g (.int .i64 ((n:Nat))))] (.s (digN n)):=by
 refine zbr Try.func94 (by rfl) (by rfl) (by rw [Try.ntmps94];exact Nat.le_of_ble_eq_true rfl) rfl (by decide) ?_
 rw [Try.ntmps94]
 refine AW_k [(0,_)] ⟨rfl,trivial⟩ ?_
 refine AW_r rfl rfl λK hK=>?_
 simp (disch:=omega) [zG7,List.getElem?_eq_getElem,aNews,aAppend,aBuildSlice,chunks,numsOf]
 repeat' first|(exfalso;omega)|(refine ⟨λ_=>?_,λ_=>?_⟩)|(refine ⟨by omega,?_⟩)|(intro _)
 all_goals (refine hK _ ?_;clear hK K)
 all_goals
  refine zbj ?_
  refine AW_r rfl rfl λK hK=>?_
  simp (disch:=omega) [zG7,List.getElem?_eq_getElem,aNews,aAppend,aBuildSlice,chunks,numsOf]
  repeat' first|(exfalso;omega)|(refine ⟨λ_=>?_,λ_=>?_⟩)|(refine ⟨by omega,?_⟩)|(intro _)
  all_goals (refine hK _ ?_;clear hK K)
  all_goals
   refine zbi rfl (λhc5=>?_) (λhc5=>?_)
   ·try simp at hc5
    all_goals
     refine AW_r rfl rfl λK hK=>?_
     simp (disch:=omega) [zG7,List.getElem?_eq_getElem,aNews,aAppend,aBuildSlice,chunks,numsOf]
     repeat' first|(exfalso;omega)|(refine ⟨λ_=>?_,λ_=>?_⟩)|(refine ⟨by omega,?_⟩)|(intro _)
     all_goals (refine hK _ ?_;clear hK K)
     all_goals
      refine zbp (zcc ?_)
      simp (disch:=omega) [zG7,List.getElem?_eq_getElem,aNews,aAppend,aBuildSlice,chunks,numsOf,cB8]
      all_goals first|(have h0:n=0:=(by omega);subst h0;rfl) | rfl | trace_state
   ·try simp at hc5
    all_goals
     refine zbk ?_
     refine zbo ?_
     refine AW_r rfl rfl λK hK=>?_
     simp (disch:=omega) [zG7,List.getElem?_eq_getElem,aNews,aAppend,aBuildSlice,chunks,numsOf]
     repeat' first|(exfalso;omega)|(refine ⟨λ_=>?_,λ_=>?_⟩)|(refine ⟨by omega,?_⟩)|(intro _)
     all_goals (refine hK _ ?_;clear hK K)
     all_goals
      refine zbj ?_
      refine AW_r rfl rfl λK hK=>?_
      simp (disch:=omega) [zG7,List.getElem?_eq_getElem,aNews,aAppend,aBuildSlice,chunks,numsOf]
      repeat' first|(exfalso;omega)|(refine ⟨λ_=>?_,λ_=>?_⟩)|(refine ⟨by omega,?_⟩)|(intro _)
      all_goals (refine hK _ ?_;clear hK K)
      all_goals
       refine zbn ?_
       refine zbv (λmM sS=>∃(acc:List Int) (m:Nat),mM=m+1∧((m=n∧acc=[])∨(m=0∧acc=[48+(n:Int)]))∧sS = { env:=lkE [(0,(.g (.int .i64 ((n:Nat))))),(3,.arr 176 0 acc.length),(4,(.g (.int .i64 ((m:Nat)))))],ob:=lk [(176,.flat 1 (acc.map cB8))] }) ?_ ?_
       ·refine ⟨_,LeS.kr [(176,176)] [(0,(.g (.int .i64 ((n:Nat))))),(3,.arr 176 0 ([]).length),(4,(.g (.int .i64 (((n):Nat)))))] [(176,.flat 1 (([]).map cB8))] (by simp [zG8,KpR,renV2,renV,zbl,cB8];try simp;try omega) (by simp [zG8,KpOR,renO,renV,zca,cB8];try (have e10:(m:Int) % 10=n:=(by omega);simp [e10,cB8];try omega)) (by rfl) (by rfl) (by simp) (by simp) (by rfl) (by simp [forms]),_,[],n,rfl,?_,rfl⟩
        ·simp
       ·rintro mM sS ⟨acc,m,rfl,hv,rfl⟩
        have hal:acc.length≤7:=by rcases hv with ⟨-,h⟩ | ⟨-,h⟩<;>simp [h]
        refine zbj ?_
        refine AW_r rfl rfl λK hK=>?_
        simp (disch:=omega) [zG7,List.getElem?_eq_getElem,aNews,aAppend,aBuildSlice,chunks,numsOf]
        repeat' first|(exfalso;omega)|(refine ⟨λ_=>?_,λ_=>?_⟩)|(refine ⟨by omega,?_⟩)|(intro _)
        all_goals (refine hK _ ?_;clear hK K)
        all_goals
         refine zbi rfl (λhc6=>?_) (λhc6=>?_)
         ·try simp at hc6
          all_goals
           have hmn:n=m:=by rcases hv with ⟨h,-⟩ | ⟨h,-⟩<;>omega
           have ho:acc=[]:=by rcases hv with ⟨-,h⟩ | ⟨h,-⟩;exact h;exfalso;omega
           subst ho
           refine zbk ?_
           refine zbo ?_
           refine zbj ?_
           refine zbn ?_
           refine AW_r rfl rfl λK hK=>?_
           simp (disch:=omega) [zG7,List.getElem?_eq_getElem,aNews,aAppend,aBuildSlice,chunks,numsOf]
           repeat' first|(exfalso;omega)|(refine ⟨λ_=>?_,λ_=>?_⟩)|(refine ⟨by omega,?_⟩)|(intro _)
           all_goals (refine hK _ ?_;clear hK K)
           all_goals
            refine zbj ?_
            refine AW_r rfl rfl λK hK=>?_
            simp (disch:=omega) [zG7,List.getElem?_eq_getElem,aNews,aAppend,aBuildSlice,chunks,numsOf]
            repeat' first|(exfalso;omega)|(refine ⟨λ_=>?_,λ_=>?_⟩)|(refine ⟨by omega,?_⟩)|(intro _)
            all_goals (refine hK _ ?_;clear hK K)
            all_goals
             refine zbi rfl (λhc7=>?_) (λhc7=>?_)
             ·try simp at hc7
              all_goals
               refine zc8 rfl rfl λK hK=>?_
               simp (disch:=omega) [zG7,List.getElem?_eq_getElem,aNews,aAppend,aBuildSlice,chunks,numsOf]
               repeat' first|(exfalso;omega)|(refine ⟨λ_=>?_,λ_=>?_⟩)|(refine ⟨by omega,?_⟩)|(intro _)
               all_goals (refine hK _ ?_;clear hK K)
               all_goals
                refine zbo ?_
                refine zc8 rfl rfl λK hK=>?_
                simp (disch:=omega) [zG7,List.getElem?_eq_getElem,aNews,aAppend,aBuildSlice,chunks,numsOf]
                repeat' first|(exfalso;omega)|(refine ⟨λ_=>?_,λ_=>?_⟩)|(refine ⟨by omega,?_⟩)|(intro _)
                all_goals (refine hK _ ?_;clear hK K)
                all_goals
                 refine zbo ?_
                 refine zc8 rfl rfl λK hK=>?_
                 simp (disch:=omega) [zG7,List.getElem?_eq_getElem,aNews,aAppend,aBuildSlice,chunks,numsOf]
                 repeat' first|(exfalso;omega)|(refine ⟨λ_=>?_,λ_=>?_⟩)|(refine ⟨by omega,?_⟩)|(intro _)
                 all_goals (refine hK _ ?_;clear hK K)
                 all_goals
                  refine ⟨_,LeS.kr [(176,448)] [(0,(.g (.int .i64 ((n:Nat))))),(3,.arr 176 0 ([48+(n:Int)]).length),(4,(.g (.int .i64 (((m / 10):Nat)))))] [(176,.flat 1 (([48+(n:Int)]).map cB8))] (by simp [zG8,KpR,renV2,renV,zbl,cB8];try (have e10:(m:Int) % 10=n:=(by omega);simp [e10,cB8];try omega)) (by simp [zG8,KpOR,renO,renV,zca,cB8];try (have e10:(m:Int) % 10=n:=(by omega);simp [e10,cB8];try omega)) (by rfl) (by rfl) (by simp) (by simp) (by rfl) (by simp [forms]),_,?_,[48+(n:Int)],m / 10,rfl,?_,rfl⟩
                  ·omega
                  ·right;exact ⟨by omega,rfl⟩
             ·try simp at hc7
              all_goals
               refine zbk ?_
               refine zbo ?_
               refine zc8 rfl rfl λK hK=>?_
               simp (disch:=omega) [zG7,List.getElem?_eq_getElem,aNews,aAppend,aBuildSlice,chunks,numsOf]
               repeat' first|(exfalso;omega)|(refine ⟨λ_=>?_,λ_=>?_⟩)|(refine ⟨by omega,?_⟩)|(intro _)
               all_goals (refine hK _ ?_;clear hK K)
               all_goals
                refine zbo ?_
                refine zc8 rfl rfl λK hK=>?_
                simp (disch:=omega) [zG7,List.getElem?_eq_getElem,aNews,aAppend,aBuildSlice,chunks,numsOf]
                repeat' first|(exfalso;omega)|(refine ⟨λ_=>?_,λ_=>?_⟩)|(refine ⟨by omega,?_⟩)|(intro _)
                all_goals (refine hK _ ?_;clear hK K)
                all_goals
                 refine ⟨_,LeS.kr [(176,448)] [(0,(.g (.int .i64 ((n:Nat))))),(3,.arr 176 0 ([48+(n:Int)]).length),(4,(.g (.int .i64 (((m / 10):Nat)))))] [(176,.flat 1 (([48+(n:Int)]).map cB8))] (by simp [zG8,KpR,renV2,renV,zbl,cB8];try (have e10:(m:Int) % 10=n:=(by omega);simp [e10,cB8];try omega)) (by simp [zG8,KpOR,renO,renV,zca,cB8];try (have e10:(m:Int) % 10=n:=(by omega);simp [e10,cB8];try omega)) (by rfl) (by rfl) (by simp) (by simp) (by rfl) (by simp [forms]),_,?_,[48+(n:Int)],m / 10,rfl,?_,rfl⟩
                 ·omega
                 ·right;exact ⟨by omega,rfl⟩
         ·try simp at hc6
          all_goals
           have hm0:m=0:=by omega
           have hacc:acc=[48+(n:Int)]:=by rcases hv with ⟨h,-⟩ | ⟨-,h⟩;exfalso;omega;exact h
           subst hacc
           refine zb0 ?_
           refine zbo ?_
           refine zbj ?_
           refine AW_r rfl rfl λK hK=>?_
           simp (disch:=omega) [zG7,List.getElem?_eq_getElem,aNews,aAppend,aBuildSlice,chunks,numsOf]
           repeat' first|(exfalso;omega)|(refine ⟨λ_=>?_,λ_=>?_⟩)|(refine ⟨by omega,?_⟩)|(intro _)
           all_goals (refine hK _ ?_;clear hK K)
           all_goals
            refine zbi rfl (λhc8=>?_) (λhc8=>?_)
            ·try simp at hc8
             all_goals
              refine zc8 rfl rfl λK hK=>?_
              simp (disch:=omega) [zG7,List.getElem?_eq_getElem,aNews,aAppend,aBuildSlice,chunks,numsOf]
              repeat' first|(exfalso;omega)|(refine ⟨λ_=>?_,λ_=>?_⟩)|(refine ⟨by omega,?_⟩)|(intro _)
              all_goals (refine hK _ ?_;clear hK K)
              all_goals
               refine zbo ?_
               refine zbj ?_
               refine AW_r rfl rfl λK hK=>?_
               simp (disch:=omega) [zG7,List.getElem?_eq_getElem,aNews,aAppend,aBuildSlice,chunks,numsOf]
               repeat' first|(exfalso;omega)|(refine ⟨λ_=>?_,λ_=>?_⟩)|(refine ⟨by omega,?_⟩)|(intro _)
               all_goals (refine hK _ ?_;clear hK K)
               all_goals
                refine zbn ?_
                refine zbv (λmM sS=>∃(x:Int),mM=1∧(x=0)∧sS = { env:=lkE [(3,.arr 176 0 1),(6,(.g (.int .i64 (x)))),(7,(.g (.int .i64 (0))))],ob:=lk [(176,.flat 1 [cB8 (48+(n:Int))])] }) ?_ ?_
                ·refine ⟨_,LeS.kr [(176,176)] [(3,.arr 176 0 1),(6,(.g (.int .i64 ((0))))),(7,(.g (.int .i64 (0))))] [(176,.flat 1 [cB8 (48+(n:Int))])] (by simp [zG8,KpR,renV2,renV,zbl,cB8];try rfl) (by simp [zG8,KpOR,renO,renV,zca,cB8];try rfl) (by rfl) (by rfl) (by simp) (by simp) (by rfl) (by simp [forms]),_,0,rfl,?_,rfl⟩
                 ·simp
                ·rintro mM sS ⟨x,rfl,hx,rfl⟩
                 subst hx
                 refine zbj ?_
                 refine AW_r rfl rfl λK hK=>?_
                 simp (disch:=omega) [zG7,List.getElem?_eq_getElem,aNews,aAppend,aBuildSlice,chunks,numsOf]
                 repeat' first|(exfalso;omega)|(refine ⟨λ_=>?_,λ_=>?_⟩)|(refine ⟨by omega,?_⟩)|(intro _)
                 all_goals (refine hK _ ?_;clear hK K)
                 all_goals
                  refine zbi rfl (λhc9=>?_) (λhc9=>?_)
                  ·try simp at hc9
                   all_goals
                    refine zbk ?_
                    refine zbo ?_
                    refine zbj ?_
                    refine zbn ?_
                    refine zx4 rfl mix (by kernel_rfl) rfl λK hK=>?_
                    simp (disch:=omega) [zG7,List.getElem?_eq_getElem,aNews,aAppend,aBuildSlice,chunks,numsOf]
                    repeat' first|(exfalso;omega)|(refine ⟨λ_=>?_,λ_=>?_⟩)|(refine ⟨by omega,?_⟩)|(intro _)
                    all_goals (refine hK _ ?_;clear hK K)
                    all_goals
                     refine zbo ?_
                     refine zc8 rfl rfl λK hK=>?_
                     simp (disch:=omega) [zG7,List.getElem?_eq_getElem,aNews,aAppend,aBuildSlice,chunks,numsOf]
                     repeat' first|(exfalso;omega)|(refine ⟨λ_=>?_,λ_=>?_⟩)|(refine ⟨by omega,?_⟩)|(intro _)
                     all_goals (refine hK _ ?_;clear hK K)
                     all_goals
                      refine ⟨_,LeS.kr [(176,176)] [(3,.arr 176 0 1),(6,(.g (.int .i64 ((0))))),(7,(.g (.int .i64 (0))))] [(176,.flat 1 [cB8 (48+(n:Int))])] (by simp [zG8,KpR,renV2,renV,zbl,cB8];try rfl) (by simp [zG8,KpOR,renO,renV,zca,cB8];try rfl) (by rfl) (by rfl) (by simp) (by simp) (by rfl) (by simp [forms]),_,?_,0,rfl,?_,rfl⟩
                      ·omega
                      ·omega
                  ·try simp at hc9
                   all_goals
                    refine zb0 ?_
                    refine zbo ?_
                    refine AW_r rfl rfl λK hK=>?_
                    simp (disch:=omega) [zG7,List.getElem?_eq_getElem,aNews,aAppend,aBuildSlice,chunks,numsOf]
                    repeat' first|(exfalso;omega)|(refine ⟨λ_=>?_,λ_=>?_⟩)|(refine ⟨by omega,?_⟩)|(intro _)
                    all_goals (refine hK _ ?_;clear hK K)
                    all_goals
                     refine zbp (zcc ?_)
                     simp (disch:=omega) [zG7,List.getElem?_eq_getElem,aNews,aAppend,aBuildSlice,chunks,numsOf,cB8]
                     all_goals first|(have h0:n=0:=(by omega);subst h0;rfl) | rfl | trace_state
            ·try simp at hc8
             all_goals
              refine zbk ?_
              refine zbo ?_
              refine zbj ?_
              refine AW_r rfl rfl λK hK=>?_
              simp (disch:=omega) [zG7,List.getElem?_eq_getElem,aNews,aAppend,aBuildSlice,chunks,numsOf]
              repeat' first|(exfalso;omega)|(refine ⟨λ_=>?_,λ_=>?_⟩)|(refine ⟨by omega,?_⟩)|(intro _)
              all_goals (refine hK _ ?_;clear hK K)
              all_goals
               refine zbn ?_
               refine zbv (λmM sS=>∃(x:Int),mM=1∧(x=0)∧sS = { env:=lkE [(3,.arr 176 0 1),(6,(.g (.int .i64 (x)))),(7,(.g (.int .i64 (0))))],ob:=lk [(176,.flat 1 [cB8 (48+(n:Int))])] }) ?_ ?_
               ·refine ⟨_,LeS.kr [(176,176)] [(3,.arr 176 0 1),(6,(.g (.int .i64 ((0))))),(7,(.g (.int .i64 (0))))] [(176,.flat 1 [cB8 (48+(n:Int))])] (by simp [zG8,KpR,renV2,renV,zbl,cB8];try rfl) (by simp [zG8,KpOR,renO,renV,zca,cB8];try rfl) (by rfl) (by rfl) (by simp) (by simp) (by rfl) (by simp [forms]),_,0,rfl,?_,rfl⟩
                ·simp
               ·rintro mM sS ⟨x,rfl,hx,rfl⟩
                subst hx
                refine zbj ?_
                refine AW_r rfl rfl λK hK=>?_
                simp (disch:=omega) [zG7,List.getElem?_eq_getElem,aNews,aAppend,aBuildSlice,chunks,numsOf]
                repeat' first|(exfalso;omega)|(refine ⟨λ_=>?_,λ_=>?_⟩)|(refine ⟨by omega,?_⟩)|(intro _)
                all_goals (refine hK _ ?_;clear hK K)
                all_goals
                 refine zbi rfl (λhc10=>?_) (λhc10=>?_)
                 ·try simp at hc10
                  all_goals
                   refine zbk ?_
                   refine zbo ?_
                   refine zbj ?_
                   refine zbn ?_
                   refine zx4 rfl mix (by kernel_rfl) rfl λK hK=>?_
                   simp (disch:=omega) [zG7,List.getElem?_eq_getElem,aNews,aAppend,aBuildSlice,chunks,numsOf]
                   repeat' first|(exfalso;omega)|(refine ⟨λ_=>?_,λ_=>?_⟩)|(refine ⟨by omega,?_⟩)|(intro _)
                   all_goals (refine hK _ ?_;clear hK K)
                   all_goals
                    refine zbo ?_
                    refine zc8 rfl rfl λK hK=>?_
                    simp (disch:=omega) [zG7,List.getElem?_eq_getElem,aNews,aAppend,aBuildSlice,chunks,numsOf]
                    repeat' first|(exfalso;omega)|(refine ⟨λ_=>?_,λ_=>?_⟩)|(refine ⟨by omega,?_⟩)|(intro _)
                    all_goals (refine hK _ ?_;clear hK K)
                    all_goals
                     refine ⟨_,LeS.kr [(176,176)] [(3,.arr 176 0 1),(6,(.g (.int .i64 ((0))))),(7,(.g (.int .i64 (0))))] [(176,.flat 1 [cB8 (48+(n:Int))])] (by simp [zG8,KpR,renV2,renV,zbl,cB8];try rfl) (by simp [zG8,KpOR,renO,renV,zca,cB8];try rfl) (by rfl) (by rfl) (by simp) (by simp) (by rfl) (by simp [forms]),_,?_,0,rfl,?_,rfl⟩
                     ·omega
                     ·omega
                 ·try simp at hc10
                  all_goals
                   refine zb0 ?_
                   refine zbo ?_
                   refine AW_r rfl rfl λK hK=>?_
                   simp (disch:=omega) [zG7,List.getElem?_eq_getElem,aNews,aAppend,aBuildSlice,chunks,numsOf]
                   repeat' first|(exfalso;omega)|(refine ⟨λ_=>?_,λ_=>?_⟩)|(refine ⟨by omega,?_⟩)|(intro _)
                   all_goals (refine hK _ ?_;clear hK K)
                   all_goals
                    refine zbp (zcc ?_)
                    simp (disch:=omega) [zG7,List.getElem?_eq_getElem,aNews,aAppend,aBuildSlice,chunks,numsOf,cB8]
                    all_goals first|(have h0:n=0:=(by omega);subst h0;rfl) | rfl | trace_state
end Go.Proofs.Ytodmafgmdlkhoaa.Vs
end
section
namespace Go.Proofs.Ytodmafgmdlkhoaa.Vs
set_option linter.all false
set_option maxRecDepth 100000
attribute [local simp] DtCSet.cells zbe List.set_set List.getD_eq_getElem?_getD zcl
noncomputable def pruS(s:DtCSet)(n:Int):DtCSet:={ fName:=s.fName,fSnaps:=prn ((bareN s.fSnaps:Int)-n) 0 s.fSnaps }
theorem zmv(l:List DtCSnap)(n:Int)(h5:l.length≤5)(h0:0≤n):0≤goneN l n∧goneN l n≤5∧(goneN l n).toNat<10∧((goneN l n).toNat:Int)=goneN l n:=by
 have:=zld l
 unfold goneN
 omega
theorem pruneX(l:List DtCSet)(hl:l.length≤1048576)(k:Nat)(hk:k<l.length)(h5:l[k].fSnaps.length≤5)(n:Int)(hn:0≤n∧n≤1048576):XCall Try.prog 68 [.eptr 8 k 0,(.g (.int .i64 (n)))] [.own 2 (l.map DtCSet.cells)] (.s (digN (goneN l[k].fSnaps n).toNat)) [.own 2 ((l.set k (pruS l[k] n)).map DtCSet.cells)] []:=by
 obtain ⟨hg0,hg5,hg10,hgn⟩:=zmv l[k].fSnaps n h5 hn.1
 refine zbt Try.func68 (by rfl) (by rfl) (by rw [Try.ntmps68];exact Nat.le_of_ble_eq_true rfl) rfl (by simp) rfl rfl ?_
 rw [Try.ntmps68]
 refine zh1 (.own 2 (l.map DtCSet.cells)) (by simp [cvO]<;>assumption) ?_
 refine AW_k [(0,_),(1,_)] ⟨rfl,rfl,trivial⟩ ?_
 refine zgo 8 901 902 k hk (by simp [zG8]) (by simp [zG8]) (by simp [zG8]) (by decide) (by decide) (by decide) λzs hz=>?_
 have hkz:k<zs.length:=by rw [←hz] at hk;simpa using hk
 have hset:=@zsd zs k hkz
 refine zf9 (us:=l[k].fSnaps) 902 903 (by simp [zG8]) (by simp [zG8]) λys hys hone=>?_
 have hyl:ys.length=l[k].fSnaps.length:=by rw [←hys];simp
 refine AW_x rfl rfl λK hK=>?_
 simp (disch:=omega) [hset,hgn]
 repeat' first|(refine ⟨by omega,?_⟩)|(intro _)
 refine hK _ ?_;clear hK K
 refine AW_x rfl rfl λK hK=>?_
 simp (disch:=omega) [hset,hgn]
 repeat' first|(refine ⟨by omega,?_⟩)|(intro _)
 refine hK _ ?_;clear hK K
 refine zbj ?_
 refine AW_x rfl rfl λK hK=>?_
 simp (disch:=omega) [hset,hgn]
 repeat' first|(refine ⟨by omega,?_⟩)|(simp (disch:=omega) [hset,hgn])|(intro _)
 refine hK _ ?_;clear hK K
 refine zbn ?_
 refine zbv (λmM sS=>∃(i:Nat),mM=ys.length-i∧(i≤ys.length)∧sS = { env:=lkE [(0,.eptr 8 k 0),(5,(.g (.int .i64 (-n+(bareN (l[k].fSnaps.take i):Nat))))),(17,.arr 902 0 l[k].fSnaps.length),(18,(.g (.int .i64 ((l[k].fSnaps.length:Nat))))),(19,(.g (.int .i64 ((i:Nat)))))],ob:=lk [(8,.win 2 ((zs.map setV).set k [.s l[k].fName,.arr 902 0 l[k].fSnaps.length])),(901,.park ((zs.take k).flatMap setP++(zs.drop (k+1)).flatMap setP)),(902,.win 3 (ys.map snapV)),(903,.park (ys.flatMap snapP))] }) ?_ ?_
 ·refine ⟨_,LeS.kw [(8,8),(901,901),(902,902),(903,903)] [(0,.eptr 8 k 0),(5,(.g (.int .i64 (-n+(bareN (l[k].fSnaps.take (0)):Nat))))),(17,.arr 902 0 l[k].fSnaps.length),(18,(.g (.int .i64 ((l[k].fSnaps.length:Nat))))),(19,(.g (.int .i64 (((0):Nat)))))] [(8,.win 2 ((zs.map setV).set k [.s l[k].fName,.arr 902 0 l[k].fSnaps.length])),(901,.park ((zs.take k).flatMap setP++(zs.drop (k+1)).flatMap setP)),(902,.win 3 (ys.map snapV)),(903,.park (ys.flatMap snapP))] (by simp [zG8,KpR,renV2,renV,zbl,zcb,zcl];try (simp [bareN];done)) (by simp [zG8,KpOW,wnO,renO,plO,cvO,renV,pl1,zcb,zcl];first | exact .inr (zhs (zcg zs) ⟨rfl,rfl,rfl⟩) | trace_state) (by rfl) (by simp) (by simp) (by rfl) (by simp [formsX,List.range_succ,zbq,zbz]),_,0,rfl,?_,rfl⟩
  ·simp
 ·rintro mM sS ⟨i,rfl,hi,rfl⟩
  refine AW_x rfl rfl λK hK=>?_
  simp (disch:=omega) [hset,hgn]
  repeat' first|(refine ⟨by omega,?_⟩)|(intro _)
  refine hK _ ?_;clear hK K
  refine zbj ?_
  refine zbi rfl (λhc1=>?_) (λhc1=>?_)
  ·try simp [zba,zbf,zbd,zbc] at hc1
   all_goals
    have hbl:bareN (l[k].fSnaps.take i)≤5:=by have h:=zld (l[k].fSnaps.take i);rw [List.length_take] at h;omega
    have hyi : ys[i].1 = l[k].fSnaps[i] := by have h : (ys.map (·.1))[i]'(by simp; omega) = l[k].fSnaps[i] := by simp only [hys]
                                              simpa using h
    have hv1:(ys[i].2 2).oneCell'=true:=hone _ (List.getElem_mem _) 2
    simp only [Value.oneCell'] at hv1
    have hbt:=zjp l[k].fSnaps i (by omega)
    rw [←hyi] at hbt
    refine zbk ?_
    refine zbo ?_
    refine zbj ?_
    refine zbn ?_
    refine AW_x rfl rfl λK hK=>?_
    simp (disch:=omega) [hset,hgn,hv1]
    repeat' first|(exfalso;omega)|(refine ⟨λ_=>?_,λ_=>?_⟩)|(refine ⟨by omega,?_⟩)|(simp (disch:=omega) [hset,hgn,hv1])|(intro _)
    all_goals (refine hK _ ?_;clear hK K)
    all_goals
     refine AW_x rfl rfl λK hK=>?_
     simp (disch:=omega) [hset,hgn,hv1]
     repeat' first|(refine ⟨by omega,?_⟩)|(intro _)
     refine hK _ ?_;clear hK K
     refine zbi rfl (λhc2=>?_) (λhc2=>?_)
     ·try simp [zba,zbf,zbd,zbc] at hc2
      all_goals
       refine zb6 rfl rfl λK hK=>?_
       simp (disch:=omega) [hset,hgn,hv1]
       repeat' first|(exfalso;omega)|(refine ⟨λ_=>?_,λ_=>?_⟩)|(refine ⟨by omega,?_⟩)|(simp (disch:=omega) [hset,hgn,hv1])|(intro _)
       all_goals (refine hK _ ?_;clear hK K)
       all_goals
        refine zbo ?_
        refine zb6 rfl rfl λK hK=>?_
        simp (disch:=omega) [hset,hgn,hv1]
        repeat' first|(refine ⟨by omega,?_⟩)|(intro _)
        refine hK _ ?_;clear hK K
        refine ⟨_,LeS.kw [(8,8),(901,901),(902,902),(903,903)] [(0,.eptr 8 k 0),(5,(.g (.int .i64 (-n+(bareN (l[k].fSnaps.take (i+1)):Nat))))),(17,.arr 902 0 l[k].fSnaps.length),(18,(.g (.int .i64 ((l[k].fSnaps.length:Nat))))),(19,(.g (.int .i64 (((i+1):Nat)))))] [(8,.win 2 ((zs.map setV).set k [.s l[k].fName,.arr 902 0 l[k].fSnaps.length])),(901,.park ((zs.take k).flatMap setP++(zs.drop (k+1)).flatMap setP)),(902,.win 3 (ys.map snapV)),(903,.park (ys.flatMap snapP))] (by simp [zG8,KpR,renV2,renV,zbl,zcb,zcl];try (first | omega|(rw [hbt];split<;>first | omega|(exfalso;simp_all;done)))) (by simp [zG8,KpOW,wnO,renO,plO,cvO,renV,pl1,zcb,zcl];first | exact .inr (zhs (zcg zs) ⟨rfl,rfl,rfl⟩) | trace_state) (by rfl) (by simp) (by simp) (by rfl) (by simp [formsX,List.range_succ,zbq,zbz]),_,?_,i+1,rfl,?_,rfl⟩
        ·omega
        ·omega
     try simp [zba,zbf,zbd,zbc] at hc2
     refine zbk ?_
     refine zbo ?_
     refine zb6 rfl rfl λK hK=>?_
     simp (disch:=omega) [hset,hgn,hv1]
     repeat' first|(exfalso;omega)|(refine ⟨λ_=>?_,λ_=>?_⟩)|(refine ⟨by omega,?_⟩)|(simp (disch:=omega) [hset,hgn,hv1])|(intro _)
     all_goals (refine hK _ ?_;clear hK K)
     all_goals
      refine ⟨_,LeS.kw [(8,8),(901,901),(902,902),(903,903)] [(0,.eptr 8 k 0),(5,(.g (.int .i64 (-n+(bareN (l[k].fSnaps.take (i+1)):Nat))))),(17,.arr 902 0 l[k].fSnaps.length),(18,(.g (.int .i64 ((l[k].fSnaps.length:Nat))))),(19,(.g (.int .i64 (((i+1):Nat)))))] [(8,.win 2 ((zs.map setV).set k [.s l[k].fName,.arr 902 0 l[k].fSnaps.length])),(901,.park ((zs.take k).flatMap setP++(zs.drop (k+1)).flatMap setP)),(902,.win 3 (ys.map snapV)),(903,.park (ys.flatMap snapP))] (by simp [zG8,KpR,renV2,renV,zbl,zcb,zcl];try (first | omega|(rw [hbt];split<;>first | omega|(exfalso;simp_all;done)))) (by simp [zG8,KpOW,wnO,renO,plO,cvO,renV,pl1,zcb,zcl];first | exact .inr (zhs (zcg zs) ⟨rfl,rfl,rfl⟩) | trace_state) (by rfl) (by simp) (by simp) (by rfl) (by simp [formsX,List.range_succ,zbq,zbz]),_,?_,i+1,rfl,?_,rfl⟩
      ·omega
      ·omega
  try simp [zba,zbf,zbd,zbc] at hc1
  have hti:l[k].fSnaps.take i=l[k].fSnaps:=List.take_of_length_le (by omega)
  refine zb0 ?_
  refine zbo ?_
  refine AW_x rfl rfl λK hK=>?_
  simp (disch:=omega) [hset,hgn]
  repeat' first|(exfalso;omega)|(refine ⟨λ_=>?_,λ_=>?_⟩)|(refine ⟨by omega,?_⟩)|(simp (disch:=omega) [hset,hgn])|(intro _)
  all_goals (refine hK _ ?_;clear hK K)
  all_goals
   refine AW_x rfl rfl λK hK=>?_
   simp (disch:=omega) [hset,hgn]
   repeat' first|(refine ⟨by omega,?_⟩)|(simp (disch:=omega) [hset,hgn])|(intro _)
   refine hK _ ?_;clear hK K
   refine AW_x rfl rfl λK hK=>?_
   simp (disch:=omega) [hset,hgn]
   repeat' first|(refine ⟨by omega,?_⟩)|(intro _)
   refine hK _ ?_;clear hK K
   refine zbj ?_
   refine AW_x rfl rfl λK hK=>?_
   simp (disch:=omega) [hset,hgn]
   repeat' first|(refine ⟨by omega,?_⟩)|(simp (disch:=omega) [hset,hgn])|(intro _)
   refine hK _ ?_;clear hK K
   refine zbn ?_
   refine zbv (λmM sS=>∃(i:Nat) (ks:List SnapV) (d:Int),mM=ys.length-i∧(i≤ys.length∧ks=prV ((bareN l[k].fSnaps:Int)-n) 0 (ys.take i)∧d=min (bareN (l[k].fSnaps.take i):Int) (goneN l[k].fSnaps n))∧sS = { env:=lkE [(0,.eptr 8 k 0),(5,(.g (.int .i64 (goneN l[k].fSnaps n)))),(8,.arr 904 0 ks.length),(9,(.g (.int .i64 (d)))),(35,.arr 902 0 l[k].fSnaps.length),(36,(.g (.int .i64 ((l[k].fSnaps.length:Nat))))),(37,(.g (.int .i64 ((i:Nat)))))],ob:=lk [(8,.win 2 ((zs.map setV).set k [.s l[k].fName,.arr 902 0 l[k].fSnaps.length])),(901,.park ((zs.take k).flatMap setP++(zs.drop (k+1)).flatMap setP)),(902,.win 3 (ys.map snapV)),(903,.park (ys.flatMap snapP)),(904,.win 3 (ks.map snapV))] }) ?_ ?_
   ·refine ⟨_,LeS.kw [(8,8),(901,901),(902,902),(903,903),(904,512)] [(0,.eptr 8 k 0),(5,(.g (.int .i64 (goneN l[k].fSnaps n)))),(8,.arr 904 0 ([]).length),(9,(.g (.int .i64 ((0))))),(35,.arr 902 0 l[k].fSnaps.length),(36,(.g (.int .i64 ((l[k].fSnaps.length:Nat))))),(37,(.g (.int .i64 (((0):Nat)))))] [(8,.win 2 ((zs.map setV).set k [.s l[k].fName,.arr 902 0 l[k].fSnaps.length])),(901,.park ((zs.take k).flatMap setP++(zs.drop (k+1)).flatMap setP)),(902,.win 3 (ys.map snapV)),(903,.park (ys.flatMap snapP)),(904,.win 3 (([]).map snapV))] (by simp [zG8,KpR,renV2,renV,zbl,zcb,zcl];try (first | omega|(rw [hti];unfold goneN;split<;>omega))) (by simp [zG8,KpOW,wnO,renO,plO,cvO,renV,pl1,zcb,zcl];first | exact .inr (zhs (zcg zs) ⟨rfl,rfl,rfl⟩) | trace_state) (by rfl) (by simp) (by simp) (by rfl) (by simp [formsX,List.range_succ,zbq,zbz]),_,0,[],0,rfl,?_,rfl⟩
    ·exact ⟨by omega,rfl,by simp [bareN];omega⟩
   ·rintro mM sS ⟨i,ks,d,rfl,⟨hi,hks,hd⟩,rfl⟩
    have hkl:ks.length≤5:=by rw [hks];have h1:=(zh5 ((bareN l[k].fSnaps:Int)-n) (ys.take i) 0).length_le;rw [List.length_take] at h1;omega
    refine AW_x rfl rfl λK hK=>?_
    simp (disch:=omega) [hset,hgn]
    repeat' first|(refine ⟨by omega,?_⟩)|(intro _)
    refine hK _ ?_;clear hK K
    refine zbj ?_
    refine zbi rfl (λhc3=>?_) (λhc3=>?_)
    ·try simp [zba,zbf,zbd,zbc] at hc3
     all_goals
      have hpt:=zw2 ((bareN l[k].fSnaps:Int)-n) ys i (by omega)
      have hyi : ys[i].1 = l[k].fSnaps[i] := by have h : (ys.map (·.1))[i]'(by simp; omega) = l[k].fSnaps[i] := by simp only [hys]
                                                simpa using h
      have hv1:(ys[i].2 2).oneCell'=true:=hone _ (List.getElem_mem _) 2
      simp only [Value.oneCell'] at hv1
      have hbt:=zjp l[k].fSnaps i (by omega)
      rw [←hyi] at hbt
      refine zbk ?_
      refine zbo ?_
      refine zbj ?_
      refine zbn ?_
      refine AW_x rfl rfl λK hK=>?_
      simp (disch:=omega) [hset,hgn,hv1]
      repeat' first|(exfalso;omega)|(refine ⟨λ_=>?_,λ_=>?_⟩)|(refine ⟨by omega,?_⟩)|(simp (disch:=omega) [hset,hgn,hv1])|(intro _)
      all_goals (refine hK _ ?_;clear hK K)
      all_goals
       refine AW_x rfl rfl λK hK=>?_
       simp (disch:=omega) [hset,hgn,hv1]
       repeat' first|(exfalso;omega)|(refine ⟨λ_=>?_,λ_=>?_⟩)|(refine ⟨by omega,?_⟩)|(simp (disch:=omega) [hset,hgn,hv1])|(intro _)
       all_goals (refine hK _ ?_;clear hK K)
       all_goals
        refine zbi rfl (λhc4=>?_) (λhc4=>?_)
        ·try simp [zba,zbf,zbd,zbc] at hc4
         all_goals
          refine zb6 rfl rfl λK hK=>?_
          simp (disch:=omega) [hset,hgn,hv1]
          repeat' first|(exfalso;omega)|(refine ⟨λ_=>?_,λ_=>?_⟩)|(refine ⟨by omega,?_⟩)|(simp (disch:=omega) [hset,hgn,hv1])|(intro _)
          all_goals (refine hK _ ?_;clear hK K)
          all_goals
           refine zbo ?_
           refine zb6 rfl rfl λK hK=>?_
           simp (disch:=omega) [hset,hgn,hv1]
           repeat' first|(refine ⟨by omega,?_⟩)|(intro _)
           refine hK _ ?_;clear hK K
           refine ⟨_,LeS.kw [(8,8),(901,901),(902,902),(903,903),(904,904)] [(0,.eptr 8 k 0),(5,(.g (.int .i64 (goneN l[k].fSnaps n)))),(8,.arr 904 0 (ks).length),(9,(.g (.int .i64 ((d+1))))),(35,.arr 902 0 l[k].fSnaps.length),(36,(.g (.int .i64 ((l[k].fSnaps.length:Nat))))),(37,(.g (.int .i64 (((i+1):Nat)))))] [(8,.win 2 ((zs.map setV).set k [.s l[k].fName,.arr 902 0 l[k].fSnaps.length])),(901,.park ((zs.take k).flatMap setP++(zs.drop (k+1)).flatMap setP)),(902,.win 3 (ys.map snapV)),(903,.park (ys.flatMap snapP)),(904,.win 3 ((ks).map snapV))] (by simp [zG8,KpR,renV2,renV,zbl,zcb,zcl];try omega) (by simp [zG8,KpOW,wnO,renO,plO,cvO,renV,pl1,zcb,zcl];first | exact .inr (zhs (zcg zs) ⟨rfl,rfl,rfl⟩) | trace_state) (by rfl) (by simp) (by simp) (by rfl) (by simp [formsX,List.range_succ,zbq,zbz]),_,?_,i+1,ks,d+1,rfl,?_,rfl⟩
           ·omega
           ·rw [hys] at hpt
            have hgd:goneN l[k].fSnaps n=max 0 ((bareN l[k].fSnaps:Int)-n):=rfl
            refine ⟨by omega,?_,?_⟩
            ·rw [hpt,hks];split<;>rename_i h<;>first|(simp;done)|(exfalso;obtain ⟨h1,h2⟩:=h;first | omega|(simp_all;done))|(exfalso;exact h ⟨by assumption,by omega⟩) | trace_state
            ·rw [hbt];by_cases ht:ys[i].1.fTag=[]<;>first|(simp [ht];omega)|(exfalso;simp_all;done) | trace_state
        try simp [zba,zbf,zbd,zbc] at hc4
        refine zb6 rfl rfl λK hK=>?_
        simp (disch:=omega) [hset,hgn,hv1]
        repeat' first|(exfalso;omega)|(refine ⟨λ_=>?_,λ_=>?_⟩)|(refine ⟨by omega,?_⟩)|(simp (disch:=omega) [hset,hgn,hv1])|(intro _)
        all_goals (refine hK _ ?_;clear hK K)
        all_goals
         refine zbo ?_
         refine zb6 rfl rfl λK hK=>?_
         simp (disch:=omega) [hset,hgn,hv1]
         repeat' first|(refine ⟨by omega,?_⟩)|(intro _)
         refine hK _ ?_;clear hK K
         refine ⟨_,LeS.kw [(8,8),(901,901),(902,902),(903,903),(904,880)] [(0,.eptr 8 k 0),(5,(.g (.int .i64 (goneN l[k].fSnaps n)))),(8,.arr 904 0 (ks++[ys[i]]).length),(9,(.g (.int .i64 ((d))))),(35,.arr 902 0 l[k].fSnaps.length),(36,(.g (.int .i64 ((l[k].fSnaps.length:Nat))))),(37,(.g (.int .i64 (((i+1):Nat)))))] [(8,.win 2 ((zs.map setV).set k [.s l[k].fName,.arr 902 0 l[k].fSnaps.length])),(901,.park ((zs.take k).flatMap setP++(zs.drop (k+1)).flatMap setP)),(902,.win 3 (ys.map snapV)),(903,.park (ys.flatMap snapP)),(904,.win 3 ((ks++[ys[i]]).map snapV))] (by simp [zG8,KpR,renV2,renV,zbl,zcb,zcl];try omega) (by simp [zG8,KpOW,wnO,renO,plO,cvO,renV,pl1,zcb,zcl];first | exact .inr (zhs (zcg zs) ⟨rfl,rfl,rfl⟩) | trace_state) (by rfl) (by simp) (by simp) (by rfl) (by simp [formsX,List.range_succ,zbq,zbz]),_,?_,i+1,ks++[ys[i]],d,rfl,?_,rfl⟩
         ·omega
         ·rw [hys] at hpt
          have hgd:goneN l[k].fSnaps n=max 0 ((bareN l[k].fSnaps:Int)-n):=rfl
          refine ⟨by omega,?_,?_⟩
          ·rw [hpt,hks];split<;>rename_i h<;>first|(simp;done)|(exfalso;obtain ⟨h1,h2⟩:=h;first | omega|(simp_all;done))|(exfalso;exact h ⟨by assumption,by omega⟩) | trace_state
          ·rw [hbt];by_cases ht:ys[i].1.fTag=[]<;>first|(simp [ht];omega)|(exfalso;simp_all;done) | trace_state
    try simp [zba,zbf,zbd,zbc] at hc3
    have hti2:ys.take i=ys:=List.take_of_length_le (by omega)
    rw [hti2] at hks
    refine zb0 ?_
    refine zbo ?_
    refine AW_x rfl rfl λK hK=>?_
    simp (disch:=omega) [hset,hgn]
    repeat' first|(exfalso;omega)|(refine ⟨λ_=>?_,λ_=>?_⟩)|(refine ⟨by omega,?_⟩)|(simp (disch:=omega) [hset,hgn])|(intro _)
    all_goals (refine hK _ ?_;clear hK K)
    all_goals
     refine zdp (zlc (ks:=ks) (zs:=ys) 904 903 (by simp [zG8]) (by simp [zG8]) (by rw [hks];exact zh5 _ _ _)) ?_
     have hsn:(ks.map λz=>DtCSnap.cells z.1)=(pruS l[k] n).fSnaps.map DtCSnap.cells:=by have h:=zmu ((bareN l[k].fSnaps:Int)-n) ys 0;rw [hys] at h;show _=(prn _ 0 l[k].fSnaps).map _;rw [←h,List.map_map,hks];rfl
     rw [hsn]
     have hkl2:ks.length=(pruS l[k] n).fSnaps.length:=by have h:=congrArg List.length hsn;simpa using h
     refine zcp 8 901 904 k hz hk l[k].fName (pruS l[k] n).fSnaps (by simp [zG8,hkl2]) (by simp [zG8]) (by simp [zG8]) (by decide) (by decide) (by decide) ?_
     refine AW_x rfl rfl λK hK=>?_
     simp (disch:=omega) [hset,hgn]
     repeat' first|(exfalso;omega)|(refine zd5 (zbg zco zbm) (implDec _ hg10) rfl ?_;simp (disch:=omega) [hset,hgn])|(refine zd6 (implDec _ hg10) (by rfl) ?_ ?_;(focus (simp (disch:=omega) [hset,hgn,zbe];done));simp (disch:=omega) [hset,hgn])|(refine ⟨by omega,?_⟩)|(simp (disch:=omega) [hset,hgn])|(intro _)
     refine hK _ ?_;clear hK K
     refine zbp (zb5 [] [] (by simp [zG8,List.range_succ]) (by simp) ?_)
     simp (disch:=omega) [hset,hgn]
     all_goals first | rfl | exact ⟨rfl,rfl⟩ | trace_state
end Go.Proofs.Ytodmafgmdlkhoaa.Vs
end
section
namespace Go.Proofs.Ytodmafgmdlkhoaa.Vs
set_option linter.all false
set_option maxRecDepth 100000
def tldL(s:DtCSet):List (List UInt8):=s.fSnaps.map λp=>p.fName++58 :: p.fTag
theorem scR_cS(l:List (List UInt8)):scR (l.map cS)=true:=zd2 cS (λ_=>rfl) l
theorem set_own(l:List DtCSet)(k:Nat)(hk:k<l.length):l.map DtCSet.cells=(l.map DtCSet.cells).set k (DtCSet.cells l[k]):=by rw [←List.map_set,List.set_getElem_self]
theorem tldL_bd(s:DtCSet)(i:Nat)(h:i<s.fSnaps.length)(hb:(spc (tldL s)).length≤1073741824):s.fSnaps[i].fName.length+1+s.fSnaps[i].fTag.length≤1073741824:=by
 have hl:i<(tldL s).length:=by simpa [tldL] using h
 have h1:=(zw1 (tldL s) i hl hb).1
 have e:(tldL s)[i]=s.fSnaps[i].fName++58 :: s.fSnaps[i].fTag:=by simp [tldL]
 rw [e] at h1
 simp at h1
 omega
attribute [local simp] DtCSet.cells zbe List.set_set List.getD_eq_getElem?_getD zcl cS and_assoc scR_cS
attribute [-simp] aAppC aAppZ
theorem toldX(l:List DtCSet)(hl:l.length≤1048576)(k:Nat)(hk:k<l.length)(h5:l[k].fSnaps.length≤5)(hb:(spc (tldL l[k])).length≤1073741824):XCall Try.prog 69 [.eptr 8 k 0] [.own 2 (l.map DtCSet.cells)] (.s (spc (tldL l[k]))) [.own 2 (l.map DtCSet.cells)] []:=by
 have hll:(tldL l[k]).length=l[k].fSnaps.length:=by simp [tldL]
 refine zbt Try.func69 (by rfl) (by rfl) (by rw [Try.ntmps69];exact Nat.le_of_ble_eq_true rfl) rfl (by simp) rfl rfl ?_
 rw [Try.ntmps69]
 refine zh1 (.own 2 (l.map DtCSet.cells)) (by simp [cvO]<;>assumption) ?_
 refine AW_k [(0,_)] ⟨rfl,trivial⟩ ?_
 refine zgo 8 901 902 k hk (by simp [zG8]) (by simp [zG8]) (by simp [zG8]) (by decide) (by decide) (by decide) λzs hz=>?_
 have hkz:k<zs.length:=by rw [←hz] at hk;simpa using hk
 have hset:=@zsd zs k hkz
 refine zf9 (us:=l[k].fSnaps) 902 903 (by simp [zG8]) (by simp [zG8]) λys hys hone=>?_
 have hyl:ys.length=l[k].fSnaps.length:=by rw [←hys];simp
 have hll:(tldL l[k]).length=l[k].fSnaps.length:=by simp [tldL]
 refine AW_x rfl rfl λK hK=>?_
 simp (disch:=omega) [hset,hll]
 repeat' first|(refine ⟨by omega,?_⟩)|(intro _)
 refine hK _ ?_;clear hK K
 refine AW_x rfl rfl λK hK=>?_
 simp (disch:=omega) [hset,hll]
 repeat' first|(refine ⟨by omega,?_⟩)|(simp (disch:=omega) [hset,hll])|(intro _)
 refine hK _ ?_;clear hK K
 refine zbj ?_
 refine AW_x rfl rfl λK hK=>?_
 simp (disch:=omega) [hset,hll]
 repeat' first|(refine ⟨by omega,?_⟩)|(simp (disch:=omega) [hset,hll])|(intro _)
 refine hK _ ?_;clear hK K
 refine zbn ?_
 refine zbv (λmM sS=>∃(i:Nat),mM=ys.length-i∧(i≤ys.length)∧sS = { env:=lkE [(0,.eptr 8 k 0),(3,.arr 904 0 i),(10,.arr 902 0 l[k].fSnaps.length),(11,(.g (.int .i64 ((l[k].fSnaps.length:Nat))))),(12,(.g (.int .i64 ((i:Nat)))))],ob:=lk [(8,.win 2 ((zs.map setV).set k [.s l[k].fName,.arr 902 0 l[k].fSnaps.length])),(901,.park ((zs.take k).flatMap setP++(zs.drop (k+1)).flatMap setP)),(902,.win 3 (ys.map snapV)),(903,.park (ys.flatMap snapP)),(904,.win 1 (((tldL l[k]).take i).map cS))] }) ?_ ?_
 ·refine ⟨_,LeS.kw [(8,8),(901,901),(902,902),(903,903),(904,112)] [(0,.eptr 8 k 0),(3,.arr 904 0 (0)),(10,.arr 902 0 l[k].fSnaps.length),(11,(.g (.int .i64 ((l[k].fSnaps.length:Nat))))),(12,(.g (.int .i64 (((0):Nat)))))] [(8,.win 2 ((zs.map setV).set k [.s l[k].fName,.arr 902 0 l[k].fSnaps.length])),(901,.park ((zs.take k).flatMap setP++(zs.drop (k+1)).flatMap setP)),(902,.win 3 (ys.map snapV)),(903,.park (ys.flatMap snapP)),(904,.win 1 (((tldL l[k]).take (0)).map cS))] (by simp [zG8,KpR,renV2,renV,zbl,zcb,zcl];try (simp;done)) (by simp [zG8,KpOW,wnO,renO,plO,cvO,renV,pl1,zcb,zcl];first | exact .inr (zhs (zcg zs) ⟨rfl,rfl,rfl⟩) | exact ⟨.inr (zhs (zcg zs) ⟨rfl,rfl,rfl⟩),.inl ⟨by rw [htk,List.take_take,Nat.min_self];rfl,zck (zd2 cS (λ_=>rfl) _) _⟩⟩ | trace_state) (by rfl) (by simp) (by simp) (by rfl) (by simp [formsX,List.range_succ,zbq,zbz]),_,0,rfl,?_,rfl⟩
  ·simp
 ·rintro mM sS ⟨i,rfl,hi,rfl⟩
  refine AW_x rfl rfl λK hK=>?_
  simp (disch:=omega) [hset,hll]
  repeat' first|(refine ⟨by omega,?_⟩)|(intro _)
  refine hK _ ?_;clear hK K
  refine zbj ?_
  refine zbi rfl (λhc1=>?_) (λhc1=>?_)
  ·try simp [zba,zbf,zbd,zbc] at hc1
   all_goals
    have hyi : ys[i].1 = l[k].fSnaps[i] := by have h : (ys.map (·.1))[i]'(by simp; omega) = l[k].fSnaps[i] := by simp only [hys]
                                              simpa using h
    have hv1:(ys[i].2 2).oneCell'=true:=hone _ (List.getElem_mem _) 2
    simp only [Value.oneCell'] at hv1
    have htb:=tldL_bd l[k] i (by omega) hb
    have htk:=zzp cS (tldL l[k]) i (by omega)
    have htx:(tldL l[k])[i]'(by omega)=l[k].fSnaps[i].fName++58 :: l[k].fSnaps[i].fTag:=by simp [tldL]
    rw [htx] at htk
    rw [←hyi] at htb htk
    refine zbk ?_
    refine zbo ?_
    refine zbj ?_
    refine zbn ?_
    refine AW_x rfl rfl λK hK=>?_
    simp (disch:=omega) [hset,hll,hv1]
    repeat' first|(exfalso;omega)|(refine ⟨λ_=>?_,λ_=>?_⟩)|(refine ⟨by omega,?_⟩)|(simp (disch:=omega) [hset,hll,hv1])|(intro _)
    all_goals (refine hK _ ?_;clear hK K)
    all_goals
     refine zb6 rfl rfl λK hK=>?_
     simp (disch:=omega) [hset,hll,hv1]
     repeat' first|(refine ⟨by omega,?_⟩)|(simp (disch:=omega) [hset,hll,hv1])|(intro _)
     refine hK _ ?_;clear hK K
     refine zbo ?_
     refine zb6 rfl rfl λK hK=>?_
     simp (disch:=omega) [hset,hll,hv1]
     repeat' first|(refine ⟨by omega,?_⟩)|(intro _)
     refine hK _ ?_;clear hK K
     refine ⟨_,LeS.kw [(8,8),(901,901),(902,902),(903,903),(904,400)] [(0,.eptr 8 k 0),(3,.arr 904 0 (i+1)),(10,.arr 902 0 l[k].fSnaps.length),(11,(.g (.int .i64 ((l[k].fSnaps.length:Nat))))),(12,(.g (.int .i64 (((i+1):Nat)))))] [(8,.win 2 ((zs.map setV).set k [.s l[k].fName,.arr 902 0 l[k].fSnaps.length])),(901,.park ((zs.take k).flatMap setP++(zs.drop (k+1)).flatMap setP)),(902,.win 3 (ys.map snapV)),(903,.park (ys.flatMap snapP)),(904,.win 1 (((tldL l[k]).take (i+1)).map cS))] (by simp [zG8,KpR,renV2,renV,zbl,zcb,zcl];try (first | omega | rfl)) (by simp [zG8,KpOW,wnO,renO,plO,cvO,renV,pl1,zcb,zcl];first | exact .inr (zhs (zcg zs) ⟨rfl,rfl,rfl⟩) | exact ⟨.inr (zhs (zcg zs) ⟨rfl,rfl,rfl⟩),.inl ⟨by rw [htk,List.take_take,Nat.min_self];rfl,zck (zd2 cS (λ_=>rfl) _) _⟩⟩ | trace_state) (by rfl) (by simp) (by simp) (by rfl) (by simp [formsX,List.range_succ,zbq,zbz]),_,?_,i+1,rfl,?_,rfl⟩
     ·omega
     ·omega
  try simp [zba,zbf,zbd,zbc] at hc1
  have hi3:i=l[k].fSnaps.length:=by omega
  refine zb0 ?_
  refine zbo ?_
  refine zdp (zlc (ks:=ys) (zs:=ys) 902 903 (by simp [zG8]) (by simp [zG8]) (List.Sublist.refl _)) ?_
  have hsn:(ys.map λz=>DtCSnap.cells z.1)=l[k].fSnaps.map DtCSnap.cells:=by rw [←hys,List.map_map];rfl
  rw [hsn]
  refine zcp 8 901 902 k hz hk l[k].fName l[k].fSnaps (by simp [zG8]) (by simp [zG8]) (by simp [zG8]) (by decide) (by decide) (by decide) ?_
  have htf:List.take i (List.map cS (tldL l[k]))=List.map cS (tldL l[k]):=List.take_of_length_le (by simp;omega)
  simp only [htf]
  subst hi3
  refine AW_x rfl rfl λK hK=>?_
  simp (disch:=omega) [hset,hll]
  repeat' first|(exfalso;omega)|(refine zd5 (zbg zf8 zbm) (zqj (tldL l[k]) (by omega) hb) rfl ?_;simp (disch:=omega) [hset,hll])|(refine zd6 (zqj (tldL l[k]) (by omega) hb) (by rfl) ?_ ?_;(focus (simp (disch:=omega) [hset,hll,zbe];done));simp (disch:=omega) [hset,hll])|(refine ⟨λ_=>?_,λ_=>?_⟩)|(refine ⟨by omega,?_⟩)|(simp (disch:=omega) [hset,hll])|(intro _)
  all_goals (refine hK _ ?_;clear hK K)
  all_goals
   refine zbp (zb5 [] [] (by simp [zG8,List.range_succ]) (by simp) ?_)
   simp (disch:=omega) [hset,hll]
   all_goals first | rfl | exact ⟨rfl,rfl⟩ | exact set_own l k hk | trace_state
end Go.Proofs.Ytodmafgmdlkhoaa.Vs
end
section
namespace Go.Proofs.Ytodmafgmdlkhoaa.Vs
set_option linter.all false
set_option maxRecDepth 100000
def namL(l:List DtCSet):List (List UInt8):=l.map λs=>s.fName
theorem zw3{α β:Type}{zs:List (α × β)}{l:List α}(hz:zs.map (·.1)=l)(i:Nat)(h:i<zs.length)(h2:i<l.length):zs[i].1=l[i]:=by subst hz;simp
theorem zfo(l:List DtCSet):(namL l).length=l.length:=by simp [namL]
attribute [local simp] DtCSet.cells zbe zd0 cS and_assoc scR_cS zfo
attribute [-simp] aAppC aAppZ
theorem listX(l:List DtCSet)(hl:l.length≤1048576)(hb:(spc (namL l)).length≤1073741824):XCall Try.prog 63 [.ptr 8 0] [.cells [.arr 9 0 l.length],.own 2 (l.map DtCSet.cells)] (.s (spc (namL l))) [.cells [.arr 9 0 l.length],.own 2 (l.map DtCSet.cells)] []:=by
 have hll:=zfo l
 refine zbt Try.func63 (by rfl) (by rfl) (by rw [Try.ntmps63];exact Nat.le_of_ble_eq_true rfl) rfl (by simp) rfl rfl ?_
 rw [Try.ntmps63]
 refine zx7 (.cells [.arr 9 0 l.length]) (.own 2 (l.map DtCSet.cells)) (by simp [cvO]<;>assumption) (by simp [cvO]<;>assumption) ?_
 refine AW_k [(0,_)] ⟨rfl,trivial⟩ ?_
 refine zfa (us:=l) 9 901 (by simp [zG8]) (by simp [zG8]) λzs hz hone=>?_
 have hzl:zs.length=l.length:=by rw [←hz];simp
 refine AW_x rfl rfl λK hK=>?_
 simp (disch:=omega)
 repeat' first|(refine ⟨by omega,?_⟩)|(intro _)
 refine hK _ ?_;clear hK K
 refine AW_x rfl rfl λK hK=>?_
 simp (disch:=omega)
 repeat' first|(refine ⟨by omega,?_⟩)|(simp (disch:=omega))|(intro _)
 refine hK _ ?_;clear hK K
 refine zbj ?_
 refine AW_x rfl rfl λK hK=>?_
 simp (disch:=omega)
 repeat' first|(refine ⟨by omega,?_⟩)|(simp (disch:=omega))|(intro _)
 refine hK _ ?_;clear hK K
 refine zbn ?_
 refine zbv (λmM sS=>∃(i:Nat),mM=zs.length-i∧(i≤zs.length)∧sS = { env:=lkE [(0,.ptr 8 0),(3,.arr 904 0 i),(10,.arr 9 0 l.length),(11,(.g (.int .i64 ((l.length:Nat))))),(12,(.g (.int .i64 ((i:Nat)))))],ob:=lk [(8,.cells [.arr 9 0 l.length]),(9,.win 2 (zs.map setV)),(901,.park (zs.flatMap setP)),(904,.win 1 (((namL l).take i).map cS))] }) ?_ ?_
 ·refine ⟨_,LeS.kw [(8,8),(9,9),(901,901),(904,112)] [(0,.ptr 8 0),(3,.arr 904 0 (0)),(10,.arr 9 0 l.length),(11,(.g (.int .i64 ((l.length:Nat))))),(12,(.g (.int .i64 (((0):Nat)))))] [(8,.cells [.arr 9 0 l.length]),(9,.win 2 (zs.map setV)),(901,.park (zs.flatMap setP)),(904,.win 1 (((namL l).take (0)).map cS))] (by simp [zG8,KpR,renV2,renV,zbl,zcg,zd0];try (simp;done)) (by simp [zG8,KpOW,wnO,renO,plO,cvO,renV,pl1,zcg,zd0];first | exact .inl ⟨by rw [htk,List.take_take,Nat.min_self];rfl,zck (zd2 cS (λ_=>rfl) _) _⟩ | trace_state) (by rfl) (by simp) (by simp) (by rfl) (by simp [formsX,List.range_succ,zbq,zbz]),_,0,rfl,?_,rfl⟩
  ·simp
 ·rintro mM sS ⟨i,rfl,hi,rfl⟩
  refine AW_x rfl rfl λK hK=>?_
  simp (disch:=omega)
  repeat' first|(refine ⟨by omega,?_⟩)|(intro _)
  refine hK _ ?_;clear hK K
  refine zbj ?_
  refine zbi rfl (λhc1=>?_) (λhc1=>?_)
  ·try simp [zba,zbf,zbd,zbc] at hc1
   all_goals
    have hyi:=zw3 hz i (by omega) (by omega)
    have hv1:(zs[i].2 1).oneCell'=true:=hone _ (List.getElem_mem _) 1
    simp only [Value.oneCell'] at hv1
    have htk:=zzp cS (namL l) i (by rw [zfo];omega)
    have htx:(namL l)[i]'(by rw [zfo];omega)=zs[i].1.fName:=by rw [hyi];simp [namL]
    rw [htx] at htk
    refine zbk ?_
    refine zbo ?_
    refine zbj ?_
    refine zbn ?_
    refine AW_x rfl rfl λK hK=>?_
    simp (disch:=omega) [hv1]
    repeat' first|(exfalso;omega)|(refine ⟨λ_=>?_,λ_=>?_⟩)|(refine ⟨by omega,?_⟩)|(simp (disch:=omega) [hv1])|(intro _)
    all_goals (refine hK _ ?_;clear hK K)
    all_goals
     refine zb6 rfl rfl λK hK=>?_
     simp (disch:=omega) [hv1]
     repeat' first|(refine ⟨by omega,?_⟩)|(simp (disch:=omega) [hv1])|(intro _)
     refine hK _ ?_;clear hK K
     refine zbo ?_
     refine zb6 rfl rfl λK hK=>?_
     simp (disch:=omega) [hv1]
     repeat' first|(refine ⟨by omega,?_⟩)|(intro _)
     refine hK _ ?_;clear hK K
     refine ⟨_,LeS.kw [(8,8),(9,9),(901,901),(904,336)] [(0,.ptr 8 0),(3,.arr 904 0 (i+1)),(10,.arr 9 0 l.length),(11,(.g (.int .i64 ((l.length:Nat))))),(12,(.g (.int .i64 (((i+1):Nat)))))] [(8,.cells [.arr 9 0 l.length]),(9,.win 2 (zs.map setV)),(901,.park (zs.flatMap setP)),(904,.win 1 (((namL l).take (i+1)).map cS))] (by simp [zG8,KpR,renV2,renV,zbl,zcg,zd0];try (first | omega | rfl)) (by simp [zG8,KpOW,wnO,renO,plO,cvO,renV,pl1,zcg,zd0];first | exact .inl ⟨by rw [htk,List.take_take,Nat.min_self];rfl,zck (zd2 cS (λ_=>rfl) _) _⟩ | trace_state) (by rfl) (by simp) (by simp) (by rfl) (by simp [formsX,List.range_succ,zbq,zbz]),_,?_,i+1,rfl,?_,rfl⟩
     ·omega
     ·omega
  try simp [zba,zbf,zbd,zbc] at hc1
  have hi3:i=l.length:=by omega
  refine zb0 ?_
  refine zbo ?_
  refine zdp (zh4 (ks:=zs) (zs:=zs) 9 901 (by simp [zG8]) (by simp [zG8]) (List.Sublist.refl _)) ?_
  have hsn:(zs.map λz=>DtCSet.cells z.1)=l.map DtCSet.cells:=by rw [←hz,List.map_map];rfl
  rw [hsn]
  have htf:List.take i (List.map cS (namL l))=List.map cS (namL l):=List.take_of_length_le (by rw [List.length_map,zfo];omega)
  simp only [htf]
  subst hi3
  refine AW_x rfl rfl λK hK=>?_
  simp (disch:=omega)
  repeat' first|(exfalso;omega)|(refine zd5 (zbg zf8 zbm) (zqj (namL l) (by rw [zfo];omega) hb) rfl ?_;simp (disch:=omega))|(refine zd6 (zqj (namL l) (by rw [zfo];omega) hb) (by rfl) ?_ ?_;(focus (simp (disch:=omega) [zbe];done));simp (disch:=omega))|(refine ⟨λ_=>?_,λ_=>?_⟩)|(refine ⟨by omega,?_⟩)|(simp (disch:=omega))|(intro _)
  all_goals (refine hK _ ?_;clear hK K)
  all_goals
   refine zbp (zb5 [] [] (by simp [zG8,List.range_succ]) (by simp) ?_)
   simp (disch:=omega)
   all_goals first | rfl | exact ⟨rfl,rfl⟩ | exact ⟨⟨rfl,rfl⟩,rfl⟩ | trace_state
end Go.Proofs.Ytodmafgmdlkhoaa.Vs
end
section
namespace Go.Proofs.Ytodmafgmdlkhoaa.Vs
set_option linter.all false
set_option maxRecDepth 100000
/-! creating -/
noncomputable def lessN:List DtCSet→List UInt8→Nat
 | [],_=>0
 | s :: l,n=>if Op.bytesLess s.fName n=true then lessN l n+1 else 0
theorem lessN_le(l:List DtCSet)(n:List UInt8):lessN l n≤l.length:=by
 induction l with
 | nil=>simp [lessN]
 | cons s l ih=>simp only [lessN,List.length_cons];split<;>omega
theorem zle(n:List UInt8):∀(l:List DtCSet) (i:Nat),i≤l.length→(∀j (h:j<l.length),j<i→Op.bytesLess l[j].fName n=true)→(∀h:i<l.length,Op.bytesLess l[i].fName n=false)→lessN l n=i
 | [],i,hi,_,_=>by simp at hi;subst hi;rfl
 | s :: l,0,_,_,h=>by
  have:=h (by simp)
  simp only [List.getElem_cons_zero] at this
  simp [lessN,this]
 | s :: l,i+1,hi,h1,h2=>by
  have h0:=h1 0 (by simp) (by omega)
  simp only [List.getElem_cons_zero] at h0
  simp only [lessN,h0,if_true]
  rw [zle n l i (by simpa using hi) (λj h hj=>by have:=h1 (j+1) (by simpa using h) (by omega);simpa using this) (λh=>by have:=h2 (by simpa using h);simpa using this)]
noncomputable def creS(l:List DtCSet)(n:List UInt8):List DtCSet:=if 0≤findS l n then l else if l.length=5 then l else l.take (lessN l n) ++ { fName:=n,fSnaps:=[] } :: l.drop (lessN l n)
noncomputable def creR(l:List DtCSet)(n:List UInt8):List UInt8:=if 0≤findS l n then bExists else if l.length=5 then bFull else bOk
theorem zsf{l:List DtCSet}{n:List UInt8}(h:0≤findS l n):creS l n=l∧creR l n=bExists:=by unfold creS creR;rw [if_pos h,if_pos h];exact ⟨rfl,rfl⟩
theorem zsg{l:List DtCSet}{n:List UInt8}(h:findS l n<0)(h5:(l.length:Int)=5):creS l n=l∧creR l n=bFull:=by unfold creS creR;rw [if_neg (by omega),if_pos (by omega),if_neg (by omega),if_pos (by omega)];exact ⟨rfl,rfl⟩
theorem zsh{l:List DtCSet}{n:List UInt8}(h:findS l n<0)(h5:¬(l.length:Int)=5):creS l n=l.take (lessN l n) ++ { fName:=n,fSnaps:=[] } :: l.drop (lessN l n)∧creR l n=bOk:=by unfold creS creR;rw [if_neg (by omega),if_neg (by omega),if_neg (by omega),if_neg (by omega)];exact ⟨rfl,rfl⟩
def newV(n:List UInt8):SetV:=({ fName:=n,fSnaps:=[] },λ_=>.slice none 0 0)
theorem zvq{zs:List SetV}{l:List DtCSet}(hzl:zs.length=l.length)(y:List AV)(hy:∀x∈y,scal0 x=true)(k:Nat)(hk:k≤l.length)(hl:l.length≤1048576):XCall Try.prog 89 [.arr 8 0 l.length,(.g (.int .i64 ((k:Nat)))),.arr 9 0 1] [.own 2 (zs.map setV),.own 2 [y]] (.arr 16 0 (l.length+1)) [.dead,.dead] [.own 2 ((zs.map setV).take k++y :: (zs.map setV).drop k)]:=by
 have e:(zs.map setV).length=l.length:=by rw [List.length_map,hzl]
 have h:=zzn (zs.map setV) (zcg zs) y hy k (by omega) (by omega)
 rw [e] at h
 exact h
theorem zqm(n:List UInt8):setV (newV n)=[.s n,.g (.slice none 0 0)]:=rfl
theorem zqn(n:List UInt8):setP (newV n)=[(.sl 3 [],.slice none 0 0)]:=rfl
theorem scR_ins(zs:List SetV)(n:List UInt8)(i:Nat):scR ((zs.map setV).take i++[.s n,.g (.slice none 0 0)] :: (zs.map setV).drop i)=true:=by
 have:(zs.map setV).take i++[.s n,.g (.slice none 0 0)] :: (zs.map setV).drop i=(zs.take i++newV n :: zs.drop i).map setV:=by simp [zqm]
 rw [this];exact zcg _
theorem ins_c{zs:List SetV}{l:List DtCSet}(hz:zs.map (·.1)=l)(n:List UInt8)(i:Nat):((zs.take i++newV n :: zs.drop i).map λz=>DtCSet.cells z.1)=(l.take i ++ { fName:=n,fSnaps:=[] } :: l.drop i).map DtCSet.cells:=by
 subst hz;simp [newV,Function.comp_def]
attribute [local simp] DtCSet.cells zbe and_assoc DtCatalog.cells zcg
theorem createX(l:List DtCSet)(hl:l.length≤1048576)(n:List UInt8):XCall Try.prog 62 [.ptr 8 0,.s n] [.cells [.arr 9 0 l.length],.own 2 (l.map DtCSet.cells)] (.s (creR l n)) [.cells [.arr 16 0 (creS l n).length],.dead] [.own 2 ((creS l n).map DtCSet.cells)]:=by
 refine zbt Try.func62 (by rfl) (by rfl) (by rw [Try.ntmps62];exact Nat.le_of_ble_eq_true rfl) rfl (by simp) rfl rfl ?_
 rw [Try.ntmps62]
 refine zx7 (.cells [.arr 9 0 l.length]) (.own 2 (l.map DtCSet.cells)) (by simp [cvO]<;>assumption) (by simp [cvO]<;>assumption) ?_
 refine AW_k [(0,_),(1,_)] ⟨rfl,rfl,trivial⟩ ?_
 refine AW_x rfl rfl λK hK=>?_
 simp (disch:=omega)
 repeat' first|(refine ⟨by omega,?_⟩)|(intro _)
 refine hK _ ?_;clear hK K
 refine zbj ?_
 refine zbn ?_
 refine AW_x rfl rfl λK hK=>?_
 simp (disch:=omega)
 repeat' first|(exfalso;omega)|(refine zd5 (zbg (zbw rfl) (zbg zf1 zbm)) (zw0 { fSets:=l } n (by simpa using hl)) rfl ?_;simp (disch:=omega))|(refine zd6 (zw0 { fSets:=l } n (by simpa using hl)) (by rfl) ?_ ?_;(focus (simp (disch:=omega) [zbe];done));simp (disch:=omega))|(refine ⟨by omega,?_⟩)|(simp (disch:=omega))|(intro _)
 refine hK _ ?_;clear hK K
 refine zbi rfl (λhc1=>?_) (λhc1=>?_)
 ·try simp [zba,zbf,zbd,zbc] at hc1
  all_goals
   refine AW_x rfl rfl λK hK=>?_
   simp (disch:=omega)
   repeat' first|(exfalso;omega)|(refine ⟨λ_=>?_,λ_=>?_⟩)|(refine ⟨by omega,?_⟩)|(simp (disch:=omega))|(intro _)
   all_goals (refine hK _ ?_;clear hK K)
   all_goals
    refine zbp (zb5 [9] [] (by simp [zG8,List.range_succ]) (by simp) ?_)
    simp (disch:=omega)
    all_goals first|(have ⟨h1,h2⟩:=zsf hc1;rw [h1,h2];exact ⟨rfl,rfl,rfl,rfl⟩)|(have ⟨h1,h2⟩:=zsg hc1 hc2;rw [h1,h2];exact ⟨rfl,rfl,rfl,rfl⟩)|(have ⟨h1,h2⟩:=zsh hc1 hc2;rw [h1,h2,hcut];exact ⟨rfl,rfl,(by simp;omega),(by first|(simp [DtCSet.cells,List.map_take,List.map_drop];done)|(rw [List.take_of_length_le (by omega:l.length≤i)];simp [DtCSet.cells,List.map_drop];done))⟩) | trace_state
 try simp [zba,zbf,zbd,zbc] at hc1
 refine AW_x rfl rfl λK hK=>?_
 simp (disch:=omega)
 repeat' first|(exfalso;omega)|(refine ⟨λ_=>?_,λ_=>?_⟩)|(refine ⟨by omega,?_⟩)|(simp (disch:=omega))|(intro _)
 all_goals (refine hK _ ?_;clear hK K)
 all_goals
  refine zbi rfl (λhc2=>?_) (λhc2=>?_)
  ·try simp [zba,zbf,zbd,zbc] at hc2
   all_goals
    refine AW_x rfl rfl λK hK=>?_
    simp (disch:=omega)
    repeat' first|(exfalso;omega)|(refine ⟨λ_=>?_,λ_=>?_⟩)|(refine ⟨by omega,?_⟩)|(simp (disch:=omega))|(intro _)
    all_goals (refine hK _ ?_;clear hK K)
    all_goals
     refine zbp (zb5 [9] [] (by simp [zG8,List.range_succ]) (by simp) ?_)
     simp (disch:=omega)
     all_goals first|(have ⟨h1,h2⟩:=zsf hc1;rw [h1,h2];exact ⟨rfl,rfl,rfl,rfl⟩)|(have ⟨h1,h2⟩:=zsg hc1 hc2;rw [h1,h2];exact ⟨rfl,rfl,rfl,rfl⟩)|(have ⟨h1,h2⟩:=zsh hc1 hc2;rw [h1,h2,hcut];exact ⟨rfl,rfl,(by simp;omega),(by first|(simp [DtCSet.cells,List.map_take,List.map_drop];done)|(rw [List.take_of_length_le (by omega:l.length≤i)];simp [DtCSet.cells,List.map_drop];done))⟩) | trace_state
  try simp [zba,zbf,zbd,zbc] at hc2
  refine zbk ?_
  refine zbo ?_
  refine AW_x rfl rfl λK hK=>?_
  simp (disch:=omega)
  repeat' first|(exfalso;omega)|(refine ⟨λ_=>?_,λ_=>?_⟩)|(refine ⟨by omega,?_⟩)|(simp (disch:=omega))|(intro _)
  all_goals (refine hK _ ?_;clear hK K)
  all_goals
   refine zbj ?_
   refine zbn ?_
   refine zbv (λmM sS=>∃(i:Nat),mM=l.length-i∧(i≤l.length∧∀j (h:j<l.length),j<i→Op.bytesLess l[j].fName n=true)∧sS = { env:=lkE [(0,.ptr 8 0),(1,.s n),(5,(.g (.int .i64 ((i:Nat)))))],ob:=lk [(8,.cells [.arr 9 0 l.length]),(9,.own 2 (l.map DtCSet.cells))] }) ?_ ?_
   ·refine ⟨_,LeS.kx [(8,8),(9,9)] [(0,.ptr 8 0),(1,.s n),(5,(.g (.int .i64 (((0):Nat)))))] [(8,.cells [.arr 9 0 l.length]),(9,.own 2 (l.map DtCSet.cells))] (by simp [zG8,KpR,renV2,renV,zbl,DtCSet.cells];try rfl) (by simp [zG8,KpOX,renO,plO,cvO,renV,pl1,DtCSet.cells];try rfl) (by rfl) (by simp) (by simp) (by rfl) (by simp [formsX,List.range_succ,zbq,zbz]),_,0,rfl,?_,rfl⟩
    ·simp
   ·rintro mM sS ⟨i,rfl,⟨hi,hpre⟩,rfl⟩
    refine zbj ?_
    refine AW_x rfl rfl λK hK=>?_
    simp (disch:=omega)
    repeat' first|(exfalso;omega)|(refine ⟨λ_=>?_,λ_=>?_⟩)|(refine ⟨by omega,?_⟩)|(simp (disch:=omega))|(intro _)
    all_goals (refine hK _ ?_;clear hK K)
    all_goals
     refine zbi rfl (λhc3=>?_) (λhc3=>?_)
     ·try simp [zba,zbf,zbd,zbc] at hc3
      all_goals
       have hg:(l.map DtCSet.cells)[i]? = if h:i<l.length then some (DtCSet.cells l[i]) else none:=by by_cases h:i<l.length<;>simp [h]
       refine zbk ?_
       refine zbo ?_
       refine zbn ?_
       refine zb6 rfl rfl λK hK=>?_
       simp (disch:=omega)
       repeat' first|(exfalso;omega)|(refine ⟨λ_=>?_,λ_=>?_⟩)|(refine ⟨by omega,?_⟩)|(simp (disch:=omega))|(intro _)
       all_goals (refine hK _ ?_;clear hK K)
       all_goals
        refine ⟨_,LeS.kx [(8,8),(9,9)] [(0,.ptr 8 0),(1,.s n),(5,(.g (.int .i64 (((i+1):Nat)))))] [(8,.cells [.arr 9 0 l.length]),(9,.own 2 (l.map DtCSet.cells))] (by simp [zG8,KpR,renV2,renV,zbl,DtCSet.cells];try rfl) (by simp [zG8,KpOX,renO,plO,cvO,renV,pl1,DtCSet.cells];try rfl) (by rfl) (by simp) (by simp) (by rfl) (by simp [formsX,List.range_succ,zbq,zbz]),_,?_,i+1,rfl,?_,rfl⟩
        ·omega
        ·exact ⟨by omega,λj h hj=>if e:j<i then hpre j h e else (by have e2:j=i:=(by omega);subst e2;assumption)⟩
     try simp [zba,zbf,zbd,zbc] at hc3
     refine zb0 ?_
     refine zbo ?_
     have hcut:lessN l n=i:=zle n l i (by omega) hpre (λh=>by first|(exfalso;omega) | assumption | simp_all)
     refine zfa (us:=l) 9 901 (by simp [zG8]) (by simp [zG8]) λzs hz hone=>?_
     have hzl:zs.length=l.length:=by rw [←hz];simp
     have hzl2:(zs.length=l.length)=True:=eq_true hzl
     refine AW_x rfl rfl λK hK=>?_
     simp (disch:=omega)
     repeat' first|(exfalso;omega)|(refine zc9 [9,800] true [] (zvq hzl [.s n,.g (.slice none 0 0)] (by simp [scal0]) i hi hl) ?_ ?_ ?_;(focus (simp [List.range_succ,nmC];done));(focus (simp (disch:=omega) [zbe];done));simp (disch:=omega))|(refine ⟨λ_=>?_,λ_=>?_⟩)|(refine ⟨by omega,?_⟩)|(simp (disch:=omega))|(intro _)
     all_goals (refine hK _ ?_;clear hK K)
     all_goals
      refine AW_ow (sz:=2) 816 905 (scR_ins zs n i) (by first|(simp [zG8];done)|(rw [List.take_of_length_le (i:=i) (by rw [List.length_map];omega),List.drop_eq_nil_of_le (i:=i) (by rw [List.length_map];omega)];simp [zG8];done)) (by simp [zG8]) ?_
      refine zdp (LeS.parkN 901 (s:=3) (ps1:=(zs.take i).flatMap setP) (ps2:=(zs.drop i).flatMap setP) (by simp [zG8];rw [←List.flatMap_append,List.take_append_drop])) ?_
      refine zdp (zh4 (ks:=zs.take i++newV n :: zs.drop i) (zs:=zs.take i++newV n :: zs.drop i) 816 901 (by simp [zG8,zqm]) (by simp [zG8,zqn]) (List.Sublist.refl _)) ?_
      have hsn:=ins_c hz n i
      rw [hsn]
      refine AW_x rfl rfl λK hK=>?_
      simp (disch:=omega)
      repeat' first|(refine ⟨by omega,?_⟩)|(intro _)
      refine hK _ ?_;clear hK K
      refine zbp (zb5 [816] [] (by simp [zG8,List.range_succ]) (by simp) ?_)
      simp (disch:=omega)
      all_goals first|(have ⟨h1,h2⟩:=zsf hc1;rw [h1,h2];exact ⟨rfl,rfl,rfl,rfl⟩)|(have ⟨h1,h2⟩:=zsg hc1 hc2;rw [h1,h2];exact ⟨rfl,rfl,rfl,rfl⟩)|(have ⟨h1,h2⟩:=zsh hc1 hc2;rw [h1,h2,hcut];exact ⟨rfl,rfl,(by simp;omega),(by first|(simp [DtCSet.cells,List.map_take,List.map_drop];done)|(rw [List.take_of_length_le (by omega:l.length≤i)];simp [DtCSet.cells,List.map_drop];done))⟩) | trace_state
end Go.Proofs.Ytodmafgmdlkhoaa.Vs
end
section
namespace Go.Proofs.Ytodmafgmdlkhoaa.Vs
set_option linter.all false
set_option maxRecDepth 100000
attribute [local simp] DtCSet.cells DtCSnap.cells
theorem tld_at(s:DtCSet)(i:Nat)(h:i<s.fSnaps.length)(hb:(spc (tldL s)).length≤1073741824):spc ((tldL s).take (i+1))=(if i=0 then [] else spc ((tldL s).take i)++[32])++s.fSnaps[i].fName++58 :: s.fSnaps[i].fTag∧(spc ((tldL s).take i)).length+s.fSnaps[i].fName.length+s.fSnaps[i].fTag.length+1≤1073741824:=by
 have hl:i<(tldL s).length:=by simpa [tldL] using h
 have e:(tldL s)[i]=s.fSnaps[i].fName++58 :: s.fSnaps[i].fTag:=by simp [tldL]
 have h1:=zlb (tldL s) i hl
 have h2:=(zw1 (tldL s) i hl hb).1
 rw [e] at h2
 refine ⟨?_,by simp at h2;omega⟩
 rw [h1,e]
 split<;>simp
theorem l15Read(s:DtCSet)(hs:s.fSnaps.length≤1048576)(hb:(spc (tldL s)).length≤1073741824):PCall Try.prog 98 [.agg (DtCSet.cells s)] (.s (spc (tldL s))):=by
 refine zbr Try.func98 (by rfl) (by rfl) (by rw [Try.ntmps98];exact Nat.le_of_ble_eq_true rfl) rfl (by decide) ?_
 rw [Try.ntmps98]
 refine AW_k [(0,_)] ⟨rfl,trivial⟩ ?_
 refine AW_r rfl rfl λK hK=>?_
 simp (disch:=omega)
 repeat' first|(refine ⟨by omega,?_⟩)|(intro _)
 refine hK _ ?_;clear hK K
 refine AW_r rfl rfl λK hK=>?_
 simp (disch:=omega)
 repeat' first|(refine ⟨by omega,?_⟩)|(intro _)
 refine hK _ ?_;clear hK K
 refine zbj ?_
 refine AW_r rfl rfl λK hK=>?_
 simp (disch:=omega)
 repeat' first|(refine ⟨by omega,?_⟩)|(intro _)
 refine hK _ ?_;clear hK K
 refine zbn ?_
 refine zbv (λmM sS=>∃(i:Nat),mM=s.fSnaps.length-i∧(i≤s.fSnaps.length)∧sS = { env:=lkE [(1,.ptr 32 0),(3,.s (spc ((tldL s).take i))),(4,(.g (.int .i64 ((i:Nat)))))],ob:=upd (formOb [] []) 32 (some (.cells (DtCSet.cells s))) }) ?_ ?_
 ·refine ⟨_,LeS.kp [(1,.ptr 32 0),(3,.s (spc ((tldL s).take (0)))),(4,(.g (.int .i64 (((0):Nat)))))] (by simp [KpE,zbx,zbl,zbq];all_goals first | rfl|(rw [htk];split<;>first | rfl|(simp [spc];done)|(subst_vars;simp [spc];done)|(exfalso;omega)|(simp_all;done))),_,0,rfl,?_,rfl⟩
  ·simp
 ·rintro mM sS ⟨i,rfl,hi,rfl⟩
  refine zbj ?_
  refine AW_r rfl rfl λK hK=>?_
  simp (disch:=omega)
  repeat' first|(refine ⟨by omega,?_⟩)|(intro _)
  refine hK _ ?_;clear hK K
  refine zbi rfl (λhc1=>?_) (λhc1=>?_)
  ·try simp [zba,zbf,zbd,zbc] at hc1
   all_goals
    have hg:s.fSnaps[i]? = some s.fSnaps[i]:=List.getElem?_eq_getElem (by omega)
    have ⟨htk,hbd⟩:=tld_at s i (by omega) hb
    refine zbk ?_
    refine zbo ?_
    refine zbj ?_
    refine zbn ?_
    refine zbj ?_
    refine AW_r rfl rfl λK hK=>?_
    simp (disch:=omega)
    repeat' first|(exfalso;omega)|(refine ⟨λ_=>?_,λ_=>?_⟩)|(refine ⟨by omega,?_⟩)|(intro _)
    all_goals (refine hK _ ?_;clear hK K)
    all_goals
     refine zbi rfl (λhc2=>?_) (λhc2=>?_)
     ·try simp [zba,zbf,zbd,zbc] at hc2
      all_goals
       refine zc8 rfl rfl λK hK=>?_
       simp (disch:=omega)
       repeat' first|(exfalso;omega)|(refine ⟨λ_=>?_,λ_=>?_⟩)|(refine ⟨by omega,?_⟩)|(intro _)
       all_goals (refine hK _ ?_;clear hK K)
       all_goals
        refine zbo ?_
        refine zx4 rfl mix (by kernel_rfl) rfl λK hK=>?_
        simp (disch:=omega)
        repeat' first|(refine ⟨by omega,?_⟩)|(intro _)
        refine hK _ ?_;clear hK K
        refine zbo ?_
        refine zc8 rfl rfl λK hK=>?_
        simp (disch:=omega)
        repeat' first|(refine ⟨by omega,?_⟩)|(intro _)
        refine hK _ ?_;clear hK K
        refine ⟨_,LeS.kp [(1,.ptr 32 0),(3,.s (spc ((tldL s).take (i+1)))),(4,(.g (.int .i64 (((i+1):Nat)))))] (by simp [KpE,zbx,zbl,zbq];all_goals first | rfl|(rw [htk];split<;>first | rfl|(simp [spc];done)|(subst_vars;simp [spc];done)|(exfalso;omega)|(simp_all;done))),_,?_,i+1,rfl,?_,rfl⟩
        ·omega
        ·omega
     try simp [zba,zbf,zbd,zbc] at hc2
     refine zbk ?_
     refine zbo ?_
     refine zx4 rfl mix (by kernel_rfl) rfl λK hK=>?_
     simp (disch:=omega)
     repeat' first|(exfalso;omega)|(refine ⟨λ_=>?_,λ_=>?_⟩)|(refine ⟨by omega,?_⟩)|(intro _)
     all_goals (refine hK _ ?_;clear hK K)
     all_goals
      refine zbo ?_
      refine zc8 rfl rfl λK hK=>?_
      simp (disch:=omega)
      repeat' first|(refine ⟨by omega,?_⟩)|(intro _)
      refine hK _ ?_;clear hK K
      refine ⟨_,LeS.kp [(1,.ptr 32 0),(3,.s (spc ((tldL s).take (i+1)))),(4,(.g (.int .i64 (((i+1):Nat)))))] (by simp [KpE,zbx,zbl,zbq];all_goals first | rfl|(rw [htk];split<;>first | rfl|(simp [spc];done)|(subst_vars;simp [spc];done)|(exfalso;omega)|(simp_all;done))),_,?_,i+1,rfl,?_,rfl⟩
      ·omega
      ·omega
  try simp [zba,zbf,zbd,zbc] at hc1
  have hi3:i=s.fSnaps.length:=by omega
  have htf:(tldL s).take i=tldL s:=List.take_of_length_le (by simp [tldL];omega)
  refine zb0 ?_
  refine zbo ?_
  refine AW_r rfl rfl λK hK=>?_
  simp (disch:=omega)
  repeat' first|(exfalso;omega)|(refine ⟨λ_=>?_,λ_=>?_⟩)|(refine ⟨by omega,?_⟩)|(intro _)
  all_goals (refine hK _ ?_;clear hK K)
  all_goals
   refine zbp (zcc ?_)
   simp (disch:=omega)
   all_goals (rw [htf])
end Go.Proofs.Ytodmafgmdlkhoaa.Vs
end
