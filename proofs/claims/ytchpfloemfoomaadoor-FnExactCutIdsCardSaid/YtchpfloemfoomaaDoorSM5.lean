import Derived.Test.YtchpfloemfoomaaDoorSM4
import Derived.Test.YtchpfloemfoomaaDoorSM1
import Derived.LaidLaws
import Derived.ChangeVars
import Derived.OpenShut
section
open Go Go.Proofs Go.Proofs.YtchpfloemfoomaaDoor.Vs
namespace Go.Proofs.YtchpfloemfoomaaDoor.Vs
set_option linter.all false
set_option maxRecDepth 100000
set_option maxHeartbeats 2000000
end Go.Proofs.YtchpfloemfoomaaDoor.Vs
end
section
open Go Go.Proofs Go.Proofs.YtchpfloemfoomaaDoor.Vs
namespace Go.Proofs.YtchpfloemfoomaaDoor.Vs
set_option linter.all false
set_option maxRecDepth 100000
set_option maxHeartbeats 2000000
/-- How many of the second text's pieces are among the first's. -/
noncomputable def shN(a b:List UInt8)(i:Nat):Nat:=(((idsL b).take i).filter λx=>decB (x∈idsL a)).length
theorem ids_len1(a:List UInt8):(idsL a).length≤1048576:=by have:=zfl a;have:=zgj a;omega
end Go.Proofs.YtchpfloemfoomaaDoor.Vs
end
section
open Go Go.Proofs Go.Proofs.YtchpfloemfoomaaDoor.Vs
namespace Go.Proofs.YtchpfloemfoomaaDoor.Vs
set_option linter.all false
set_option maxRecDepth 100000
/-! from what the row lists of the variable to what the walk asks of it -/
theorem zn3{w:World}{I:Nat→Prop}{b:Nat}:∀(ns:List Int) (o:Nat),(∀(i:Nat) n,ns[i]? = some n→w.cell? ⟨b,o+i,none⟩=some (.int .u32 n))→RIc w I b o (ns.map λn=>.g (.int .u32 n))
 | [],o,_=>by rw [List.map_nil,RIc];trivial
 | n :: ns,o,h=>by
  rw [List.map_cons,RIc]
  refine ⟨⟨.int .u32 n,by simpa using h 0 n rfl,by rw [RI];exact ⟨rfl,rfl⟩⟩,zn3 ns (o+1) λi m hm=>?_⟩
  have:=h (i+1) m (by simpa using hm)
  rwa [show o+1+i=o+(i+1) by omega]
theorem zsj{P:Program}{W:World}{vn:String}{vt e:TypeId}(hg:P.globalNamed vn=some 0)(ht:(P.globals[0]?).map (·.type)=some vt)(hu:P.underlying vt=some (.array 64 e))(he:P.underlying e=some (.int .u32))(hc:P.cellsOf e=1)
 (h:laidMet P [(vn,.agg (shaN.map λn=>.lit (.int .u32 n)))] W):GW W λb=>b<W.heap.size:=by
 obtain ⟨ps,⟨g,t,cs,fuel,p,q,h1,h2,h3,h4,-,-⟩,-,-⟩:=h
 obtain rfl:g=0:=Option.some.inj (h1.symm.trans hg)
 obtain rfl:t=vt:=Option.some.inj (h2.symm.trans ht)
 obtain ⟨xs,m,-,hx,hl,hn,hi⟩:=DataW.trod_array hu h4
 have hxs:xs.map (·.1)=shaN.map λn=>.lit (.int .u32 n):=by
  have:=congrArg Prod.fst hx
  simpa using this.symm
 have hcell:∀i,W.cell? ⟨0,i,none⟩=cs[i]?:=by
  intro i
  simp only [World.var?,h1,Option.bind_some] at h3
  split at h3<;>simp_all [World.cell?]
 have hsz:0<W.heap.size:=by
  simp only [World.var?,h1,Option.bind_some] at h3
  split at h3
  ·rename_i hh;exact (Array.getElem?_eq_some_iff.1 hh).1
  ·cases h3
 refine ⟨hsz,zn3 shaN 0 λi n hin=>?_⟩
 rw [Nat.zero_add,hcell]
 have hlen:shaN.length=64:=by have:=congrArg List.length hxs;simp only [List.length_map] at this;omega
 have hi64:i<64:=by have:=(List.getElem?_eq_some_iff.1 hin).1;omega
 have hxi:∃y,xs[i]? = some y∧y.1=.lit (.int .u32 n):=by
  have h5:=congrArg (·[i]?) hxs
  simp only [List.getElem?_map,hin,Option.map_some] at h5
  cases hy:xs[i]? with
  | none=>rw [hy] at h5;cases h5
  | some y=>rw [hy] at h5;exact ⟨y,rfl,Option.some.inj h5⟩
 obtain ⟨y,hy,hy1⟩:=hxi
 have h6:=hi i hi64
 rw [hy,hc,Nat.mul_one] at h6
 obtain ⟨n',h7,h8,-⟩:=DataW.trod_int he h6
 rw [h8] at hy1
 have hnn:n'=n:=by simpa using hy1
 subst hnn
 have h9:(cs.toList.drop i)[0]? = some (.int .u32 n'):=by
  have:=congrArg (·[0]?) h7
  simpa [List.getElem?_take] using this
 simpa using h9
end Go.Proofs.YtchpfloemfoomaaDoor.Vs
end
section
open Go Go.Proofs Go.Proofs.YtchpfloemfoomaaDoor.Vs
namespace Go.Proofs.YtchpfloemfoomaaDoor.Vs
set_option linter.all false
set_option maxRecDepth 100000
set_option maxHeartbeats 2000000
def zG9:=And.intro @znl (And.intro @gE (And.intro @tP (And.intro @zcw @take_mkL)))
theorem zsk(s:List UInt8):XCall Tryd.prog 3 [.s s] [] (.g (.bool (true))) [] []:=by
 have hkl:=ids_len1 s
 have hkc:=zfl s
 have hki:=zgj s
 refine zb0 Tryd.func3 (by rfl) (by rfl) (by rw [Tryd.ntmps3];exact Nat.le_of_ble_eq_true rfl) rfl (by simp) rfl rfl ?_
 rw [Tryd.ntmps3]
 refine znp   ?_
 refine AW_k [(0,_)] ⟨rfl,trivial⟩ ?_
 refine AW_x rfl rfl λK hK=>?_
 simp (disch:=omega) [zG9,zbe]
 repeat' first|(refine ⟨by omega,?_⟩)|(intro _)
 refine hK _ ?_;clear hK K
 refine zbg ?_
 refine AW_x rfl rfl λK hK=>?_
 simp (disch:=omega) [zG9,zbe]
 repeat' first|(refine ⟨by omega,?_⟩)|(intro _)
 refine hK _ ?_;clear hK K
 refine zbm rfl (λhc1=>?_) (λhc1=>?_)
 ·try simp at hc1
  all_goals
   refine AW_x rfl rfl λK hK=>?_
   simp (disch:=omega) [zG9,zbe]
   repeat' first|(exfalso;omega)|(refine ⟨λ_=>?_,λ_=>?_⟩)|(refine ⟨by omega,?_⟩)|(intro _)
   all_goals (refine hK _ ?_;clear hK K)
   all_goals
    refine zbu (zdx [] [] (by simp [List.range_succ,zbr,zb9,zbz]) (by simp) ?_)
    simp (disch:=omega) [zG9,zbe]
    all_goals skip
 ·try simp at hc1
  all_goals
   refine zbl ?_
   refine zbk ?_
   refine AW_x rfl rfl λK hK=>?_
   simp (disch:=omega) [zG9,zbe]
   repeat' first|(exfalso;omega)|(refine zfn (zbf zpz zbn) (zlb s) rfl ?_;simp (disch:=omega) [zG9,zbe])|(refine zfo (zlb s) (by rfl) ?_ ?_;(focus (simp (disch:=omega) [zG9,zbe,zbd];done));simp (disch:=omega) [zG9,zbe])|(refine ⟨λ_=>?_,λ_=>?_⟩)|(refine ⟨by omega,?_⟩)|(intro _)
   all_goals (refine hK _ ?_;clear hK K)
   all_goals
    refine AW_x rfl rfl λK hK=>?_
    simp (disch:=omega) [zG9,zbe]
    repeat' first|(exfalso;omega)|(refine zr3 [] true [] (zlc s) ?_ ?_ ?_;(focus (simp [List.range_succ,nmC];done));(focus (simp (disch:=omega) [zG9,zbe,zbd];done));simp (disch:=omega) [zG9,zbe])|(refine ⟨by omega,?_⟩)|(intro _)
    refine hK _ ?_;clear hK K
    refine zbg ?_
    refine AW_x rfl rfl λK hK=>?_
    simp (disch:=omega) [zG9,zbe]
    repeat' first|(exfalso;omega)|(refine zfn (zbf zk2 (zbf zk2 zbn)) (zgb (idsL s) (idsL s) (zmi s)) rfl ?_;simp (disch:=omega) [zG9,zbe])|(refine zfo (zgb (idsL s) (idsL s) (zmi s)) (by rfl) ?_ ?_;(focus (simp (disch:=omega) [zG9,zbe,zbd];done));simp (disch:=omega) [zG9,zbe])|(refine ⟨by omega,?_⟩)|(intro _)
    refine hK _ ?_;clear hK K
    refine zbm rfl (λhc2=>?_) (λhc2=>?_)
    ·try simp at hc2
     all_goals
      refine AW_x rfl rfl λK hK=>?_
      simp (disch:=omega) [zG9,zbe]
      repeat' first|(exfalso;omega)|(refine ⟨λ_=>?_,λ_=>?_⟩)|(refine ⟨by omega,?_⟩)|(intro _)
      all_goals (refine hK _ ?_;clear hK K)
      all_goals
       refine zbu (zdx [] [] (by simp [List.range_succ,zbr,zb9,zbz]) (by simp) ?_)
       simp (disch:=omega) [zG9,zbe]
       all_goals skip
    ·try simp at hc2
     all_goals
      refine zbl ?_
      refine zbk ?_
      refine AW_x rfl rfl λK hK=>?_
      simp (disch:=omega) [zG9,zbe]
      repeat' first|(exfalso;omega)|(refine ⟨λ_=>?_,λ_=>?_⟩)|(refine ⟨by omega,?_⟩)|(intro _)
      all_goals (refine hK _ ?_;clear hK K)
      all_goals
       refine AW_x rfl rfl λK hK=>?_
       simp (disch:=omega) [zG9,zbe]
       repeat' first|(exfalso;omega)|(refine zr3 [240] true [] (zqh (idsL s) 1 (by omega) (by omega)) ?_ ?_ ?_;(focus (simp [List.range_succ,nmC];done));(focus (simp (disch:=omega) [zG9,zbe,zbd];done));simp (disch:=omega) [zG9,zbe])|(refine ⟨by omega,?_⟩)|(intro _)
       refine hK _ ?_;clear hK K
       refine AW_x rfl rfl λK hK=>?_
       simp (disch:=omega) [zG9,zbe]
       repeat' first|(refine ⟨by omega,?_⟩)|(intro _)
       refine hK _ ?_;clear hK K
       refine AW_x rfl rfl λK hK=>?_
       simp (disch:=omega) [zG9,zbe]
       repeat' first|(exfalso;omega)|(refine zfn (zbf zk2 (zbf zca zbn)) (zdz (idsL s).length 1 (by omega) (by omega)) rfl ?_;simp (disch:=omega) [zG9,zbe])|(refine zfo (zdz (idsL s).length 1 (by omega) (by omega)) (by rfl) ?_ ?_;(focus (simp (disch:=omega) [zG9,zbe,zbd];done));simp (disch:=omega) [zG9,zbe])|(refine ⟨by omega,?_⟩)|(intro _)
       refine hK _ ?_;clear hK K
       refine zbg ?_
       refine AW_x rfl rfl λK hK=>?_
       simp (disch:=omega) [zG9,zbe]
       repeat' first|(refine ⟨by omega,?_⟩)|(intro _)
       refine hK _ ?_;clear hK K
       refine zbm rfl (λhc3=>?_) (λhc3=>?_)
       ·try simp at hc3
        all_goals
         refine AW_x rfl rfl λK hK=>?_
         simp (disch:=omega) [zG9,zbe]
         repeat' first|(exfalso;omega)|(refine ⟨λ_=>?_,λ_=>?_⟩)|(refine ⟨by omega,?_⟩)|(intro _)
         all_goals (refine hK _ ?_;clear hK K)
         all_goals
          refine zbu (zdx [] [] (by simp [List.range_succ,zbr,zb9,zbz]) (by simp) ?_)
          simp (disch:=omega) [zG9,zbe]
          all_goals skip
       ·try simp at hc3
        all_goals
         refine zbl ?_
         refine zbk ?_
         refine zbg ?_
         refine AW_x rfl rfl λK hK=>?_
         simp (disch:=omega) [zG9,zbe]
         repeat' first|(exfalso;omega)|(refine ⟨λ_=>?_,λ_=>?_⟩)|(refine ⟨by omega,?_⟩)|(intro _)
         all_goals (refine hK _ ?_;clear hK K)
         all_goals
          refine zbm rfl (λhc4=>?_) (λhc4=>?_)
          ·try simp at hc4
           all_goals
            refine AW_x rfl rfl λK hK=>?_
            simp (disch:=omega) [zG9,zbe]
            repeat' first|(exfalso;omega)|(refine ⟨λ_=>?_,λ_=>?_⟩)|(refine ⟨by omega,?_⟩)|(intro _)
            all_goals (refine hK _ ?_;clear hK K)
            all_goals
             refine zbu (zdx [] [] (by simp [List.range_succ,zbr,zb9,zbz]) (by simp) ?_)
             simp (disch:=omega) [zG9,zbe]
             all_goals skip
          ·try simp at hc4
           all_goals
            refine zbl ?_
            refine zbk ?_
            refine AW_x rfl rfl λK hK=>?_
            simp (disch:=omega) [zG9,zbe]
            repeat' first|(exfalso;omega)|(refine zr3 [] true [] (zlc s) ?_ ?_ ?_;(focus (simp [List.range_succ,nmC];done));(focus (simp (disch:=omega) [zG9,zbe,zbd];done));simp (disch:=omega) [zG9,zbe])|(refine ⟨λ_=>?_,λ_=>?_⟩)|(refine ⟨by omega,?_⟩)|(intro _)
            all_goals (refine hK _ ?_;clear hK K)
            all_goals
             refine zbg ?_
             refine AW_x rfl rfl λK hK=>?_
             simp (disch:=omega) [zG9,zbe]
             repeat' first|(exfalso;omega)|(refine zfn (zbf zk2 (zbf zk2 zbn)) (zgb (idsL s) (idsL s) (zmi s)) rfl ?_;simp (disch:=omega) [zG9,zbe])|(refine zfo (zgb (idsL s) (idsL s) (zmi s)) (by rfl) ?_ ?_;(focus (simp (disch:=omega) [zG9,zbe,zbd];done));simp (disch:=omega) [zG9,zbe])|(refine ⟨by omega,?_⟩)|(intro _)
             refine hK _ ?_;clear hK K
             refine zbm rfl (λhc5=>?_) (λhc5=>?_)
             ·try simp at hc5
              all_goals
               refine AW_x rfl rfl λK hK=>?_
               simp (disch:=omega) [zG9,zbe]
               repeat' first|(exfalso;omega)|(refine ⟨λ_=>?_,λ_=>?_⟩)|(refine ⟨by omega,?_⟩)|(intro _)
               all_goals (refine hK _ ?_;clear hK K)
               all_goals
                refine zbu (zdx [] [] (by simp [List.range_succ,zbr,zb9,zbz]) (by simp) ?_)
                simp (disch:=omega) [zG9,zbe]
                all_goals skip
             ·try simp at hc5
              all_goals
               refine zbl ?_
               refine zbk ?_
               refine AW_x rfl rfl λK hK=>?_
               simp (disch:=omega) [zG9,zbe]
               repeat' first|(exfalso;omega)|(refine ⟨λ_=>?_,λ_=>?_⟩)|(refine ⟨by omega,?_⟩)|(intro _)
               all_goals (refine hK _ ?_;clear hK K)
               all_goals
                refine AW_x rfl rfl λK hK=>?_
                simp (disch:=omega) [zG9,zbe]
                repeat' first|(exfalso;omega)|(refine zfn (zbf zk2 (zbf zca zbn)) (zdz (idsL s).length 1 (by omega) (by omega)) rfl ?_;simp (disch:=omega) [zG9,zbe])|(refine zfo (zdz (idsL s).length 1 (by omega) (by omega)) (by rfl) ?_ ?_;(focus (simp (disch:=omega) [zG9,zbe,zbd];done));simp (disch:=omega) [zG9,zbe])|(refine ⟨by omega,?_⟩)|(intro _)
                refine hK _ ?_;clear hK K
                refine zbg ?_
                refine AW_x rfl rfl λK hK=>?_
                simp (disch:=omega) [zG9,zbe]
                repeat' first|(refine ⟨by omega,?_⟩)|(intro _)
                refine hK _ ?_;clear hK K
                refine zbm rfl (λhc6=>?_) (λhc6=>?_)
                ·try simp at hc6
                 all_goals
                  refine AW_x rfl rfl λK hK=>?_
                  simp (disch:=omega) [zG9,zbe]
                  repeat' first|(exfalso;omega)|(refine ⟨λ_=>?_,λ_=>?_⟩)|(refine ⟨by omega,?_⟩)|(intro _)
                  all_goals (refine hK _ ?_;clear hK K)
                  all_goals
                   refine zbu (zdx [] [] (by simp [List.range_succ,zbr,zb9,zbz]) (by simp) ?_)
                   simp (disch:=omega) [zG9,zbe]
                   all_goals skip
                ·try simp at hc6
                 all_goals
                  refine zbl ?_
                  refine zbk ?_
                  refine zbg ?_
                  refine AW_x rfl rfl λK hK=>?_
                  simp (disch:=omega) [zG9,zbe]
                  repeat' first|(exfalso;omega)|(refine ⟨λ_=>?_,λ_=>?_⟩)|(refine ⟨by omega,?_⟩)|(intro _)
                  all_goals (refine hK _ ?_;clear hK K)
                  all_goals
                   refine zbm rfl (λhc7=>?_) (λhc7=>?_)
                   ·try simp at hc7
                    all_goals
                     refine AW_x rfl rfl λK hK=>?_
                     simp (disch:=omega) [zG9,zbe]
                     repeat' first|(exfalso;omega)|(refine ⟨λ_=>?_,λ_=>?_⟩)|(refine ⟨by omega,?_⟩)|(intro _)
                     all_goals (refine hK _ ?_;clear hK K)
                     all_goals
                      refine zbu (zdx [] [] (by simp [List.range_succ,zbr,zb9,zbz]) (by simp) ?_)
                      simp (disch:=omega) [zG9,zbe]
                      all_goals skip
                   ·try simp at hc7
                    all_goals
                     refine zbl ?_
                     refine zbk ?_
                     refine AW_x rfl rfl λK hK=>?_
                     simp (disch:=omega) [zG9,zbe]
                     repeat' first|(exfalso;omega)|(refine ⟨λ_=>?_,λ_=>?_⟩)|(refine ⟨by omega,?_⟩)|(intro _)
                     all_goals (refine hK _ ?_;clear hK K)
                     all_goals
                      refine zbu (zdx [] [] (by simp [List.range_succ,zbr,zb9,zbz]) (by simp) ?_)
                      simp (disch:=omega) [zG9,zbe]
                      all_goals skip
theorem zv4(s:List UInt8)(hs:wfL s):PCall Tryd.prog 3 [.s s] (.g (.bool (true))):=zsc (zsk s)
end Go.Proofs.YtchpfloemfoomaaDoor.Vs
end
