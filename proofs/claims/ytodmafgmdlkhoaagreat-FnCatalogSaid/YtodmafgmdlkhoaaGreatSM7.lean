import Derived.Test.YtodmafgmdlkhoaaGreatSM6
section
namespace Go.Proofs.YtodmafgmdlkhoaaGreat.Vs
set_option linter.all false
set_option maxRecDepth 100000
theorem zwf{zs:List SetV}{l:List DtCSet}(hzl:zs.length=l.length)(k:Nat)(hk:k<l.length)(hl:l.length≤1048576):XCall Tryz.prog 57 [.arr 8 0 l.length,(.g (.int .i64 ((k:Nat)))),(.g (.int .i64 ((k:Nat)+1)))] [.own 2 (zs.map setV)] (.arr 16 0 (l.length-1)) [.dead] [.own 2 ((zs.map setV).take k++(zs.map setV).drop (k+1))]:=by
 have e:(zs.map setV).length=l.length:=by rw [List.length_map,hzl]
 have h:=zzy (zs.map setV) (zbw zs) k (by omega) (by omega)
 rw [e] at h
 exact h
theorem scR_del(zs:List SetV)(k:Nat):scR ((zs.map setV).take k++(zs.map setV).drop (k+1))=true:=by rw [zgf,zc5 (zbw zs),zdk (zbw zs)];rfl
theorem zwg{α:Type}(l:List α)(k:Nat):(l.take k++l.drop (k+1)).Sublist l:=by
 have h:(l.drop (k+1)).Sublist (l.drop k):=by
  have:l.drop (k+1)=(l.drop k).drop 1:=by rw [List.drop_drop]
  rw [this];exact List.drop_sublist _ _
 have h2:=(List.Sublist.refl (l.take k)).append h
 rwa [List.take_append_drop] at h2
theorem del_c{zs:List SetV}{l:List DtCSet}(hz:zs.map (·.1)=l)(k:Nat):((zs.take k++zs.drop (k+1)).map λz=>DtCSet.cells z.1)=(l.take k++l.drop (k+1)).map DtCSet.cells:=by subst hz;simp [Function.comp_def]
attribute [local simp] DtCatalog.cells DtCmd.cells zbo and_assoc zbw len0
def zG19:=And.intro @zbf @zbn
def zG20:=And.intro @zb0 (And.intro @zbr @zby)
theorem implCatDo(c:DtCatalog)(m:DtCmd)(hs:DtCatalog.sz c≤1048576)(hm:DtCmd.sz m≤1048576)(hch:m.fChunks.length≤1048576):XCall Tryz.prog 20 [.agg (DtCatalog.cells c),.agg (DtCmd.cells m)] [] (.tup [.agg [.arr 16 0 (catS c m).length],.s (catR c m)]) [] [.own 2 ((catS c m).map DtCSet.cells)]:=by
 have hB:=catB_of c hs
 have hB1:=hB.1
 refine zbu Tryz.func20 (by rfl) (by rfl) (by rw [Tryz.ntmps20];exact Nat.le_of_ble_eq_true rfl) rfl (by simp) rfl rfl ?_
 rw [Tryz.ntmps20]
 refine zjb   ?_
 refine AW_k [(0,_),(1,_)] ⟨rfl,rfl,trivial⟩ ?_
 refine AW_x rfl rfl λK hK=>?_
 simp (disch:=omega)
 repeat' first|(refine ⟨by omega,?_⟩)|(intro _)
 refine hK _ ?_;clear hK K
 refine AW_x rfl rfl λK hK=>?_
 simp (disch:=omega)
 repeat' first|(exfalso;omega)|(refine zd5 [] true [] (copyCatX c hB) ?_ ?_ ?_;(focus (simp [List.range_succ,nmC];done));(focus (simp (disch:=omega) [zbo];done));simp (disch:=omega))|(refine ⟨by omega,?_⟩)|(simp (disch:=omega))|(intro _)
 refine hK _ ?_;clear hK K
 refine zbh ?_
 refine zbj ?_
 refine AW_x rfl rfl λK hK=>?_
 simp (disch:=omega)
 repeat' first|(exfalso;omega)|(refine zdq (zbd (zbz rfl) zbl) (zg6 c (by omega)) rfl ?_;simp (disch:=omega))|(refine zdr (zg6 c (by omega)) (by rfl) ?_ ?_;(focus (simp (disch:=omega) [zbo];done));simp (disch:=omega))|(refine ⟨by omega,?_⟩)|(simp (disch:=omega))|(intro _)
 refine hK _ ?_;clear hK K
 refine zbg rfl (λhc1=>?_) (λhc1=>?_)
 ·try simp [zG19,zbc,zbb] at hc1
  all_goals
   refine AW_x rfl rfl λK hK=>?_
   simp (disch:=omega)
   repeat' first|(exfalso;omega)|(refine ⟨λ_=>?_,λ_=>?_⟩)|(refine ⟨by omega,?_⟩)|(simp (disch:=omega))|(intro _)
   all_goals (refine hK _ ?_;clear hK K)
   all_goals
    refine zbp (zce [1000] [(1000,2)] (by simp [zG20,List.range_succ]) (by simp) ?_)
    simp (disch:=omega)
    have ⟨h1,h2⟩:=zs1 hc1 (m:=m);exact ⟨h1,h2,h1⟩
 try simp [zG19,zbc,zbb] at hc1
 obtain ⟨hb1,hb2,hb3,hb4⟩:=catP_bd hc1
 refine AW_x rfl rfl λK hK=>?_
 simp (disch:=omega)
 repeat' first|(exfalso;omega)|(refine zdq (zbd (zbz rfl) zbl) (zsq m (by omega)) rfl ?_;simp (disch:=omega))|(refine zdr (zsq m (by omega)) (by rfl) ?_ ?_;(focus (simp (disch:=omega) [zbo];done));simp (disch:=omega))|(refine ⟨λ_=>?_,λ_=>?_⟩)|(refine ⟨by omega,?_⟩)|(simp (disch:=omega))|(intro _)
 all_goals (refine hK _ ?_;clear hK K)
 all_goals
  refine zbg rfl (λhc2=>?_) (λhc2=>?_)
  ·try simp [zG19,zbc,zbb] at hc2
   all_goals
    refine AW_x rfl rfl λK hK=>?_
    simp (disch:=omega)
    repeat' first|(exfalso;omega)|(refine ⟨λ_=>?_,λ_=>?_⟩)|(refine ⟨by omega,?_⟩)|(simp (disch:=omega))|(intro _)
    all_goals (refine hK _ ?_;clear hK K)
    all_goals
     refine zbp (zce [192] [] (by simp [zG20,List.range_succ]) (by simp) ?_)
     simp (disch:=omega)
     have ⟨h1,h2⟩:=zqr hc1 hc2;rw [h1,h2];exact ⟨rfl,rfl,rfl⟩
  try simp [zG19,zbc,zbb] at hc2
  refine AW_x rfl rfl λK hK=>?_
  simp (disch:=omega)
  repeat' first|(exfalso;omega)|(refine ⟨λ_=>?_,λ_=>?_⟩)|(refine ⟨by omega,?_⟩)|(simp (disch:=omega))|(intro _)
  all_goals (refine hK _ ?_;clear hK K)
  all_goals
   refine zbg rfl (λhc3=>?_) (λhc3=>?_)
   ·try simp [zG19,zbc,zbb] at hc3
    all_goals
     refine AW_x rfl rfl λK hK=>?_
     simp (disch:=omega)
     repeat' first|(exfalso;omega)|(refine ⟨λ_=>?_,λ_=>?_⟩)|(refine ⟨by omega,?_⟩)|(simp (disch:=omega))|(intro _)
     all_goals (refine hK _ ?_;clear hK K)
     all_goals
      refine zbp (zce [192] [] (by simp [zG20,List.range_succ]) (by simp) ?_)
      simp (disch:=omega)
      have ⟨h1,h2⟩:=zqs hc1 hc2 hc3;rw [h1,h2];exact ⟨rfl,rfl,rfl⟩
   try simp [zG19,zbc,zbb] at hc3
   refine AW_x rfl rfl λK hK=>?_
   simp (disch:=omega)
   repeat' first|(exfalso;omega)|(refine ⟨λ_=>?_,λ_=>?_⟩)|(refine ⟨by omega,?_⟩)|(simp (disch:=omega))|(intro _)
   all_goals (refine hK _ ?_;clear hK K)
   all_goals
    refine zbg rfl (λhc4=>?_) (λhc4=>?_)
    ·try simp [zG19,zbc,zbb] at hc4
     all_goals
      refine AW_x rfl rfl λK hK=>?_
      simp (disch:=omega)
      repeat' first|(exfalso;omega)|(refine zd5 [112,192] true [] (createX c.fSets (by omega) m.fSet) ?_ ?_ ?_;(focus (simp [List.range_succ,nmC];done));(focus (simp (disch:=omega) [zbo];done));simp (disch:=omega))|(refine ⟨λ_=>?_,λ_=>?_⟩)|(refine ⟨by omega,?_⟩)|(simp (disch:=omega))|(intro _)
      all_goals (refine hK _ ?_;clear hK K)
      all_goals
       refine AW_x rfl rfl λK hK=>?_
       simp (disch:=omega)
       repeat' first|(refine ⟨by omega,?_⟩)|(simp (disch:=omega))|(intro _)
       refine hK _ ?_;clear hK K
       refine zbp (zce [544] [] (by simp [zG20,List.range_succ]) (by simp) ?_)
       simp (disch:=omega)
       have ⟨h1,h2⟩:=zqt hc1 hc2 hc4;rw [h1,h2];exact ⟨rfl,rfl,rfl⟩
    try simp [zG19,zbc,zbb] at hc4
    refine AW_x rfl rfl λK hK=>?_
    simp (disch:=omega)
    repeat' first|(exfalso;omega)|(refine ⟨λ_=>?_,λ_=>?_⟩)|(refine ⟨by omega,?_⟩)|(simp (disch:=omega))|(intro _)
    all_goals (refine hK _ ?_;clear hK K)
    all_goals
     refine zbg rfl (λhc5=>?_) (λhc5=>?_)
     ·try simp [zG19,zbc,zbb] at hc5
      all_goals
       refine AW_d rfl mix (by kernel_rfl) (by kernel_rfl) λK hK=>?_
       simp (disch:=omega)
       repeat' first|(exfalso;omega)|(refine DKd_z [112,192] true (listX c.fSets (by omega) hb3) ?_ (λst' hst=>?_) ?_ ?_;(focus (simp;done));(focus (simp (disch:=omega) [nmC,List.range_succ] at hst;simp (disch:=omega) [hst,zbo,nmC,List.range_succ];done));(focus (simp (disch:=omega) [upsX,zipO,rnO,rn0,rn2,rhoX,List.range_succ];done));simp (disch:=omega))|(refine ⟨λ_=>?_,λ_=>?_⟩)|(refine ⟨by omega,?_⟩)|(simp (disch:=omega))|(intro _)
       all_goals (refine hK _ _ (by kernel_rfl) ?_;clear hK K)
       all_goals
        refine zbp (zce [192] [] (by simp [zG20,List.range_succ]) (by simp) ?_)
        simp (disch:=omega)
        have ⟨h1,h2⟩:=zqu hc1 hc2 hc5;rw [h1,h2];exact ⟨rfl,rfl,rfl⟩
     try simp [zG19,zbc,zbb] at hc5
     refine zbi ?_
     refine zbm ?_
     refine AW_x rfl rfl λK hK=>?_
     simp (disch:=omega)
     repeat' first|(exfalso;omega)|(refine zdq (zbd (zbz rfl) (zbd zdg zbl)) (zxl c m.fSet (by omega)) rfl ?_;simp (disch:=omega))|(refine zdr (zxl c m.fSet (by omega)) (by rfl) ?_ ?_;(focus (simp (disch:=omega) [zbo];done));simp (disch:=omega))|(refine ⟨λ_=>?_,λ_=>?_⟩)|(refine ⟨by omega,?_⟩)|(simp (disch:=omega))|(intro _)
     all_goals (refine hK _ ?_;clear hK K)
     all_goals
      refine zbh ?_
      refine AW_x rfl rfl λK hK=>?_
      simp (disch:=omega)
      repeat' first|(refine ⟨by omega,?_⟩)|(intro _)
      refine hK _ ?_;clear hK K
      refine zbg rfl (λhc6=>?_) (λhc6=>?_)
      ·try simp [zG19,zbc,zbb] at hc6
       all_goals
        refine AW_x rfl rfl λK hK=>?_
        simp (disch:=omega)
        repeat' first|(exfalso;omega)|(refine ⟨λ_=>?_,λ_=>?_⟩)|(refine ⟨by omega,?_⟩)|(simp (disch:=omega))|(intro _)
        all_goals (refine hK _ ?_;clear hK K)
        all_goals
         refine zbp (zce [192] [] (by simp [zG20,List.range_succ]) (by simp) ?_)
         simp (disch:=omega)
         have ⟨h1,h2⟩:=znj hc1 hc2 hc3 hc4 hc5 hc6;rw [h1,h2];exact ⟨rfl,rfl,rfl⟩
      try simp [zG19,zbc,zbb] at hc6
      refine zbi ?_
      refine zbm ?_
      obtain ⟨k,hkz⟩:=Int.eq_ofNat_of_zero_le hc6
      have hk:=zjh hkz
      have ⟨hS,hR⟩:=cat_k hc1 hc2 hc3 hc4 hc5 hkz
      simp only [hkz]
      refine AW_x rfl rfl λK hK=>?_
      simp (disch:=omega)
      repeat' first|(exfalso;omega)|(refine ⟨λ_=>?_,λ_=>?_⟩)|(refine ⟨by omega,?_⟩)|(simp (disch:=omega))|(intro _)
      all_goals (refine hK _ ?_;clear hK K)
      all_goals
       refine zbh ?_
       refine AW_x rfl rfl λK hK=>?_
       simp (disch:=omega)
       repeat' first|(refine ⟨by omega,?_⟩)|(intro _)
       refine hK _ ?_;clear hK K
       refine zbj ?_
       refine AW_x rfl rfl λK hK=>?_
       simp (disch:=omega)
       repeat' first|(refine ⟨by omega,?_⟩)|(intro _)
       refine hK _ ?_;clear hK K
       refine zbg rfl (λhc7=>?_) (λhc7=>?_)
       ·try simp [zG19,zbc,zbb] at hc7
        all_goals
         refine zfa (us:=c.fSets) 192 901 (by simp [zG20]) (by simp [zG20]) λzs hz hone=>?_
         have hzl:zs.length=c.fSets.length:=by rw [←hz];simp
         refine zb4 rfl rfl λK hK=>?_
         simp (disch:=omega)
         repeat' first|(exfalso;omega)|(refine zd5 [192] true [] (zwf hzl k hk (by omega)) ?_ ?_ ?_;(focus (simp [List.range_succ,nmC];done));(focus (simp (disch:=omega) [zbo];done));simp (disch:=omega))|(refine ⟨λ_=>?_,λ_=>?_⟩)|(refine ⟨by omega,?_⟩)|(simp (disch:=omega))|(intro _)
         all_goals (refine hK _ ?_;clear hK K)
         all_goals
          refine zbm ?_
          refine AW_ow (sz:=2) 1024 905 (scR_del zs k) (by simp [zG20]) (by simp [zG20]) ?_
          refine zd3 (zhv (ks:=zs.take k++zs.drop (k+1)) (zs:=zs) 1024 901 (by simp [zG20]) (by simp [zG20]) (zwg zs k)) ?_
          rw [del_c hz k]
          refine AW_x rfl rfl λK hK=>?_
          simp (disch:=omega)
          repeat' first|(refine ⟨by omega,?_⟩)|(simp (disch:=omega))|(intro _)
          refine hK _ ?_;clear hK K
          refine zbp (zce [1024] [] (by simp [zG20,List.range_succ]) (by simp) ?_)
          simp (disch:=omega)
          have ⟨h1,h2⟩:=@set_2 c.fSets k m hc7;rw [hS,hR,h1,h2];exact ⟨by simp;omega,rfl,by simp⟩
       try simp [zG19,zbc,zbb] at hc7
       refine AW_x rfl rfl λK hK=>?_
       simp (disch:=omega)
       repeat' first|(exfalso;omega)|(refine ⟨λ_=>?_,λ_=>?_⟩)|(refine ⟨by omega,?_⟩)|(simp (disch:=omega))|(intro _)
       all_goals (refine hK _ ?_;clear hK K)
       all_goals
        refine zbg rfl (λhc8=>?_) (λhc8=>?_)
        ·try simp [zG19,zbc,zbb] at hc8
         all_goals
          refine zhi rfl mix (by kernel_rfl) (by kernel_rfl) λK hK=>?_
          simp (disch:=omega)
          repeat' first|(exfalso;omega)|(refine zmj [192] true [] (commitX c.fSets (by omega) k hk (hb2 k hk) m hch) ?_ (λst' hst=>?_) ?_;(focus (simp [List.range_succ,nmC];done));(focus (simp (disch:=omega) [nmC,List.range_succ] at hst;simp (disch:=omega) [hst,zbo,nmC,List.range_succ];done));simp (disch:=omega))|(refine ⟨λ_=>?_,λ_=>?_⟩)|(refine ⟨by omega,?_⟩)|(simp (disch:=omega))|(intro _)
          all_goals (refine hK _ _ (by kernel_rfl) ?_;clear hK K)
          all_goals
           refine zbm ?_
           refine AW_x rfl rfl λK hK=>?_
           simp (disch:=omega)
           repeat' first|(refine ⟨by omega,?_⟩)|(simp (disch:=omega))|(intro _)
           refine hK _ ?_;clear hK K
           refine zbp (zce [192] [] (by simp [zG20,List.range_succ]) (by simp) ?_)
           simp (disch:=omega)
           have ⟨h1,h2⟩:=zqq hk hc8;rw [hS,hR,h1,h2];exact ⟨by simp,rfl,by simp⟩
        try simp [zG19,zbc,zbb] at hc8
        refine AW_x rfl rfl λK hK=>?_
        simp (disch:=omega)
        repeat' first|(exfalso;omega)|(refine ⟨λ_=>?_,λ_=>?_⟩)|(refine ⟨by omega,?_⟩)|(simp (disch:=omega))|(intro _)
        all_goals (refine hK _ ?_;clear hK K)
        all_goals
         refine zbg rfl (λhc9=>?_) (λhc9=>?_)
         ·try simp [zG19,zbc,zbb] at hc9
          all_goals
           refine zhi rfl mix (by kernel_rfl) (by kernel_rfl) λK hK=>?_
           simp (disch:=omega)
           repeat' first|(exfalso;omega)|(refine zmj [192] true [] (tagX c.fSets (by omega) k hk (hb2 k hk) m hch) ?_ (λst' hst=>?_) ?_;(focus (simp [List.range_succ,nmC];done));(focus (simp (disch:=omega) [nmC,List.range_succ] at hst;simp (disch:=omega) [hst,zbo,nmC,List.range_succ];done));simp (disch:=omega))|(refine ⟨λ_=>?_,λ_=>?_⟩)|(refine ⟨by omega,?_⟩)|(simp (disch:=omega))|(intro _)
           all_goals (refine hK _ _ (by kernel_rfl) ?_;clear hK K)
           all_goals
            refine zbm ?_
            refine AW_x rfl rfl λK hK=>?_
            simp (disch:=omega)
            repeat' first|(refine ⟨by omega,?_⟩)|(simp (disch:=omega))|(intro _)
            refine hK _ ?_;clear hK K
            refine zbp (zce [192] [] (by simp [zG20,List.range_succ]) (by simp) ?_)
            simp (disch:=omega)
            have ⟨h1,h2⟩:=zz3 hk hc9;rw [hS,hR,h1,h2];exact ⟨by simp,rfl,by simp⟩
         try simp [zG19,zbc,zbb] at hc9
         refine AW_x rfl rfl λK hK=>?_
         simp (disch:=omega)
         repeat' first|(exfalso;omega)|(refine ⟨λ_=>?_,λ_=>?_⟩)|(refine ⟨by omega,?_⟩)|(simp (disch:=omega))|(intro _)
         all_goals (refine hK _ ?_;clear hK K)
         all_goals
          refine zbg rfl (λhc10=>?_) (λhc10=>?_)
          ·try simp [zG19,zbc,zbb] at hc10
           all_goals
            have hN:0≤m.fN∧m.fN≤1048576:=by have:=hc2;clear hS hR;simp only [CmdP] at this;by_cases h0:m.fN=0<;>grind
            refine zhi rfl mix (by kernel_rfl) (by kernel_rfl) λK hK=>?_
            simp (disch:=omega)
            repeat' first|(exfalso;omega)|(refine zmj [192] true [] (pruneX c.fSets (by omega) k hk (hb2 k hk) m.fN hN) ?_ (λst' hst=>?_) ?_;(focus (simp [List.range_succ,nmC];done));(focus (simp (disch:=omega) [nmC,List.range_succ] at hst;simp (disch:=omega) [hst,zbo,nmC,List.range_succ];done));simp (disch:=omega))|(refine ⟨λ_=>?_,λ_=>?_⟩)|(refine ⟨by omega,?_⟩)|(simp (disch:=omega))|(intro _)
            all_goals (refine hK _ _ (by kernel_rfl) ?_;clear hK K)
            all_goals
             refine zbm ?_
             refine AW_x rfl rfl λK hK=>?_
             simp (disch:=omega)
             repeat' first|(refine ⟨by omega,?_⟩)|(simp (disch:=omega))|(intro _)
             refine hK _ ?_;clear hK K
             refine zbp (zce [192] [] (by simp [zG20,List.range_succ]) (by simp) ?_)
             simp (disch:=omega)
             have ⟨h1,h2⟩:=set_5 hk hc10;rw [hS,hR,h1,h2];exact ⟨by simp,rfl,by simp⟩
          try simp [zG19,zbc,zbb] at hc10
          refine zb4 rfl rfl λK hK=>?_
          simp (disch:=omega)
          repeat' first|(exfalso;omega)|(refine zd5 [192] true [] (toldX c.fSets (by omega) k hk (hb2 k hk) (hb4 k hk)) ?_ ?_ ?_;(focus (simp [List.range_succ,nmC];done));(focus (simp (disch:=omega) [zbo];done));simp (disch:=omega))|(refine ⟨λ_=>?_,λ_=>?_⟩)|(refine ⟨by omega,?_⟩)|(simp (disch:=omega))|(intro _)
          all_goals (refine hK _ ?_;clear hK K)
          all_goals
           refine zbm ?_
           refine AW_x rfl rfl λK hK=>?_
           simp (disch:=omega)
           repeat' first|(refine ⟨by omega,?_⟩)|(simp (disch:=omega))|(intro _)
           refine hK _ ?_;clear hK K
           refine zbp (zce [192] [] (by simp [zG20,List.range_succ]) (by simp) ?_)
           simp (disch:=omega)
           have ⟨h1,h2⟩:=set_6 hk hc7 hc8 hc9 hc10;rw [hS,hR,h1,h2];exact ⟨rfl,rfl,rfl⟩
end Go.Proofs.YtodmafgmdlkhoaaGreat.Vs
end
section
namespace Go.Proofs.YtodmafgmdlkhoaaGreat.Vs
set_option linter.all false
set_option maxRecDepth 100000
set_option maxHeartbeats 1000000
theorem zxp(z:Int)(h0:0≤z)(h:z<10):PCall Tryz.prog 119 [(.g (.int .i64 (z)))] (.s (digN z.toNat)):=by
 have:=specDec z.toNat (by omega)
 rwa [show ((z.toNat:Nat):Int)=z by omega] at this
theorem take_del{α:Type}(A:List α){n:Nat}(k:Nat)(h:A.length=n):List.take k (List.take k A)++List.take (n-(k+1)) (List.drop (k+1) A)=List.take k A++List.drop (k+1) A:=by rw [List.take_take,Nat.min_self,List.take_of_length_le (l:=List.drop (k+1) A) (by simp;omega)]
theorem zji(l:List DtCSet)(k:Nat)(hk:k<l.length):l.set k { fName:=l[k].fName,fSnaps:=l[k].fSnaps }=l:=List.set_getElem_self hk
attribute [local simp] DtCatalog.cells DtCmd.cells DtCSet.cells zbo List.set_set List.getD_eq_getElem?_getD and_assoc zbw zca
theorem l15SetX(l:List DtCSet)(hl:l.length≤1048576)(k:Nat)(hk:k<l.length)(m:DtCmd)(h5:l[k].fSnaps.length≤5)(hrd:(spc (tldL l[k])).length≤1073741824)(hN0:m.fKind=5→0≤m.fN∧m.fN≤9)(hch:m.fChunks.length≤1048576):XCall Tryz.prog 65 [.agg [.arr 8 0 l.length],(.g (.int .i64 ((k:Nat)))),.agg (DtCmd.cells m)] [.own 2 (l.map DtCSet.cells)] (.tup [.agg [.arr 16 0 (setS l k m).length],.s (setR l k m)]) [.dead] [.own 2 ((setS l k m).map DtCSet.cells)]:=by
 refine zbu Tryz.func65 (by rfl) (by rfl) (by rw [Tryz.ntmps65];exact Nat.le_of_ble_eq_true rfl) rfl (by simp) rfl rfl ?_
 rw [Tryz.ntmps65]
 refine zhs (.own 2 (l.map DtCSet.cells)) (by simp [cvO]<;>assumption) ?_
 refine AW_k [(0,_),(1,_),(2,_)] ⟨rfl,rfl,rfl,trivial⟩ ?_
 refine zft 8 901 902 k hk (by simp [zG20]) (by simp [zG20]) (by simp [zG20]) (by decide) (by decide) (by decide) λzs hz=>?_
 have hkz:k<zs.length:=by rw [←hz] at hk;simpa using hk
 have hset:=@zmv zs k hkz
 refine AW_x rfl rfl λK hK=>?_
 simp (disch:=omega) [hset]
 repeat' first|(refine ⟨by omega,?_⟩)|(intro _)
 refine hK _ ?_;clear hK K
 refine AW_x rfl rfl λK hK=>?_
 simp (disch:=omega) [hset]
 repeat' first|(refine ⟨by omega,?_⟩)|(simp (disch:=omega) [hset])|(intro _)
 refine hK _ ?_;clear hK K
 refine AW_x rfl rfl λK hK=>?_
 simp (disch:=omega) [hset]
 repeat' first|(exfalso;omega)|(refine zdq (zbd (zbz rfl) (zbd zdg zbl)) (zv7 l[k] m.fName (by omega)) rfl ?_;simp (disch:=omega) [hset])|(refine zdr (zv7 l[k] m.fName (by omega)) (by rfl) ?_ ?_;(focus (simp (disch:=omega) [hset,zbo];done));simp (disch:=omega) [hset])|(refine ⟨by omega,?_⟩)|(simp (disch:=omega) [hset])|(intro _)
 refine hK _ ?_;clear hK K
 refine zbh ?_
 refine AW_x rfl rfl λK hK=>?_
 simp (disch:=omega) [hset]
 repeat' first|(refine ⟨by omega,?_⟩)|(intro _)
 refine hK _ ?_;clear hK K
 refine zbj ?_
 refine AW_x rfl rfl λK hK=>?_
 simp (disch:=omega) [hset]
 repeat' first|(refine ⟨by omega,?_⟩)|(intro _)
 refine hK _ ?_;clear hK K
 refine zbg rfl (λhc1=>?_) (λhc1=>?_)
 ·try simp [zG19,zbc,zbb] at hc1
  all_goals
   refine zcm 8 901 902 k hz hk l[k].fName l[k].fSnaps (by simp [zG20]) (by simp [zG20]) (by simp [zG20]) (by decide) (by decide) (by decide) ?_
   rw [zji l k hk]
   refine zfa (us:=l) 8 903 (by simp [zG20]) (by simp [zG20]) λzs2 hz2 hone=>?_
   have hzl2:zs2.length=l.length:=by rw [←hz2];simp
   refine AW_x rfl rfl λK hK=>?_
   simp (disch:=omega) [hset]
   repeat' first|(exfalso;omega)|(refine ⟨λ_=>?_,λ_=>?_⟩)|(refine ⟨by omega,?_⟩)|(simp (disch:=omega) [hset])|(intro _)
   all_goals (refine hK _ ?_;clear hK K)
   all_goals
    refine AW_x rfl rfl λK hK=>?_
    simp (disch:=omega) [hset]
    repeat' first|(refine ⟨by omega,?_⟩)|(simp (disch:=omega) [hset])|(intro _)
    refine hK _ ?_;clear hK K
    refine zd3 (zhv (ks:=zs2.take k++zs2.drop (k+1)) (zs:=zs2) 640 903 (by simp [zG20];exact take_del _ k (by rw [List.length_map,hzl2])) (by simp [zG20]) (zwg zs2 k)) ?_
    rw [del_c hz2 k]
    refine AW_x rfl rfl λK hK=>?_
    simp (disch:=omega) [hset]
    repeat' first|(refine ⟨by omega,?_⟩)|(simp (disch:=omega) [hset])|(intro _)
    refine hK _ ?_;clear hK K
    refine zbp (zce [640] [] (by simp [zG20,List.range_succ]) (by simp) ?_)
    simp (disch:=omega) [hset]
    have ⟨h1,h2⟩:=@set_2 l k m hc1;rw [h1,h2];exact ⟨by simp;omega,rfl,by simp⟩
 try simp [zG19,zbc,zbb] at hc1
 refine AW_x rfl rfl λK hK=>?_
 simp (disch:=omega) [hset]
 repeat' first|(exfalso;omega)|(refine ⟨λ_=>?_,λ_=>?_⟩)|(refine ⟨by omega,?_⟩)|(simp (disch:=omega) [hset])|(intro _)
 all_goals (refine hK _ ?_;clear hK K)
 all_goals
  refine zbg rfl (λhc2=>?_) (λhc2=>?_)
  ·try simp [zG19,zbc,zbb] at hc2
   all_goals
    refine zbh ?_
    refine AW_x rfl rfl λK hK=>?_
    simp (disch:=omega) [hset]
    repeat' first|(exfalso;omega)|(refine ⟨λ_=>?_,λ_=>?_⟩)|(refine ⟨by omega,?_⟩)|(simp (disch:=omega) [hset])|(intro _)
    all_goals (refine hK _ ?_;clear hK K)
    all_goals
     refine zbg rfl (λhc3=>?_) (λhc3=>?_)
     ·try simp [zG19,zbc,zbb] at hc3
      all_goals
       refine zcm 8 901 902 k hz hk l[k].fName l[k].fSnaps (by simp [zG20]) (by simp [zG20]) (by simp [zG20]) (by decide) (by decide) (by decide) ?_
       rw [zji l k hk]
       refine AW_x rfl rfl λK hK=>?_
       simp (disch:=omega) [hset]
       repeat' first|(exfalso;omega)|(refine ⟨λ_=>?_,λ_=>?_⟩)|(refine ⟨by omega,?_⟩)|(simp (disch:=omega) [hset])|(intro _)
       all_goals (refine hK _ ?_;clear hK K)
       all_goals
        refine zbp (zce [8] [] (by simp [zG20,List.range_succ]) (by simp) ?_)
        simp (disch:=omega) [hset]
        have ⟨h1,h2⟩:=zqq hk hc2;have ⟨h3,h4⟩:=com_e hc3;rw [h1,h2,h3,h4];exact ⟨by simp,rfl,by rw [List.set_getElem_self]⟩
     try simp [zG19,zbc,zbb] at hc3
     refine zbi ?_
     refine zbm ?_
     refine zbh ?_
     refine AW_x rfl rfl λK hK=>?_
     simp (disch:=omega) [hset]
     repeat' first|(exfalso;omega)|(refine ⟨λ_=>?_,λ_=>?_⟩)|(refine ⟨by omega,?_⟩)|(simp (disch:=omega) [hset])|(intro _)
     all_goals (refine hK _ ?_;clear hK K)
     all_goals
      refine zbg rfl (λhc4=>?_) (λhc4=>?_)
      ·try simp [zG19,zbc,zbb] at hc4
       all_goals
        refine zcm 8 901 902 k hz hk l[k].fName l[k].fSnaps (by simp [zG20]) (by simp [zG20]) (by simp [zG20]) (by decide) (by decide) (by decide) ?_
        rw [zji l k hk]
        refine AW_x rfl rfl λK hK=>?_
        simp (disch:=omega) [hset]
        repeat' first|(exfalso;omega)|(refine ⟨λ_=>?_,λ_=>?_⟩)|(refine ⟨by omega,?_⟩)|(simp (disch:=omega) [hset])|(intro _)
        all_goals (refine hK _ ?_;clear hK K)
        all_goals
         refine zbp (zce [8] [] (by simp [zG20,List.range_succ]) (by simp) ?_)
         simp (disch:=omega) [hset]
         have ⟨h1,h2⟩:=zqq hk hc2;have ⟨h3,h4⟩:=com_f hc3 (by omega);rw [h1,h2,h3,h4];exact ⟨by simp,rfl,by rw [List.set_getElem_self]⟩
      try simp [zG19,zbc,zbb] at hc4
      refine zbi ?_
      refine zbm ?_
      refine zf9 (us:=l[k].fSnaps) 902 903 (by simp [zG20]) (by simp [zG20]) λys hys hone=>?_
      have hyl:ys.length=l[k].fSnaps.length:=by rw [←hys];simp
      refine AW_x rfl rfl λK hK=>?_
      simp (disch:=omega) [hset]
      repeat' first|(exfalso;omega)|(refine ⟨λ_=>?_,λ_=>?_⟩)|(refine ⟨by omega,?_⟩)|(simp (disch:=omega) [hset])|(intro _)
      all_goals (refine hK _ ?_;clear hK K)
      all_goals
       refine zd3 (zk9 (ks:=ys) (zs:=ys) 896 903 (by simp [zG20,List.take_of_length_le,hyl]) (by simp [zG20]) (List.Sublist.refl _)) ?_
       have hsn:(ys.map λz=>DtCSnap.cells z.1)=l[k].fSnaps.map DtCSnap.cells:=by rw [←hys,List.map_map];rfl
       rw [hsn]
       refine AW_d rfl mix (by kernel_rfl) (by kernel_rfl) λK hK=>?_
       simp (disch:=omega) [hset]
       repeat' first|(refine ⟨by omega,?_⟩)|(simp (disch:=omega) [hset])|(intro _)
       refine hK _ _ (by kernel_rfl) ?_;clear hK K
       refine zcm 8 901 1104 k hz hk l[k].fName (l[k].fSnaps++[{ fName:=m.fName,fTag:=[],fChunks:=m.fChunks }]) (by simp [zG20,hyl]) (by simp [zG20]) (by simp [zG20,DtCSnap.cells]) (by decide) (by decide) (by decide) ?_
       refine AW_x rfl rfl λK hK=>?_
       simp (disch:=omega) [hset]
       repeat' first|(refine ⟨by omega,?_⟩)|(simp (disch:=omega) [hset])|(intro _)
       refine hK _ ?_;clear hK K
       refine zbp (zce [8] [] (by simp [zG20,List.range_succ]) (by simp) ?_)
       simp (disch:=omega) [hset]
       have ⟨h1,h2⟩:=zqq hk hc2;have ⟨h3,h4⟩:=com_k hc3 (by omega);rw [h1,h2,h3,h4];exact ⟨by simp,rfl,by simp [DtCSet.cells,DtCSnap.cells]⟩
  try simp [zG19,zbc,zbb] at hc2
  refine AW_x rfl rfl λK hK=>?_
  simp (disch:=omega) [hset]
  repeat' first|(exfalso;omega)|(refine ⟨λ_=>?_,λ_=>?_⟩)|(refine ⟨by omega,?_⟩)|(simp (disch:=omega) [hset])|(intro _)
  all_goals (refine hK _ ?_;clear hK K)
  all_goals
   refine zbg rfl (λhc5=>?_) (λhc5=>?_)
   ·try simp [zG19,zbc,zbb] at hc5
    all_goals
     refine zbh ?_
     refine AW_x rfl rfl λK hK=>?_
     simp (disch:=omega) [hset]
     repeat' first|(exfalso;omega)|(refine ⟨λ_=>?_,λ_=>?_⟩)|(refine ⟨by omega,?_⟩)|(simp (disch:=omega) [hset])|(intro _)
     all_goals (refine hK _ ?_;clear hK K)
     all_goals
      refine zbg rfl (λhc6=>?_) (λhc6=>?_)
      ·try simp [zG19,zbc,zbb] at hc6
       all_goals
        refine zcm 8 901 902 k hz hk l[k].fName l[k].fSnaps (by simp [zG20]) (by simp [zG20]) (by simp [zG20]) (by decide) (by decide) (by decide) ?_
        rw [zji l k hk]
        refine AW_x rfl rfl λK hK=>?_
        simp (disch:=omega) [hset]
        repeat' first|(exfalso;omega)|(refine ⟨λ_=>?_,λ_=>?_⟩)|(refine ⟨by omega,?_⟩)|(simp (disch:=omega) [hset])|(intro _)
        all_goals (refine hK _ ?_;clear hK K)
        all_goals
         refine zbp (zce [8] [] (by simp [zG20,List.range_succ]) (by simp) ?_)
         simp (disch:=omega) [hset]
         have ⟨h1,h2⟩:=zz3 hk hc5;have ⟨h3,h4⟩:=tag_n hc6;rw [h1,h2,h3,h4];exact ⟨by simp,rfl,by rw [List.set_getElem_self]⟩
      try simp [zG19,zbc,zbb] at hc6
      refine zbi ?_
      refine zbm ?_
      have hj:=zql (λp=>eqB p.fName m.fName) l[k].fSnaps (by have h:=hc6;unfold findN at h;omega)
      change (findN l[k].fSnaps m.fName).toNat<l[k].fSnaps.length at hj
      refine AW_d rfl mix (by kernel_rfl) (by kernel_rfl) λK hK=>?_
      simp (disch:=omega) [hset]
      repeat' first|(exfalso;omega)|(refine ⟨λ_=>?_,λ_=>?_⟩)|(refine ⟨by omega,?_⟩)|(simp (disch:=omega) [hset])|(intro _)
      all_goals (refine hK _ _ (by kernel_rfl) ?_;clear hK K)
      all_goals
       refine zcm 8 901 902 k hz hk l[k].fName (l[k].fSnaps.set (findN l[k].fSnaps m.fName).toNat { l[k].fSnaps[(findN l[k].fSnaps m.fName).toNat] with fTag:=m.fTag }) (by simp [zG20,List.length_set]) (by simp [zG20]) (by simp [zG20,DtCSnap.cells]) (by decide) (by decide) (by decide) ?_
       refine AW_x rfl rfl λK hK=>?_
       simp (disch:=omega) [hset]
       repeat' first|(refine ⟨by omega,?_⟩)|(simp (disch:=omega) [hset])|(intro _)
       refine hK _ ?_;clear hK K
       refine zbp (zce [8] [] (by simp [zG20,List.range_succ]) (by simp) ?_)
       simp (disch:=omega) [hset]
       have ⟨h1,h2⟩:=zz3 hk hc5;have ⟨h3,h4⟩:=tag_k hc6 hj;rw [h1,h2,h3,h4];exact ⟨by simp,rfl,by simp [DtCSet.cells,DtCSnap.cells]⟩
   try simp [zG19,zbc,zbb] at hc5
   refine AW_x rfl rfl λK hK=>?_
   simp (disch:=omega) [hset]
   repeat' first|(exfalso;omega)|(refine ⟨λ_=>?_,λ_=>?_⟩)|(refine ⟨by omega,?_⟩)|(simp (disch:=omega) [hset])|(intro _)
   all_goals (refine hK _ ?_;clear hK K)
   all_goals
    refine zbg rfl (λhc7=>?_) (λhc7=>?_)
    ·try simp [zG19,zbc,zbb] at hc7
     all_goals
      have hN:=hN0 hc7
      refine AW_x rfl rfl λK hK=>?_
      simp (disch:=omega) [hset]
      repeat' first|(exfalso;omega)|(refine zd5 [902] true [] (l15PruneX l[k].fSnaps (by omega) m.fN hN.1 (by omega)) ?_ ?_ ?_;(focus (simp [List.range_succ,nmC];done));(focus (simp (disch:=omega) [hset,zbo];done));simp (disch:=omega) [hset])|(refine ⟨λ_=>?_,λ_=>?_⟩)|(refine ⟨by omega,?_⟩)|(simp (disch:=omega) [hset])|(intro _)
      all_goals (refine hK _ ?_;clear hK K)
      all_goals
       refine AW_x rfl rfl λK hK=>?_
       simp (disch:=omega) [hset]
       repeat' first|(refine ⟨by omega,?_⟩)|(simp (disch:=omega) [hset])|(intro _)
       refine hK _ ?_;clear hK K
       refine zcm 8 901 1552 k hz hk l[k].fName (pruS l[k] m.fN).fSnaps (by simp [zG20,pruS]) (by simp [zG20]) (by simp [zG20,pruS]) (by decide) (by decide) (by decide) ?_
       refine AW_d rfl mix (by kernel_rfl) (by kernel_rfl) λK hK=>?_
       simp (disch:=omega) [hset]
       repeat' first|(exfalso;omega)|(refine zf2 (λst'=>(zbd zcl zbl)) (zxp (goneN l[k].fSnaps m.fN) (zmx l[k].fSnaps m.fN h5 hN.1).1 (by have:=(zmx l[k].fSnaps m.fN h5 hN.1).2.1;omega)) rfl ?_;simp (disch:=omega) [hset])|(refine zf3 (zxp (goneN l[k].fSnaps m.fN) (zmx l[k].fSnaps m.fN h5 hN.1).1 (by have:=(zmx l[k].fSnaps m.fN h5 hN.1).2.1;omega)) (by rfl) (λst' hst=>?_) ?_;(focus (simp (disch:=omega) [hset] at hst;simp (disch:=omega) [hset,hst,zbo];done));simp (disch:=omega) [hset])|(refine ⟨by omega,?_⟩)|(simp (disch:=omega) [hset])|(intro _)
       refine hK _ _ (by kernel_rfl) ?_;clear hK K
       refine zbp (zce [8] [] (by simp [zG20,List.range_succ]) (by simp) ?_)
       simp (disch:=omega) [hset]
       have ⟨h1,h2⟩:=set_5 hk hc7;rw [h1,h2];exact ⟨by simp,rfl,by simp [DtCSet.cells,pruS]⟩
    try simp [zG19,zbc,zbb] at hc7
    refine zbi ?_
    refine zbm ?_
    refine AW_d rfl mix (by kernel_rfl) (by kernel_rfl) λK hK=>?_
    simp (disch:=omega) [hset]
    repeat' first|(exfalso;omega)|(refine zf2 (λst'=>(zbd (zbz rfl) zbl)) (l15Read l[k] (by omega) hrd) rfl ?_;simp (disch:=omega) [hset])|(refine zf3 (l15Read l[k] (by omega) hrd) (by rfl) (λst' hst=>?_) ?_;(focus (simp (disch:=omega) [hset] at hst;simp (disch:=omega) [hset,hst,zbo];done));simp (disch:=omega) [hset])|(refine ⟨λ_=>?_,λ_=>?_⟩)|(refine ⟨by omega,?_⟩)|(simp (disch:=omega) [hset])|(intro _)
    all_goals (refine hK _ _ (by kernel_rfl) ?_;clear hK K)
    all_goals
     refine zcm 8 901 902 k hz hk l[k].fName l[k].fSnaps (by simp [zG20]) (by simp [zG20]) (by simp [zG20]) (by decide) (by decide) (by decide) ?_
     rw [zji l k hk]
     refine zbp (zce [8] [] (by simp [zG20,List.range_succ]) (by simp) ?_)
     simp (disch:=omega) [hset]
     have ⟨h1,h2⟩:=set_6 hk hc1 hc2 hc5 hc7;rw [h1,h2];exact ⟨rfl,rfl,rfl⟩
end Go.Proofs.YtodmafgmdlkhoaaGreat.Vs
end
section
namespace Go.Proofs.YtodmafgmdlkhoaaGreat.Vs
set_option linter.all false
set_option maxRecDepth 100000
set_option maxHeartbeats 1000000
def insK(zs:List SetV)(c:Nat)(n:List UInt8)(i:Nat)(p:Bool):List SetV:=if p=true then zs.take c++newV n :: (zs.take i).drop c else zs.take i
theorem zxq(zs:List SetV)(c:Nat)(n:List UInt8)(i:Nat):insK zs c n i false=zs.take i:=rfl
theorem zxr(zs:List SetV)(c:Nat)(n:List UInt8)(i:Nat):insK zs c n i true=zs.take c++newV n :: (zs.take i).drop c:=rfl
theorem insK_fs(zs:List SetV)(c:Nat)(n:List UInt8)(i:Nat)(h:i<zs.length):insK zs c n (i+1) false=insK zs c n i false++[zs[i]]:=by rw [zxq,zxq,List.take_succ_eq_append_getElem h]
theorem insK_ts(zs:List SetV)(c:Nat)(n:List UInt8)(i:Nat)(h:i<zs.length)(hc:c≤i):insK zs c n (i+1) true=insK zs c n i true++[zs[i]]:=by
 rw [zxr,zxr,List.take_succ_eq_append_getElem h,List.drop_append_of_le_length (by simp;omega)];simp
theorem insK_n(zs:List SetV)(n:List UInt8)(i:Nat)(h:i<zs.length):insK zs i n (i+1) true=insK zs i n i false++[newV n]++[zs[i]]:=by
 have e:List.drop i (List.take i zs)=[]:=List.drop_eq_nil_of_le (by simp;omega)
 rw [insK_ts zs i n i h (Nat.le_refl _),zxr,zxq,e]
theorem insK_len(zs:List SetV)(c:Nat)(n:List UInt8)(i:Nat)(p:Bool):(insK zs c n i p).length≤zs.length+1+zs.length:=by
 cases p<;>simp [insK]<;>omega
theorem insK_e(zs:List SetV)(c:Nat)(n:List UInt8):insK zs c n zs.length true=zs.take c++newV n :: zs.drop c:=by rw [zxr,List.take_length]
theorem zxs{l:List DtCSet}{n:List UInt8}(h:findS l n<0)(j:Nat)(hj:j<l.length):¬l[j].fName=n:=by
 intro e
 unfold findS idxZ at h
 split at h
 ·omega
 ·rename_i h2
  rw [List.findIdx?_eq_none_iff] at h2
  have:=h2 _ (List.getElem_mem hj)
  rw [e,zw7] at this
  cases this
theorem zmy{α β:Type}(A:List α)(f:α→β)(y:β):List.take (A.length+1) (A.map f++[y])=A.map f++[y]:=List.take_of_length_le (by simp)
theorem zs3{zs:List SetV}{c:Nat}{n:List UInt8}{i:Nat}{p:Bool}(hi:i<zs.length)(hpt:p=true→c<i):insK zs c n (i+1) p=insK zs c n i p++[zs[i]]:=by
 cases p with
 | false=>exact insK_fs zs c n i hi
 | true=>exact insK_ts zs c n i hi (by have:=hpt rfl;omega)
theorem zmz{l:List DtCSet}{zs:List SetV}{n:List UInt8}{i:Nat}{p:Bool}(hzl:zs.length=l.length)(hi:i<zs.length)(hpf:p=false→∀j (h:j<l.length),j<i→Op.bytesLess l[j].fName n=true)(hp:p=false)(hyi:zs[i].1=l[i]'(by omega))(h:Op.bytesLess zs[i].1.fName n=false):insK zs (lessN l n) n (i+1) true=insK zs (lessN l n) n i p++[newV n]++[zs[i]]∧lessN l n=i:=by
 have e:lessN l n=i:=zlb n l i (by omega) (hpf hp) (λhh=>by rw [←hyi];exact h)
 subst hp
 rw [e]
 exact ⟨insK_n zs n i hi,rfl⟩
theorem cr_end0{l:List DtCSet}{zs:List SetV}{n:List UInt8}{i:Nat}{p:Bool}(hzl:zs.length=l.length)(hi:i=l.length)(hpf:p=false→∀j (h:j<l.length),j<i→Op.bytesLess l[j].fName n=true)(hp:p=false):(insK zs (lessN l n) n i p).map setV++[[.s n,.g (.slice none 0 0)]]=(zs.take (lessN l n)++newV n :: zs.drop (lessN l n)).map setV:=by
 have e:lessN l n=l.length:=zlb n l l.length (Nat.le_refl _) (λj h _=>hpf hp j h (by omega)) (λh=>absurd h (by omega))
 subst hp
 rw [e,zxq,hi,List.take_of_length_le (by omega),List.drop_eq_nil_of_le (by omega)]
 simp [zqo]
theorem cr_end1{l:List DtCSet}{zs:List SetV}{n:List UInt8}{i:Nat}{p:Bool}(hzl:zs.length=l.length)(hi:i=l.length)(hp:p=true):(insK zs (lessN l n) n i p).map setV=(zs.take (lessN l n)++newV n :: zs.drop (lessN l n)).map setV:=by
 subst hp
 rw [hi,←hzl,insK_e]
attribute [local simp] DtCatalog.cells DtCSet.cells zbo zd0 and_assoc zbw List.length_append
theorem zz4(l:List DtCSet)(hl:l.length≤1048576)(h5:l.length≤5)(n:List UInt8):XCall Tryz.prog 63 [.agg [.arr 8 0 l.length],.s n] [.own 2 (l.map DtCSet.cells)] (.tup [.agg [.arr 16 0 (creS l n).length],.s (creR l n)]) [.dead] [.own 2 ((creS l n).map DtCSet.cells)]:=by
 refine zbu Tryz.func63 (by rfl) (by rfl) (by rw [Tryz.ntmps63];exact Nat.le_of_ble_eq_true rfl) rfl (by simp) rfl rfl ?_
 rw [Tryz.ntmps63]
 refine zhs (.own 2 (l.map DtCSet.cells)) (by simp [cvO]<;>assumption) ?_
 refine AW_k [(0,_),(1,_)] ⟨rfl,rfl,trivial⟩ ?_
 refine AW_x rfl rfl λK hK=>?_
 simp (disch:=omega)
 repeat' first|(refine ⟨by omega,?_⟩)|(intro _)
 refine hK _ ?_;clear hK K
 refine zbh ?_
 refine AW_x rfl rfl λK hK=>?_
 simp (disch:=omega)
 repeat' first|(exfalso;omega)|(refine zdq (zbd (zbz rfl) (zbd zdg zbl)) (l15At { fSets:=l } n (by simpa using hl)) rfl ?_;simp (disch:=omega))|(refine zdr (l15At { fSets:=l } n (by simpa using hl)) (by rfl) ?_ ?_;(focus (simp (disch:=omega) [zbo];done));simp (disch:=omega))|(refine ⟨by omega,?_⟩)|(simp (disch:=omega))|(intro _)
 refine hK _ ?_;clear hK K
 refine zbg rfl (λhc1=>?_) (λhc1=>?_)
 ·try simp [zG19,zbc,zbb] at hc1
  all_goals
   refine AW_x rfl rfl λK hK=>?_
   simp (disch:=omega)
   repeat' first|(exfalso;omega)|(refine ⟨λ_=>?_,λ_=>?_⟩)|(refine ⟨by omega,?_⟩)|(simp (disch:=omega))|(intro _)
   all_goals (refine hK _ ?_;clear hK K)
   all_goals
    refine zbp (zce [8] [] (by simp [zG20,List.range_succ]) (by simp) ?_)
    simp (disch:=omega)
    all_goals first|(have ⟨h1,h2⟩:=zsy hc1;rw [h1,h2];exact ⟨rfl,rfl,rfl⟩)|(have ⟨h1,h2⟩:=zsz hc1 (by omega);rw [h1,h2];exact ⟨rfl,rfl,rfl⟩)|(have ⟨h1,h2⟩:=zs0 hc1 (by omega);rw [h1,h2];have hkl:=congrArg List.length hen;simp at hkl;have hkk:=congrArg List.length hks;simp at hkk;exact ⟨by simp;omega,rfl,by simp [DtCSet.cells]⟩) | trace_state
 try simp [zG19,zbc,zbb] at hc1
 refine zbi ?_
 refine zbm ?_
 refine zbh ?_
 refine AW_x rfl rfl λK hK=>?_
 simp (disch:=omega)
 repeat' first|(exfalso;omega)|(refine ⟨λ_=>?_,λ_=>?_⟩)|(refine ⟨by omega,?_⟩)|(simp (disch:=omega))|(intro _)
 all_goals (refine hK _ ?_;clear hK K)
 all_goals
  refine zbg rfl (λhc2=>?_) (λhc2=>?_)
  ·try simp [zG19,zbc,zbb] at hc2
   all_goals
    refine AW_x rfl rfl λK hK=>?_
    simp (disch:=omega)
    repeat' first|(exfalso;omega)|(refine ⟨λ_=>?_,λ_=>?_⟩)|(refine ⟨by omega,?_⟩)|(simp (disch:=omega))|(intro _)
    all_goals (refine hK _ ?_;clear hK K)
    all_goals
     refine zbp (zce [8] [] (by simp [zG20,List.range_succ]) (by simp) ?_)
     simp (disch:=omega)
     all_goals first|(have ⟨h1,h2⟩:=zsy hc1;rw [h1,h2];exact ⟨rfl,rfl,rfl⟩)|(have ⟨h1,h2⟩:=zsz hc1 (by omega);rw [h1,h2];exact ⟨rfl,rfl,rfl⟩)|(have ⟨h1,h2⟩:=zs0 hc1 (by omega);rw [h1,h2];have hkl:=congrArg List.length hen;simp at hkl;have hkk:=congrArg List.length hks;simp at hkk;exact ⟨by simp;omega,rfl,by simp [DtCSet.cells]⟩) | trace_state
  try simp [zG19,zbc,zbb] at hc2
  refine zbi ?_
  refine zbm ?_
  refine zfa (us:=l) 8 901 (by simp [zG20]) (by simp [zG20]) λzs hz hone=>?_
  have hzl:zs.length=l.length:=by rw [←hz];simp
  refine AW_x rfl rfl λK hK=>?_
  simp (disch:=omega)
  repeat' first|(exfalso;omega)|(refine ⟨λ_=>?_,λ_=>?_⟩)|(refine ⟨by omega,?_⟩)|(simp (disch:=omega))|(intro _)
  all_goals (refine hK _ ?_;clear hK K)
  all_goals
   refine AW_x rfl rfl λK hK=>?_
   simp (disch:=omega)
   repeat' first|(refine ⟨by omega,?_⟩)|(intro _)
   refine hK _ ?_;clear hK K
   refine zbh ?_
   refine AW_x rfl rfl λK hK=>?_
   simp (disch:=omega)
   repeat' first|(refine ⟨by omega,?_⟩)|(intro _)
   refine hK _ ?_;clear hK K
   refine zbj ?_
   refine zbs (λmM sS=>∃(i:Nat) (p:Bool),mM=l.length-i∧(i≤l.length∧(p=false→∀j (h:j<l.length),j<i→Op.bytesLess l[j].fName n=true)∧(p=true→lessN l n<i))∧sS = { env:=lkE [(1,.s n),(2,.ptr 48 0),(4,.ptr 80 0),(6,.arr 904 0 (insK zs (lessN l n) n i p).length),(7,(.g (.bool (p)))),(8,(.g (.int .i64 ((i:Nat)))))],ob:=lk [(48,.cells [.arr 8 0 l.length]),(80,.cells [.g (.slice none 0 0)]),(8,.win 2 (zs.map setV)),(901,.park (zs.flatMap setP)),(904,.win 2 ((insK zs (lessN l n) n i p).map setV))] }) ?_ ?_
   ·refine ⟨_,LeS.kx [(48,48),(80,80),(8,8),(901,901),(904,320)] [(1,.s n),(2,.ptr 48 0),(4,.ptr 80 0),(6,.arr 904 0 (insK zs (lessN l n) n (0) (false)).length),(7,(.g (.bool ((false))))),(8,(.g (.int .i64 (((0):Nat)))))] [(48,.cells [.arr 8 0 l.length]),(80,.cells [.g (.slice none 0 0)]),(8,.win 2 (zs.map setV)),(901,.park (zs.flatMap setP)),(904,.win 2 ((insK zs (lessN l n) n (0) (false)).map setV))] (by simp [zG20,KpR,renV2,renV,zbk,zbw,zd0];try (simp [insK];done)) (by simp [zG20,KpOX,renO,plO,cvO,renV,pl1,zbw,zd0];first|(rw [zs3 hiz hpt];simp [zd0];done)|(rw [(zmz hzl hiz hpf ‹p=false› hyi hc4.1).1,zmy];simp [zd0,newV];done)|(simp [insK];done) | trace_state) (by rfl) (by simp) (by simp) (by rfl) (by simp [formsX,List.range_succ,zbr,zby]),_,0,false,rfl,?_,rfl⟩
    ·exact ⟨by omega,λ_ j h hj=>absurd hj (by omega),λh=>by cases h⟩
   ·rintro mM sS ⟨i,p,rfl,⟨hi,hpf,hpt⟩,rfl⟩
    have hkl:=insK_len zs (lessN l n) n i p
    refine zbh ?_
    refine AW_x rfl rfl λK hK=>?_
    simp (disch:=omega)
    repeat' first|(refine ⟨by omega,?_⟩)|(simp (disch:=omega))|(intro _)
    refine hK _ ?_;clear hK K
    refine zbg rfl (λhc3=>?_) (λhc3=>?_)
    ·try simp [zG19,zbc,zbb] at hc3
     all_goals
      have hiz:i<zs.length:=by omega
      have hyi:=zxo hz i hiz (by omega)
      have hne:=zxs hc1 i (by omega)
      have hv1:(zs[i].2 1).oneCell'=true:=hone _ (List.getElem_mem _) 1
      simp only [Value.oneCell'] at hv1
      rw [←hyi] at hne
      refine zbi ?_
      refine zbm ?_
      refine zbh ?_
      refine zbj ?_
      refine zbh ?_
      refine AW_x rfl rfl λK hK=>?_
      simp (disch:=omega) [hv1]
      repeat' first|(exfalso;omega)|(refine ⟨λ_=>?_,λ_=>?_⟩)|(refine ⟨by omega,?_⟩)|(simp (disch:=omega) [hv1])|(intro _)
      all_goals (refine hK _ ?_;clear hK K)
      all_goals
       refine zbg rfl (λhc4=>?_) (λhc4=>?_)
       ·try simp [zG19,zbc,zbb] at hc4
        all_goals
         refine AW_x rfl rfl λK hK=>?_
         simp (disch:=omega) [hv1]
         repeat' first|(exfalso;omega)|(refine ⟨λ_=>?_,λ_=>?_⟩)|(refine ⟨by omega,?_⟩)|(simp (disch:=omega) [hv1])|(intro _)
         all_goals (refine hK _ ?_;clear hK K)
         all_goals
          refine zb4 rfl rfl λK hK=>?_
          simp (disch:=omega) [hv1]
          repeat' first|(refine ⟨by omega,?_⟩)|(intro _)
          refine hK _ ?_;clear hK K
          refine zbm ?_
          refine zb4 rfl rfl λK hK=>?_
          simp (disch:=omega) [hv1]
          repeat' first|(refine ⟨by omega,?_⟩)|(simp (disch:=omega) [hv1])|(intro _)
          refine hK _ ?_;clear hK K
          refine zbm ?_
          refine zb4 rfl rfl λK hK=>?_
          simp (disch:=omega) [hv1]
          repeat' first|(refine ⟨by omega,?_⟩)|(intro _)
          refine hK _ ?_;clear hK K
          refine ⟨_,LeS.kx [(48,48),(80,80),(8,8),(901,901),(904,832)] [(1,.s n),(2,.ptr 48 0),(4,.ptr 80 0),(6,.arr 904 0 (insK zs (lessN l n) n (i+1) (true)).length),(7,(.g (.bool ((true))))),(8,(.g (.int .i64 (((i+1):Nat)))))] [(48,.cells [.arr 8 0 l.length]),(80,.cells [.g (.slice none 0 0)]),(8,.win 2 (zs.map setV)),(901,.park (zs.flatMap setP)),(904,.win 2 ((insK zs (lessN l n) n (i+1) (true)).map setV))] (by simp [zG20,KpR,renV2,renV,zbk,zbw,zd0];first|(rw [zs3 hiz hpt];simp;done)|(rw [(zmz hzl hiz hpf ‹p=false› hyi hc4.1).1];simp;done) | trace_state) (by simp [zG20,KpOX,renO,plO,cvO,renV,pl1,zbw,zd0];first|(rw [zs3 hiz hpt];simp [zd0];done)|(rw [(zmz hzl hiz hpf ‹p=false› hyi hc4.1).1,zmy];simp [zd0,newV];done)|(simp [insK];done) | trace_state) (by rfl) (by simp) (by simp) (by rfl) (by simp [formsX,List.range_succ,zbr,zby]),_,?_,i+1,true,rfl,?_,rfl⟩
          ·omega
          ·first | exact ⟨by omega,λh=>(by cases h),λ_=>by have:=(zmz hzl hiz hpf ‹p=false› hyi hc4.1).2;omega⟩ | exact ⟨by omega,λh j hj hji=>if e:j<i then hpf h j hj e else (by have e2:j=i:=(by omega);subst e2;rw [←hyi];grind),λh=>by have:=hpt h;omega⟩ | trace_state
       try simp [zG19,zbc,zbb] at hc4
       refine zbi ?_
       refine zbm ?_
       refine zb4 rfl rfl λK hK=>?_
       simp (disch:=omega) [hv1]
       repeat' first|(exfalso;omega)|(refine ⟨λ_=>?_,λ_=>?_⟩)|(refine ⟨by omega,?_⟩)|(simp (disch:=omega) [hv1])|(intro _)
       all_goals (refine hK _ ?_;clear hK K)
       all_goals
        refine zbm ?_
        refine zb4 rfl rfl λK hK=>?_
        simp (disch:=omega) [hv1]
        repeat' first|(refine ⟨by omega,?_⟩)|(intro _)
        refine hK _ ?_;clear hK K
        refine ⟨_,LeS.kx [(48,48),(80,80),(8,8),(901,901),(904,832)] [(1,.s n),(2,.ptr 48 0),(4,.ptr 80 0),(6,.arr 904 0 (insK zs (lessN l n) n (i+1) (p)).length),(7,(.g (.bool ((p))))),(8,(.g (.int .i64 (((i+1):Nat)))))] [(48,.cells [.arr 8 0 l.length]),(80,.cells [.g (.slice none 0 0)]),(8,.win 2 (zs.map setV)),(901,.park (zs.flatMap setP)),(904,.win 2 ((insK zs (lessN l n) n (i+1) (p)).map setV))] (by simp [zG20,KpR,renV2,renV,zbk,zbw,zd0];first|(rw [zs3 hiz hpt];simp;done)|(rw [(zmz hzl hiz hpf ‹p=false› hyi hc4.1).1];simp;done) | trace_state) (by simp [zG20,KpOX,renO,plO,cvO,renV,pl1,zbw,zd0];first|(rw [zs3 hiz hpt];simp [zd0];done)|(rw [(zmz hzl hiz hpf ‹p=false› hyi hc4.1).1,zmy];simp [zd0,newV];done)|(simp [insK];done) | trace_state) (by rfl) (by simp) (by simp) (by rfl) (by simp [formsX,List.range_succ,zbr,zby]),_,?_,i+1,p,rfl,?_,rfl⟩
        ·omega
        ·first | exact ⟨by omega,λh=>(by cases h),λ_=>by have:=(zmz hzl hiz hpf ‹p=false› hyi hc4.1).2;omega⟩ | exact ⟨by omega,λh j hj hji=>if e:j<i then hpf h j hj e else (by have e2:j=i:=(by omega);subst e2;rw [←hyi];grind),λh=>by have:=hpt h;omega⟩ | trace_state
    try simp [zG19,zbc,zbb] at hc3
    refine zbx ?_
    refine zbm ?_
    refine zbh ?_
    refine AW_x rfl rfl λK hK=>?_
    simp (disch:=omega)
    repeat' first|(exfalso;omega)|(refine ⟨λ_=>?_,λ_=>?_⟩)|(refine ⟨by omega,?_⟩)|(simp (disch:=omega))|(intro _)
    all_goals (refine hK _ ?_;clear hK K)
    all_goals
     refine zbg rfl (λhc5=>?_) (λhc5=>?_)
     ·try simp [zG19,zbc,zbb] at hc5
      all_goals
       refine zb4 rfl rfl λK hK=>?_
       simp (disch:=omega)
       repeat' first|(exfalso;omega)|(refine ⟨λ_=>?_,λ_=>?_⟩)|(refine ⟨by omega,?_⟩)|(simp (disch:=omega))|(intro _)
       all_goals (refine hK _ ?_;clear hK K)
       all_goals
        refine zbm ?_
        have hil:i=l.length:=by omega
        obtain ⟨ks,hks⟩:∃ks,ks=zs.take (lessN l n)++newV n :: zs.drop (lessN l n):=⟨_,rfl⟩
        have hen:=cr_end0 hzl hil hpf hc5
        rw [←hks] at hen
        refine zd3 (LeS.parkN 901 (s:=3) (ps1:=(zs.take (lessN l n)).flatMap setP) (ps2:=(zs.drop (lessN l n)).flatMap setP) (by simp [zG20];rw [←List.flatMap_append,List.take_append_drop])) ?_
        refine zd3 (zhv (ks:=ks) (zs:=ks) 944 901 (by simp [zG20,hen]) (by simp [zG20];rw [hks];simp [zqp]) (List.Sublist.refl _)) ?_
        have hsn:=ins_c hz n (lessN l n)
        rw [hks,hsn]
        refine AW_x rfl rfl λK hK=>?_
        simp (disch:=omega)
        repeat' first|(refine ⟨by omega,?_⟩)|(simp (disch:=omega))|(intro _)
        refine hK _ ?_;clear hK K
        refine AW_x rfl rfl λK hK=>?_
        simp (disch:=omega)
        repeat' first|(refine ⟨by omega,?_⟩)|(simp (disch:=omega))|(intro _)
        refine hK _ ?_;clear hK K
        refine zbp (zce [944] [] (by simp [zG20,List.range_succ]) (by simp) ?_)
        simp (disch:=omega)
        all_goals first|(have ⟨h1,h2⟩:=zsy hc1;rw [h1,h2];exact ⟨rfl,rfl,rfl⟩)|(have ⟨h1,h2⟩:=zsz hc1 (by omega);rw [h1,h2];exact ⟨rfl,rfl,rfl⟩)|(have ⟨h1,h2⟩:=zs0 hc1 (by omega);rw [h1,h2];have hkl:=congrArg List.length hen;simp at hkl;have hkk:=congrArg List.length hks;simp at hkk;exact ⟨by simp;omega,rfl,by simp [DtCSet.cells]⟩) | trace_state
     try simp [zG19,zbc,zbb] at hc5
     refine zbi ?_
     refine zbm ?_
     have hil:i=l.length:=by omega
     obtain ⟨ks,hks⟩:∃ks,ks=zs.take (lessN l n)++newV n :: zs.drop (lessN l n):=⟨_,rfl⟩
     have hen:=@cr_end1 l zs n i p hzl hil hc5
     rw [←hks] at hen
     refine zd3 (LeS.parkN 901 (s:=3) (ps1:=(zs.take (lessN l n)).flatMap setP) (ps2:=(zs.drop (lessN l n)).flatMap setP) (by simp [zG20];rw [←List.flatMap_append,List.take_append_drop])) ?_
     refine zd3 (zhv (ks:=ks) (zs:=ks) 904 901 (by simp [zG20,hen]) (by simp [zG20];rw [hks];simp [zqp]) (List.Sublist.refl _)) ?_
     have hsn:=ins_c hz n (lessN l n)
     rw [hks,hsn]
     refine AW_x rfl rfl λK hK=>?_
     simp (disch:=omega)
     repeat' first|(exfalso;omega)|(refine ⟨λ_=>?_,λ_=>?_⟩)|(refine ⟨by omega,?_⟩)|(simp (disch:=omega))|(intro _)
     all_goals (refine hK _ ?_;clear hK K)
     all_goals
      refine AW_x rfl rfl λK hK=>?_
      simp (disch:=omega)
      repeat' first|(refine ⟨by omega,?_⟩)|(simp (disch:=omega))|(intro _)
      refine hK _ ?_;clear hK K
      refine zbp (zce [904] [] (by simp [zG20,List.range_succ]) (by simp) ?_)
      simp (disch:=omega)
      all_goals first|(have ⟨h1,h2⟩:=zsy hc1;rw [h1,h2];exact ⟨rfl,rfl,rfl⟩)|(have ⟨h1,h2⟩:=zsz hc1 (by omega);rw [h1,h2];exact ⟨rfl,rfl,rfl⟩)|(have ⟨h1,h2⟩:=zs0 hc1 (by omega);rw [h1,h2];have hkl:=congrArg List.length hen;simp at hkl;have hkk:=congrArg List.length hks;simp at hkk;exact ⟨by simp;omega,rfl,by simp [DtCSet.cells]⟩) | trace_state
end Go.Proofs.YtodmafgmdlkhoaaGreat.Vs
end
section
namespace Go.Proofs.YtodmafgmdlkhoaaGreat.Vs
set_option linter.all false
set_option maxRecDepth 100000
set_option maxHeartbeats 1000000
theorem dB_t{p:Prop}(h:decB p=true):p:=by rwa [zbf] at h
theorem dB_f{p:Prop}(h:decB p=false):¬p:=by rwa [zbn] at h
theorem nam_at(l:List DtCSet)(i:Nat)(h:i<l.length)(hb:(spc (namL l)).length≤1073741824):spc ((namL l).take (i+1))=(if i=0 then [] else spc ((namL l).take i)++[32])++l[i].fName∧(spc ((namL l).take i)).length+l[i].fName.length+1≤1073741825:=by
 have hl:i<(namL l).length:=by simpa [namL] using h
 have e:(namL l)[i]=l[i].fName:=by simp [namL]
 have h1:=zk8 (namL l) i hl
 have h2:=(zxm (namL l) i hl hb).1
 rw [e] at h2
 refine ⟨?_,by omega⟩
 rw [h1,e]
 split<;>simp
attribute [local simp] DtCatalog.cells DtCmd.cells DtCSet.cells zbo and_assoc zbw len0
theorem specCatDo(c:DtCatalog)(m:DtCmd)(hs:DtCatalog.sz c≤1048576)(hm:DtCmd.sz m≤1048576)(hch:m.fChunks.length≤1048576):XCall Tryz.prog 21 [.agg (DtCatalog.cells c),.agg (DtCmd.cells m)] [] (.tup [.agg [.arr 16 0 (catS c m).length],.s (catR c m)]) [] [.own 2 ((catS c m).map DtCSet.cells)]:=by
 have hB:=catB_of c hs
 have hB1:=hB.1
 refine zbu Tryz.func21 (by rfl) (by rfl) (by rw [Tryz.ntmps21];exact Nat.le_of_ble_eq_true rfl) rfl (by simp) rfl rfl ?_
 rw [Tryz.ntmps21]
 refine zjb   ?_
 refine AW_k [(0,_),(1,_)] ⟨rfl,rfl,trivial⟩ ?_
 refine AW_x rfl rfl λK hK=>?_
 simp (disch:=omega)
 repeat' first|(refine ⟨by omega,?_⟩)|(intro _)
 refine hK _ ?_;clear hK K
 refine zbh ?_
 refine AW_x rfl rfl λK hK=>?_
 simp (disch:=omega)
 repeat' first|(exfalso;omega)|(refine zdq (zbd (zbz rfl) zbl) (zc4 c (by omega)) rfl ?_;simp (disch:=omega))|(refine zdr (zc4 c (by omega)) (by rfl) ?_ ?_;(focus (simp (disch:=omega) [zbo];done));simp (disch:=omega))|(refine ⟨by omega,?_⟩)|(simp (disch:=omega))|(intro _)
 refine hK _ ?_;clear hK K
 refine zbg rfl (λhc1=>?_) (λhc1=>?_)
 ·try simp [zG19,zbc,zbb] at hc1
  all_goals
   refine AW_x rfl rfl λK hK=>?_
   simp (disch:=omega)
   repeat' first|(exfalso;omega)|(refine ⟨λ_=>?_,λ_=>?_⟩)|(refine ⟨by omega,?_⟩)|(simp (disch:=omega))|(intro _)
   all_goals (refine hK _ ?_;clear hK K)
   all_goals
    refine zbp (zce [1000] [(1000,2)] (by simp [zG20,List.range_succ]) (by simp) ?_)
    simp (disch:=omega)
    all_goals first|(have ⟨h1,h2⟩:=zs1 hc1 (m:=m);exact ⟨h1,h2,h1⟩)|(have ⟨h1,h2⟩:=zqr hc1 (dB_f ‹decB (CmdP m)=false›);rw [h1,h2];exact ⟨rfl,rfl,rfl⟩)|(have ⟨h1,h2⟩:=zqs hc1 (dB_t ‹decB (CmdP m)=true›) hc2;rw [h1,h2];exact ⟨rfl,rfl,rfl⟩)|(have ⟨h1,h2⟩:=zqt hc1 (dB_t ‹decB (CmdP m)=true›) hc3;rw [h1,h2];exact ⟨rfl,rfl,rfl⟩)|(have ⟨h1,h2⟩:=zqu hc1 (dB_t ‹decB (CmdP m)=true›) hc4;rw [h1,h2,htf];exact ⟨rfl,rfl,rfl⟩)|(have ⟨h1,h2⟩:=znj hc1 (dB_t ‹decB (CmdP m)=true›) hc2 hc3 hc4 hc7;rw [h1,h2];exact ⟨rfl,rfl,rfl⟩)|(rw [hS,hR];exact ⟨rfl,rfl,rfl⟩) | trace_state
 ·try simp [zG19,zbc,zbb] at hc1
  all_goals
   refine zbi ?_
   refine zbm ?_
   obtain ⟨hb1,hb2,hb3,hb4⟩:=catP_bd hc1
   refine AW_x rfl rfl λK hK=>?_
   simp (disch:=omega)
   repeat' first|(exfalso;omega)|(refine zd5 [] true [] (l15CopyX c hB) ?_ ?_ ?_;(focus (simp [List.range_succ,nmC];done));(focus (simp (disch:=omega) [zbo];done));simp (disch:=omega))|(refine ⟨λ_=>?_,λ_=>?_⟩)|(refine ⟨by omega,?_⟩)|(simp (disch:=omega))|(intro _)
   all_goals (refine hK _ ?_;clear hK K)
   all_goals
    refine zbh ?_
    refine AW_x rfl rfl λK hK=>?_
    simp (disch:=omega)
    repeat' first|(exfalso;omega)|(refine zdq (zbd (zbz rfl) zbl) (zje m (by omega)) rfl ?_;simp (disch:=omega))|(refine zdr (zje m (by omega)) (by rfl) ?_ ?_;(focus (simp (disch:=omega) [zbo];done));simp (disch:=omega))|(refine ⟨λ_=>?_,λ_=>?_⟩)|(refine ⟨by omega,?_⟩)|(simp (disch:=omega))|(intro _)
    all_goals (refine hK _ ?_;clear hK K)
    all_goals
     refine zbg rfl (λhc2=>?_) (λhc2=>?_)
     ·try simp [zG19,zbc,zbb] at hc2
      all_goals
       refine AW_x rfl rfl λK hK=>?_
       simp (disch:=omega)
       repeat' first|(exfalso;omega)|(refine ⟨λ_=>?_,λ_=>?_⟩)|(refine ⟨by omega,?_⟩)|(simp (disch:=omega))|(intro _)
       all_goals (refine hK _ ?_;clear hK K)
       all_goals
        refine zbp (zce [320] [] (by simp [zG20,List.range_succ]) (by simp) ?_)
        simp (disch:=omega)
        all_goals first|(have ⟨h1,h2⟩:=zs1 hc1 (m:=m);exact ⟨h1,h2,h1⟩)|(have ⟨h1,h2⟩:=zqr hc1 (dB_f ‹decB (CmdP m)=false›);rw [h1,h2];exact ⟨rfl,rfl,rfl⟩)|(have ⟨h1,h2⟩:=zqs hc1 (dB_t ‹decB (CmdP m)=true›) hc2;rw [h1,h2];exact ⟨rfl,rfl,rfl⟩)|(have ⟨h1,h2⟩:=zqt hc1 (dB_t ‹decB (CmdP m)=true›) hc3;rw [h1,h2];exact ⟨rfl,rfl,rfl⟩)|(have ⟨h1,h2⟩:=zqu hc1 (dB_t ‹decB (CmdP m)=true›) hc4;rw [h1,h2,htf];exact ⟨rfl,rfl,rfl⟩)|(have ⟨h1,h2⟩:=znj hc1 (dB_t ‹decB (CmdP m)=true›) hc2 hc3 hc4 hc7;rw [h1,h2];exact ⟨rfl,rfl,rfl⟩)|(rw [hS,hR];exact ⟨rfl,rfl,rfl⟩) | trace_state
     ·try simp [zG19,zbc,zbb] at hc2
      all_goals
       refine zbi ?_
       refine zbm ?_
       refine zbh ?_
       refine AW_x rfl rfl λK hK=>?_
       simp (disch:=omega)
       repeat' first|(exfalso;omega)|(refine ⟨λ_=>?_,λ_=>?_⟩)|(refine ⟨by omega,?_⟩)|(simp (disch:=omega))|(intro _)
       all_goals (refine hK _ ?_;clear hK K)
       all_goals
        refine zbg rfl (λhc3=>?_) (λhc3=>?_)
        ·try simp [zG19,zbc,zbb] at hc3
         all_goals
          refine AW_x rfl rfl λK hK=>?_
          simp (disch:=omega)
          repeat' first|(exfalso;omega)|(refine zd5 [320] true [] (zz4 c.fSets (by omega) (by omega) m.fSet) ?_ ?_ ?_;(focus (simp [List.range_succ,nmC];done));(focus (simp (disch:=omega) [zbo];done));simp (disch:=omega))|(refine ⟨λ_=>?_,λ_=>?_⟩)|(refine ⟨by omega,?_⟩)|(simp (disch:=omega))|(intro _)
          all_goals (refine hK _ ?_;clear hK K)
          all_goals
           refine AW_x rfl rfl λK hK=>?_
           simp (disch:=omega)
           repeat' first|(refine ⟨by omega,?_⟩)|(simp (disch:=omega))|(intro _)
           refine hK _ ?_;clear hK K
           refine zbp (zce [592] [] (by simp [zG20,List.range_succ]) (by simp) ?_)
           simp (disch:=omega)
           all_goals first|(have ⟨h1,h2⟩:=zs1 hc1 (m:=m);exact ⟨h1,h2,h1⟩)|(have ⟨h1,h2⟩:=zqr hc1 (dB_f ‹decB (CmdP m)=false›);rw [h1,h2];exact ⟨rfl,rfl,rfl⟩)|(have ⟨h1,h2⟩:=zqs hc1 (dB_t ‹decB (CmdP m)=true›) hc2;rw [h1,h2];exact ⟨rfl,rfl,rfl⟩)|(have ⟨h1,h2⟩:=zqt hc1 (dB_t ‹decB (CmdP m)=true›) hc3;rw [h1,h2];exact ⟨rfl,rfl,rfl⟩)|(have ⟨h1,h2⟩:=zqu hc1 (dB_t ‹decB (CmdP m)=true›) hc4;rw [h1,h2,htf];exact ⟨rfl,rfl,rfl⟩)|(have ⟨h1,h2⟩:=znj hc1 (dB_t ‹decB (CmdP m)=true›) hc2 hc3 hc4 hc7;rw [h1,h2];exact ⟨rfl,rfl,rfl⟩)|(rw [hS,hR];exact ⟨rfl,rfl,rfl⟩) | trace_state
        ·try simp [zG19,zbc,zbb] at hc3
         all_goals
          refine zbi ?_
          refine zbm ?_
          refine zbh ?_
          refine AW_x rfl rfl λK hK=>?_
          simp (disch:=omega)
          repeat' first|(exfalso;omega)|(refine ⟨λ_=>?_,λ_=>?_⟩)|(refine ⟨by omega,?_⟩)|(simp (disch:=omega))|(intro _)
          all_goals (refine hK _ ?_;clear hK K)
          all_goals
           refine zbg rfl (λhc4=>?_) (λhc4=>?_)
           ·try simp [zG19,zbc,zbb] at hc4
            all_goals
             refine AW_x rfl rfl λK hK=>?_
             simp (disch:=omega)
             repeat' first|(exfalso;omega)|(refine ⟨λ_=>?_,λ_=>?_⟩)|(refine ⟨by omega,?_⟩)|(simp (disch:=omega))|(intro _)
             all_goals (refine hK _ ?_;clear hK K)
             all_goals
              refine zbh ?_
              refine AW_x rfl rfl λK hK=>?_
              simp (disch:=omega)
              repeat' first|(refine ⟨by omega,?_⟩)|(intro _)
              refine hK _ ?_;clear hK K
              refine zbj ?_
              refine zbs (λmM sS=>∃(i:Nat),mM=c.fSets.length-i∧(i≤c.fSets.length)∧sS = { env:=lkE [(3,.ptr 64 0),(4,.ptr 80 0),(6,.ptr 112 0),(9,.s (spc ((namL c.fSets).take i))),(10,(.g (.int .i64 ((i:Nat)))))],ob:=lk [(64,.cells (DtCmd.cells m)),(80,.cells [.g (.slice none 0 0)]),(112,.cells [.arr 320 0 c.fSets.length]),(320,.own 2 (c.fSets.map DtCSet.cells))] }) ?_ ?_
              ·refine ⟨_,LeS.kx [(64,64),(80,80),(112,112),(320,320)] [(3,.ptr 64 0),(4,.ptr 80 0),(6,.ptr 112 0),(9,.s (spc ((namL c.fSets).take (0)))),(10,(.g (.int .i64 (((0):Nat)))))] [(64,.cells (DtCmd.cells m)),(80,.cells [.g (.slice none 0 0)]),(112,.cells [.arr 320 0 c.fSets.length]),(320,.own 2 (c.fSets.map DtCSet.cells))] (by simp [zG20,KpR,renV2,renV,zbk,DtCSet.cells,DtCmd.cells];all_goals first | rfl|(simp [spc];done)|(rw [htk];split<;>first | rfl|(simp [spc];done)|(subst_vars;simp [spc];done)|(exfalso;omega)|(simp_all;done)) | trace_state) (by simp [zG20,KpOX,renO,plO,cvO,renV,pl1,DtCSet.cells,DtCmd.cells];try rfl) (by rfl) (by simp) (by simp) (by rfl) (by simp [formsX,List.range_succ,zbr,zby]),_,0,rfl,?_,rfl⟩
               ·simp
              ·rintro mM sS ⟨i,rfl,hi,rfl⟩
               refine zbh ?_
               refine AW_x rfl rfl λK hK=>?_
               simp (disch:=omega)
               repeat' first|(refine ⟨by omega,?_⟩)|(simp (disch:=omega))|(intro _)
               refine hK _ ?_;clear hK K
               refine zbg rfl (λhc5=>?_) (λhc5=>?_)
               ·try simp [zG19,zbc,zbb] at hc5
                all_goals
                 have hg:(c.fSets.map DtCSet.cells)[i]? = some (DtCSet.cells (c.fSets[i]'(by omega))):=by rw [List.getElem?_map,List.getElem?_eq_getElem (by omega)];rfl
                 have ⟨htk,hbd⟩:=nam_at c.fSets i (by omega) hb3
                 refine zbi ?_
                 refine zbm ?_
                 refine zbh ?_
                 refine zbj ?_
                 refine zbh ?_
                 refine AW_x rfl rfl λK hK=>?_
                 simp (disch:=omega)
                 repeat' first|(exfalso;omega)|(refine ⟨λ_=>?_,λ_=>?_⟩)|(refine ⟨by omega,?_⟩)|(simp (disch:=omega))|(intro _)
                 all_goals (refine hK _ ?_;clear hK K)
                 all_goals
                  refine zbg rfl (λhc6=>?_) (λhc6=>?_)
                  ·try simp [zG19,zbc,zbb] at hc6
                   all_goals
                    refine zb4 rfl rfl λK hK=>?_
                    simp (disch:=omega)
                    repeat' first|(exfalso;omega)|(refine ⟨λ_=>?_,λ_=>?_⟩)|(refine ⟨by omega,?_⟩)|(simp (disch:=omega))|(intro _)
                    all_goals (refine hK _ ?_;clear hK K)
                    all_goals
                     refine zbm ?_
                     refine zb4 rfl rfl λK hK=>?_
                     simp (disch:=omega)
                     repeat' first|(refine ⟨by omega,?_⟩)|(intro _)
                     refine hK _ ?_;clear hK K
                     refine zbm ?_
                     refine zb4 rfl rfl λK hK=>?_
                     simp (disch:=omega)
                     repeat' first|(refine ⟨by omega,?_⟩)|(intro _)
                     refine hK _ ?_;clear hK K
                     refine ⟨_,LeS.kx [(64,64),(80,80),(112,112),(320,320)] [(3,.ptr 64 0),(4,.ptr 80 0),(6,.ptr 112 0),(9,.s (spc ((namL c.fSets).take (i+1)))),(10,(.g (.int .i64 (((i+1):Nat)))))] [(64,.cells (DtCmd.cells m)),(80,.cells [.g (.slice none 0 0)]),(112,.cells [.arr 320 0 c.fSets.length]),(320,.own 2 (c.fSets.map DtCSet.cells))] (by simp [zG20,KpR,renV2,renV,zbk,DtCSet.cells,DtCmd.cells];all_goals first | rfl|(simp [spc];done)|(rw [htk];split<;>first | rfl|(simp [spc];done)|(subst_vars;simp [spc];done)|(exfalso;omega)|(simp_all;done)) | trace_state) (by simp [zG20,KpOX,renO,plO,cvO,renV,pl1,DtCSet.cells,DtCmd.cells];try rfl) (by rfl) (by simp) (by simp) (by rfl) (by simp [formsX,List.range_succ,zbr,zby]),_,?_,i+1,rfl,?_,rfl⟩
                     ·omega
                     ·omega
                  ·try simp [zG19,zbc,zbb] at hc6
                   all_goals
                    refine zbi ?_
                    refine zbm ?_
                    refine zb4 rfl rfl λK hK=>?_
                    simp (disch:=omega)
                    repeat' first|(exfalso;omega)|(refine ⟨λ_=>?_,λ_=>?_⟩)|(refine ⟨by omega,?_⟩)|(simp (disch:=omega))|(intro _)
                    all_goals (refine hK _ ?_;clear hK K)
                    all_goals
                     refine zbm ?_
                     refine zb4 rfl rfl λK hK=>?_
                     simp (disch:=omega)
                     repeat' first|(refine ⟨by omega,?_⟩)|(intro _)
                     refine hK _ ?_;clear hK K
                     refine ⟨_,LeS.kx [(64,64),(80,80),(112,112),(320,320)] [(3,.ptr 64 0),(4,.ptr 80 0),(6,.ptr 112 0),(9,.s (spc ((namL c.fSets).take (i+1)))),(10,(.g (.int .i64 (((i+1):Nat)))))] [(64,.cells (DtCmd.cells m)),(80,.cells [.g (.slice none 0 0)]),(112,.cells [.arr 320 0 c.fSets.length]),(320,.own 2 (c.fSets.map DtCSet.cells))] (by simp [zG20,KpR,renV2,renV,zbk,DtCSet.cells,DtCmd.cells];all_goals first | rfl|(simp [spc];done)|(rw [htk];split<;>first | rfl|(simp [spc];done)|(subst_vars;simp [spc];done)|(exfalso;omega)|(simp_all;done)) | trace_state) (by simp [zG20,KpOX,renO,plO,cvO,renV,pl1,DtCSet.cells,DtCmd.cells];try rfl) (by rfl) (by simp) (by simp) (by rfl) (by simp [formsX,List.range_succ,zbr,zby]),_,?_,i+1,rfl,?_,rfl⟩
                     ·omega
                     ·omega
               ·try simp [zG19,zbc,zbb] at hc5
                all_goals
                 have htf:(namL c.fSets).take i=namL c.fSets:=List.take_of_length_le (by simp [namL];omega)
                 refine zbx ?_
                 refine zbm ?_
                 refine AW_x rfl rfl λK hK=>?_
                 simp (disch:=omega)
                 repeat' first|(exfalso;omega)|(refine ⟨λ_=>?_,λ_=>?_⟩)|(refine ⟨by omega,?_⟩)|(simp (disch:=omega))|(intro _)
                 all_goals (refine hK _ ?_;clear hK K)
                 all_goals
                  refine zbp (zce [320] [] (by simp [zG20,List.range_succ]) (by simp) ?_)
                  simp (disch:=omega)
                  all_goals first|(have ⟨h1,h2⟩:=zs1 hc1 (m:=m);exact ⟨h1,h2,h1⟩)|(have ⟨h1,h2⟩:=zqr hc1 (dB_f ‹decB (CmdP m)=false›);rw [h1,h2];exact ⟨rfl,rfl,rfl⟩)|(have ⟨h1,h2⟩:=zqs hc1 (dB_t ‹decB (CmdP m)=true›) hc2;rw [h1,h2];exact ⟨rfl,rfl,rfl⟩)|(have ⟨h1,h2⟩:=zqt hc1 (dB_t ‹decB (CmdP m)=true›) hc3;rw [h1,h2];exact ⟨rfl,rfl,rfl⟩)|(have ⟨h1,h2⟩:=zqu hc1 (dB_t ‹decB (CmdP m)=true›) hc4;rw [h1,h2,htf];exact ⟨rfl,rfl,rfl⟩)|(have ⟨h1,h2⟩:=znj hc1 (dB_t ‹decB (CmdP m)=true›) hc2 hc3 hc4 hc7;rw [h1,h2];exact ⟨rfl,rfl,rfl⟩)|(rw [hS,hR];exact ⟨rfl,rfl,rfl⟩) | trace_state
           ·try simp [zG19,zbc,zbb] at hc4
            all_goals
             refine zbi ?_
             refine zbm ?_
             refine AW_x rfl rfl λK hK=>?_
             simp (disch:=omega)
             repeat' first|(exfalso;omega)|(refine zdq (zbd (zbz rfl) (zbd zdg zbl)) (l15At c m.fSet (by omega)) rfl ?_;simp (disch:=omega))|(refine zdr (l15At c m.fSet (by omega)) (by rfl) ?_ ?_;(focus (simp (disch:=omega) [zbo];done));simp (disch:=omega))|(refine ⟨λ_=>?_,λ_=>?_⟩)|(refine ⟨by omega,?_⟩)|(simp (disch:=omega))|(intro _)
             all_goals (refine hK _ ?_;clear hK K)
             all_goals
              refine zbh ?_
              refine AW_x rfl rfl λK hK=>?_
              simp (disch:=omega)
              repeat' first|(refine ⟨by omega,?_⟩)|(intro _)
              refine hK _ ?_;clear hK K
              refine zbg rfl (λhc7=>?_) (λhc7=>?_)
              ·try simp [zG19,zbc,zbb] at hc7
               all_goals
                refine AW_x rfl rfl λK hK=>?_
                simp (disch:=omega)
                repeat' first|(exfalso;omega)|(refine ⟨λ_=>?_,λ_=>?_⟩)|(refine ⟨by omega,?_⟩)|(simp (disch:=omega))|(intro _)
                all_goals (refine hK _ ?_;clear hK K)
                all_goals
                 refine zbp (zce [320] [] (by simp [zG20,List.range_succ]) (by simp) ?_)
                 simp (disch:=omega)
                 all_goals first|(have ⟨h1,h2⟩:=zs1 hc1 (m:=m);exact ⟨h1,h2,h1⟩)|(have ⟨h1,h2⟩:=zqr hc1 (dB_f ‹decB (CmdP m)=false›);rw [h1,h2];exact ⟨rfl,rfl,rfl⟩)|(have ⟨h1,h2⟩:=zqs hc1 (dB_t ‹decB (CmdP m)=true›) hc2;rw [h1,h2];exact ⟨rfl,rfl,rfl⟩)|(have ⟨h1,h2⟩:=zqt hc1 (dB_t ‹decB (CmdP m)=true›) hc3;rw [h1,h2];exact ⟨rfl,rfl,rfl⟩)|(have ⟨h1,h2⟩:=zqu hc1 (dB_t ‹decB (CmdP m)=true›) hc4;rw [h1,h2,htf];exact ⟨rfl,rfl,rfl⟩)|(have ⟨h1,h2⟩:=znj hc1 (dB_t ‹decB (CmdP m)=true›) hc2 hc3 hc4 hc7;rw [h1,h2];exact ⟨rfl,rfl,rfl⟩)|(rw [hS,hR];exact ⟨rfl,rfl,rfl⟩) | trace_state
              ·try simp [zG19,zbc,zbb] at hc7
               all_goals
                refine zbi ?_
                refine zbm ?_
                obtain ⟨k,hkz⟩:=Int.eq_ofNat_of_zero_le hc7
                have hk:=zjh hkz
                have hmz:CmdP m∧¬m.fKind=0:=⟨dB_t ‹_›,hc2⟩
                have ⟨hS,hR⟩:=cat_k hc1 hmz.1 hmz.2 hc3 hc4 hkz
                have hN:m.fKind=5→0≤m.fN∧m.fN≤9:=by have:=hmz.1;clear hS hR;intro h5;simp only [CmdP] at this;by_cases h0:m.fN=0<;>grind
                simp only [hkz]
                refine AW_x rfl rfl λK hK=>?_
                simp (disch:=omega)
                repeat' first|(exfalso;omega)|(refine zd5 [320] true [] (l15SetX c.fSets (by omega) k hk m (hb2 k hk) (hb4 k hk) hN hch) ?_ ?_ ?_;(focus (simp [List.range_succ,nmC];done));(focus (simp (disch:=omega) [zbo];done));simp (disch:=omega))|(refine ⟨λ_=>?_,λ_=>?_⟩)|(refine ⟨by omega,?_⟩)|(simp (disch:=omega))|(intro _)
                all_goals (refine hK _ ?_;clear hK K)
                all_goals
                 refine AW_x rfl rfl λK hK=>?_
                 simp (disch:=omega)
                 repeat' first|(refine ⟨by omega,?_⟩)|(simp (disch:=omega))|(intro _)
                 refine hK _ ?_;clear hK K
                 refine zbp (zce [1232] [] (by simp [zG20,List.range_succ]) (by simp) ?_)
                 simp (disch:=omega)
                 all_goals first|(have ⟨h1,h2⟩:=zs1 hc1 (m:=m);exact ⟨h1,h2,h1⟩)|(have ⟨h1,h2⟩:=zqr hc1 (dB_f ‹decB (CmdP m)=false›);rw [h1,h2];exact ⟨rfl,rfl,rfl⟩)|(have ⟨h1,h2⟩:=zqs hc1 (dB_t ‹decB (CmdP m)=true›) hc2;rw [h1,h2];exact ⟨rfl,rfl,rfl⟩)|(have ⟨h1,h2⟩:=zqt hc1 (dB_t ‹decB (CmdP m)=true›) hc3;rw [h1,h2];exact ⟨rfl,rfl,rfl⟩)|(have ⟨h1,h2⟩:=zqu hc1 (dB_t ‹decB (CmdP m)=true›) hc4;rw [h1,h2,htf];exact ⟨rfl,rfl,rfl⟩)|(have ⟨h1,h2⟩:=znj hc1 (dB_t ‹decB (CmdP m)=true›) hc2 hc3 hc4 hc7;rw [h1,h2];exact ⟨rfl,rfl,rfl⟩)|(rw [hS,hR];exact ⟨rfl,rfl,rfl⟩) | trace_state
end Go.Proofs.YtodmafgmdlkhoaaGreat.Vs
end
