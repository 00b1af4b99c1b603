import Derived.Test.YtmheohnbkaoipaaGreatSDvQ
open Go Go.Proofs Go.Proofs.YtmheohnbkaoipaaGreat.Vs
namespace Go.Proofs.YtmheohnbkaoipaaGreat.Vs
set_option linter.all false
set_option linter.unusedSimpArgs false
set_option linter.unusedVariables false
set_option maxRecDepth 100000
theorem ztb {zs : List SetV} {l : List DtCSet} (hzl : zs.length = l.length) (k : Nat) (hk : k < l.length) (hl : l.length ≤ 1048576) : XCall Tryz.prog 62 [.arr 8 0 l.length, (.g (.int .i64 ((k : Nat)))), (.g (.int .i64 ((k : Nat) + 1)))] [.own 2 (zs.map setV)] (.arr 16 0 (l.length - 1)) [.dead] [.own 2 ((zs.map setV).take k ++ (zs.map setV).drop (k + 1))] := by
 have e : (zs.map setV).length = l.length := by rw [List.length_map, hzl]
 have h := zwp (zs.map setV) (zcm zs) k (by omega) (by omega)
 rw [e] at h
 exact h
theorem scR_del (zs : List SetV) (k : Nat) : scR ((zs.map setV).take k ++ (zs.map setV).drop (k + 1)) = true := by rw [zfe, zcs (zcm zs), zcz (zcm zs)]; rfl
theorem ztc {α : Type} (l : List α) (k : Nat) : (l.take k ++ l.drop (k + 1)).Sublist l := by
 have h : (l.drop (k + 1)).Sublist (l.drop k) := by
  have : l.drop (k + 1) = (l.drop k).drop 1 := by rw [List.drop_drop]
  rw [this]; exact List.drop_sublist _ _
 have h2 := (List.Sublist.refl (l.take k)).append h
 rwa [List.take_append_drop] at h2
theorem del_c {zs : List SetV} {l : List DtCSet} (hz : zs.map (·.1) = l) (k : Nat) : ((zs.take k ++ zs.drop (k + 1)).map fun z => DtCSet.cells z.1) = (l.take k ++ l.drop (k + 1)).map DtCSet.cells := by subst hz; simp [Function.comp_def]
attribute [local simp] DtCatalog.cells DtCmd.cells zbp and_assoc zcm len0
theorem implCatDo (c : DtCatalog) (m : DtCmd) (hs : DtCatalog.sz c ≤ 1048576) (hm : DtCmd.sz m ≤ 1048576) (hch : m.fChunks.length ≤ 1048576) : XCall Tryz.prog 31 [.agg (DtCatalog.cells c), .agg (DtCmd.cells m)] [] (.tup [.agg [.arr 16 0 (catS c m).length], .s (catR c m)]) [] [.own 2 ((catS c m).map DtCSet.cells)] := by
 have hB := zpf c hs
 have hB1 := hB.1
 refine zbx Tryz.func31 (by rfl) (by rfl) (by rw [Tryz.ntmps31]; exact Nat.le_of_ble_eq_true rfl) rfl (by simp) rfl rfl ?_
 rw [Tryz.ntmps31]
 refine zf1   ?_
 refine AW_k [(0, _), (1, _)] ⟨rfl, rfl, trivial⟩ ?_
 refine AW_x rfl rfl fun K hK => ?_
 simp (disch := omega)
 repeat' first | (refine ⟨by omega, ?_⟩) | (intro _)
 refine hK _ ?_; clear hK K
 refine AW_x rfl rfl fun K hK => ?_
 simp (disch := omega)
 repeat' first | (exfalso; omega) | (refine zdm [] true [] (zve c hB) ?_ ?_ ?_; (focus (simp [List.range_succ, nmC]; done)); (focus (simp (disch := omega) [zbp]; done)); simp (disch := omega)) | (refine ⟨by omega, ?_⟩) | (simp (disch := omega)) | (intro _)
 refine hK _ ?_; clear hK K
 refine zbm ?_
 refine zbt ?_
 refine AW_x rfl rfl fun K hK => ?_
 simp (disch := omega)
 repeat' first | (exfalso; omega) | (refine zdq (zbh (zbz rfl) zbs) (zl0 c (by omega)) rfl ?_; simp (disch := omega)) | (refine zdr (zl0 c (by omega)) (by rfl) ?_ ?_; (focus (simp (disch := omega) [zbp]; done)); simp (disch := omega)) | (refine ⟨by omega, ?_⟩) | (simp (disch := omega)) | (intro _)
 refine hK _ ?_; clear hK K
 refine zbl rfl (fun hc1 => ?_) (fun hc1 => ?_)
 ·try simp [zba, zbb, zbf, zbd] at hc1
  all_goals
   refine AW_x rfl rfl fun K hK => ?_
   simp (disch := omega)
   repeat' first | (exfalso; omega) | (refine ⟨fun _ => ?_, fun _ => ?_⟩) | (refine ⟨by omega, ?_⟩) | (simp (disch := omega)) | (intro _)
   all_goals (refine hK _ ?_; clear hK K)
   all_goals
    refine zbo (zcc [1000] [(1000, 2)] (by simp [List.range_succ, zbc, zbj, zbe]) (by simp) ?_)
    simp (disch := omega)
    have ⟨h1, h2⟩ := zpl hc1 (m := m); exact ⟨h1, h2, h1⟩
 try simp [zba, zbb, zbf, zbd] at hc1
 obtain ⟨hb1, hb2, hb3, hb4⟩ := catP_bd hc1
 refine AW_x rfl rfl fun K hK => ?_
 simp (disch := omega)
 repeat' first | (exfalso; omega) | (refine zdq (zbh (zbz rfl) zbs) (zh8 m (by omega)) rfl ?_; simp (disch := omega)) | (refine zdr (zh8 m (by omega)) (by rfl) ?_ ?_; (focus (simp (disch := omega) [zbp]; done)); simp (disch := omega)) | (refine ⟨fun _ => ?_, fun _ => ?_⟩) | (refine ⟨by omega, ?_⟩) | (simp (disch := omega)) | (intro _)
 all_goals (refine hK _ ?_; clear hK K)
 all_goals
  refine zbl rfl (fun hc2 => ?_) (fun hc2 => ?_)
  ·try simp [zba, zbb, zbf, zbd] at hc2
   all_goals
    refine AW_x rfl rfl fun K hK => ?_
    simp (disch := omega)
    repeat' first | (exfalso; omega) | (refine ⟨fun _ => ?_, fun _ => ?_⟩) | (refine ⟨by omega, ?_⟩) | (simp (disch := omega)) | (intro _)
    all_goals (refine hK _ ?_; clear hK K)
    all_goals
     refine zbo (zcc [192] [] (by simp [List.range_succ, zbc, zbj, zbe]) (by simp) ?_)
     simp (disch := omega)
     have ⟨h1, h2⟩ := zpm hc1 hc2; rw [h1, h2]; exact ⟨rfl, rfl, rfl⟩
  try simp [zba, zbb, zbf, zbd] at hc2
  refine AW_x rfl rfl fun K hK => ?_
  simp (disch := omega)
  repeat' first | (exfalso; omega) | (refine ⟨fun _ => ?_, fun _ => ?_⟩) | (refine ⟨by omega, ?_⟩) | (simp (disch := omega)) | (intro _)
  all_goals (refine hK _ ?_; clear hK K)
  all_goals
   refine zbl rfl (fun hc3 => ?_) (fun hc3 => ?_)
   ·try simp [zba, zbb, zbf, zbd] at hc3
    all_goals
     refine AW_x rfl rfl fun K hK => ?_
     simp (disch := omega)
     repeat' first | (exfalso; omega) | (refine ⟨fun _ => ?_, fun _ => ?_⟩) | (refine ⟨by omega, ?_⟩) | (simp (disch := omega)) | (intro _)
     all_goals (refine hK _ ?_; clear hK K)
     all_goals
      refine zbo (zcc [192] [] (by simp [List.range_succ, zbc, zbj, zbe]) (by simp) ?_)
      simp (disch := omega)
      have ⟨h1, h2⟩ := zpn hc1 hc2 hc3; rw [h1, h2]; exact ⟨rfl, rfl, rfl⟩
   try simp [zba, zbb, zbf, zbd] at hc3
   refine AW_x rfl rfl fun K hK => ?_
   simp (disch := omega)
   repeat' first | (exfalso; omega) | (refine ⟨fun _ => ?_, fun _ => ?_⟩) | (refine ⟨by omega, ?_⟩) | (simp (disch := omega)) | (intro _)
   all_goals (refine hK _ ?_; clear hK K)
   all_goals
    refine zbl rfl (fun hc4 => ?_) (fun hc4 => ?_)
    ·try simp [zba, zbb, zbf, zbd] at hc4
     all_goals
      refine AW_x rfl rfl fun K hK => ?_
      simp (disch := omega)
      repeat' first | (exfalso; omega) | (refine zdm [112, 192] true [] (createX c.fSets (by omega) m.fSet) ?_ ?_ ?_; (focus (simp [List.range_succ, nmC]; done)); (focus (simp (disch := omega) [zbp]; done)); simp (disch := omega)) | (refine ⟨fun _ => ?_, fun _ => ?_⟩) | (refine ⟨by omega, ?_⟩) | (simp (disch := omega)) | (intro _)
      all_goals (refine hK _ ?_; clear hK K)
      all_goals
       refine AW_x rfl rfl fun K hK => ?_
       simp (disch := omega)
       repeat' first | (refine ⟨by omega, ?_⟩) | (simp (disch := omega)) | (intro _)
       refine hK _ ?_; clear hK K
       refine zbo (zcc [544] [] (by simp [List.range_succ, zbc, zbj, zbe]) (by simp) ?_)
       simp (disch := omega)
       have ⟨h1, h2⟩ := zpo hc1 hc2 hc4; rw [h1, h2]; exact ⟨rfl, rfl, rfl⟩
    try simp [zba, zbb, zbf, zbd] at hc4
    refine AW_x rfl rfl fun K hK => ?_
    simp (disch := omega)
    repeat' first | (exfalso; omega) | (refine ⟨fun _ => ?_, fun _ => ?_⟩) | (refine ⟨by omega, ?_⟩) | (simp (disch := omega)) | (intro _)
    all_goals (refine hK _ ?_; clear hK K)
    all_goals
     refine zbl rfl (fun hc5 => ?_) (fun hc5 => ?_)
     ·try simp [zba, zbb, zbf, zbd] at hc5
      all_goals
       refine AW_d rfl mix (by kernel_rfl) (by kernel_rfl) fun K hK => ?_
       simp (disch := omega)
       repeat' first | (exfalso; omega) | (refine DKd_z [112, 192] true (listX c.fSets (by omega) hb3) ?_ (fun st' hst => ?_) ?_ ?_; (focus (simp; done)); (focus (simp (disch := omega) [nmC, List.range_succ] at hst; simp (disch := omega) [hst, zbp, nmC, List.range_succ]; done)); (focus (simp (disch := omega) [upsX, zipO, rnO, rn0, rn2, rhoX, List.range_succ]; done)); simp (disch := omega)) | (refine ⟨fun _ => ?_, fun _ => ?_⟩) | (refine ⟨by omega, ?_⟩) | (simp (disch := omega)) | (intro _)
       all_goals (refine hK _ _ (by kernel_rfl) ?_; clear hK K)
       all_goals
        refine zbo (zcc [192] [] (by simp [List.range_succ, zbc, zbj, zbe]) (by simp) ?_)
        simp (disch := omega)
        have ⟨h1, h2⟩ := zpp hc1 hc2 hc5; rw [h1, h2]; exact ⟨rfl, rfl, rfl⟩
     try simp [zba, zbb, zbf, zbd] at hc5
     refine zbn ?_
     refine zbq ?_
     refine AW_x rfl rfl fun K hK => ?_
     simp (disch := omega)
     repeat' first | (exfalso; omega) | (refine zdq (zbh (zbz rfl) (zbh zgv zbs)) (zvg c m.fSet (by omega)) rfl ?_; simp (disch := omega)) | (refine zdr (zvg c m.fSet (by omega)) (by rfl) ?_ ?_; (focus (simp (disch := omega) [zbp]; done)); simp (disch := omega)) | (refine ⟨fun _ => ?_, fun _ => ?_⟩) | (refine ⟨by omega, ?_⟩) | (simp (disch := omega)) | (intro _)
     all_goals (refine hK _ ?_; clear hK K)
     all_goals
      refine zbm ?_
      refine AW_x rfl rfl fun K hK => ?_
      simp (disch := omega)
      repeat' first | (refine ⟨by omega, ?_⟩) | (intro _)
      refine hK _ ?_; clear hK K
      refine zbl rfl (fun hc6 => ?_) (fun hc6 => ?_)
      ·try simp [zba, zbb, zbf, zbd] at hc6
       all_goals
        refine AW_x rfl rfl fun K hK => ?_
        simp (disch := omega)
        repeat' first | (exfalso; omega) | (refine ⟨fun _ => ?_, fun _ => ?_⟩) | (refine ⟨by omega, ?_⟩) | (simp (disch := omega)) | (intro _)
        all_goals (refine hK _ ?_; clear hK K)
        all_goals
         refine zbo (zcc [192] [] (by simp [List.range_succ, zbc, zbj, zbe]) (by simp) ?_)
         simp (disch := omega)
         have ⟨h1, h2⟩ := zpq hc1 hc2 hc3 hc4 hc5 hc6; rw [h1, h2]; exact ⟨rfl, rfl, rfl⟩
      try simp [zba, zbb, zbf, zbd] at hc6
      refine zbn ?_
      refine zbq ?_
      obtain ⟨k, hkz⟩ := Int.eq_ofNat_of_zero_le hc6
      have hk := zkt hkz
      have ⟨hS, hR⟩ := cat_k hc1 hc2 hc3 hc4 hc5 hkz
      simp only [hkz]
      refine AW_x rfl rfl fun K hK => ?_
      simp (disch := omega)
      repeat' first | (exfalso; omega) | (refine ⟨fun _ => ?_, fun _ => ?_⟩) | (refine ⟨by omega, ?_⟩) | (simp (disch := omega)) | (intro _)
      all_goals (refine hK _ ?_; clear hK K)
      all_goals
       refine zbm ?_
       refine AW_x rfl rfl fun K hK => ?_
       simp (disch := omega)
       repeat' first | (refine ⟨by omega, ?_⟩) | (intro _)
       refine hK _ ?_; clear hK K
       refine zbt ?_
       refine AW_x rfl rfl fun K hK => ?_
       simp (disch := omega)
       repeat' first | (refine ⟨by omega, ?_⟩) | (intro _)
       refine hK _ ?_; clear hK K
       refine zbl rfl (fun hc7 => ?_) (fun hc7 => ?_)
       ·try simp [zba, zbb, zbf, zbd] at hc7
        all_goals
         refine zd9 (us := c.fSets) 192 901 (by simp [zbe, zbc, zbj]) (by simp [zbe, zbc, zbj]) fun zs hz hone => ?_
         have hzl : zs.length = c.fSets.length := by rw [← hz]; simp
         refine zcr rfl rfl fun K hK => ?_
         simp (disch := omega)
         repeat' first | (exfalso; omega) | (refine zdm [192] true [] (ztb hzl k hk (by omega)) ?_ ?_ ?_; (focus (simp [List.range_succ, nmC]; done)); (focus (simp (disch := omega) [zbp]; done)); simp (disch := omega)) | (refine ⟨fun _ => ?_, fun _ => ?_⟩) | (refine ⟨by omega, ?_⟩) | (simp (disch := omega)) | (intro _)
         all_goals (refine hK _ ?_; clear hK K)
         all_goals
          refine zbq ?_
          refine AW_ow (sz := 2) 1024 905 (scR_del zs k) (by simp [zbe, zbc, zbj]) (by simp [zbe, zbc, zbj]) ?_
          refine zfk (zhn (ks := zs.take k ++ zs.drop (k + 1)) (zs := zs) 1024 901 (by simp [zbe, zbc, zbj]) (by simp [zbe, zbc, zbj]) (ztc zs k)) ?_
          rw [del_c hz k]
          refine AW_x rfl rfl fun K hK => ?_
          simp (disch := omega)
          repeat' first | (refine ⟨by omega, ?_⟩) | (simp (disch := omega)) | (intro _)
          refine hK _ ?_; clear hK K
          refine zbo (zcc [1024] [] (by simp [List.range_succ, zbc, zbj, zbe]) (by simp) ?_)
          simp (disch := omega)
          have ⟨h1, h2⟩ := @set_2 c.fSets k m hc7; rw [hS, hR, h1, h2]; exact ⟨by simp; omega, rfl, by simp⟩
       try simp [zba, zbb, zbf, zbd] at hc7
       refine AW_x rfl rfl fun K hK => ?_
       simp (disch := omega)
       repeat' first | (exfalso; omega) | (refine ⟨fun _ => ?_, fun _ => ?_⟩) | (refine ⟨by omega, ?_⟩) | (simp (disch := omega)) | (intro _)
       all_goals (refine hK _ ?_; clear hK K)
       all_goals
        refine zbl rfl (fun hc8 => ?_) (fun hc8 => ?_)
        ·try simp [zba, zbb, zbf, zbd] at hc8
         all_goals
          refine zz3 rfl mix (by kernel_rfl) (by kernel_rfl) fun K hK => ?_
          simp (disch := omega)
          repeat' first | (exfalso; omega) | (refine zhm [192] true [] (commitX c.fSets (by omega) k hk (hb2 k hk) m hch) ?_ (fun st' hst => ?_) ?_; (focus (simp [List.range_succ, nmC]; done)); (focus (simp (disch := omega) [nmC, List.range_succ] at hst; simp (disch := omega) [hst, zbp, nmC, List.range_succ]; done)); simp (disch := omega)) | (refine ⟨fun _ => ?_, fun _ => ?_⟩) | (refine ⟨by omega, ?_⟩) | (simp (disch := omega)) | (intro _)
          all_goals (refine hK _ _ (by kernel_rfl) ?_; clear hK K)
          all_goals
           refine zbq ?_
           refine AW_x rfl rfl fun K hK => ?_
           simp (disch := omega)
           repeat' first | (refine ⟨by omega, ?_⟩) | (simp (disch := omega)) | (intro _)
           refine hK _ ?_; clear hK K
           refine zbo (zcc [192] [] (by simp [List.range_succ, zbc, zbj, zbe]) (by simp) ?_)
           simp (disch := omega)
           have ⟨h1, h2⟩ := zwz hk hc8; rw [hS, hR, h1, h2]; exact ⟨by simp, rfl, by simp⟩
        try simp [zba, zbb, zbf, zbd] at hc8
        refine AW_x rfl rfl fun K hK => ?_
        simp (disch := omega)
        repeat' first | (exfalso; omega) | (refine ⟨fun _ => ?_, fun _ => ?_⟩) | (refine ⟨by omega, ?_⟩) | (simp (disch := omega)) | (intro _)
        all_goals (refine hK _ ?_; clear hK K)
        all_goals
         refine zbl rfl (fun hc9 => ?_) (fun hc9 => ?_)
         ·try simp [zba, zbb, zbf, zbd] at hc9
          all_goals
           refine zz3 rfl mix (by kernel_rfl) (by kernel_rfl) fun K hK => ?_
           simp (disch := omega)
           repeat' first | (exfalso; omega) | (refine zhm [192] true [] (tagX c.fSets (by omega) k hk (hb2 k hk) m hch) ?_ (fun st' hst => ?_) ?_; (focus (simp [List.range_succ, nmC]; done)); (focus (simp (disch := omega) [nmC, List.range_succ] at hst; simp (disch := omega) [hst, zbp, nmC, List.range_succ]; done)); simp (disch := omega)) | (refine ⟨fun _ => ?_, fun _ => ?_⟩) | (refine ⟨by omega, ?_⟩) | (simp (disch := omega)) | (intro _)
           all_goals (refine hK _ _ (by kernel_rfl) ?_; clear hK K)
           all_goals
            refine zbq ?_
            refine AW_x rfl rfl fun K hK => ?_
            simp (disch := omega)
            repeat' first | (refine ⟨by omega, ?_⟩) | (simp (disch := omega)) | (intro _)
            refine hK _ ?_; clear hK K
            refine zbo (zcc [192] [] (by simp [List.range_succ, zbc, zbj, zbe]) (by simp) ?_)
            simp (disch := omega)
            have ⟨h1, h2⟩ := set_4 hk hc9; rw [hS, hR, h1, h2]; exact ⟨by simp, rfl, by simp⟩
         try simp [zba, zbb, zbf, zbd] at hc9
         refine AW_x rfl rfl fun K hK => ?_
         simp (disch := omega)
         repeat' first | (exfalso; omega) | (refine ⟨fun _ => ?_, fun _ => ?_⟩) | (refine ⟨by omega, ?_⟩) | (simp (disch := omega)) | (intro _)
         all_goals (refine hK _ ?_; clear hK K)
         all_goals
          refine zbl rfl (fun hc10 => ?_) (fun hc10 => ?_)
          ·try simp [zba, zbb, zbf, zbd] at hc10
           all_goals
            have hN : 0 ≤ m.fN ∧ m.fN ≤ 1048576 := by have := hc2; clear hS hR; simp only [CmdP] at this; by_cases h0 : m.fN = 0 <;> grind
            refine zz3 rfl mix (by kernel_rfl) (by kernel_rfl) fun K hK => ?_
            simp (disch := omega)
            repeat' first | (exfalso; omega) | (refine zhm [192] true [] (pruneX c.fSets (by omega) k hk (hb2 k hk) m.fN hN) ?_ (fun st' hst => ?_) ?_; (focus (simp [List.range_succ, nmC]; done)); (focus (simp (disch := omega) [nmC, List.range_succ] at hst; simp (disch := omega) [hst, zbp, nmC, List.range_succ]; done)); simp (disch := omega)) | (refine ⟨fun _ => ?_, fun _ => ?_⟩) | (refine ⟨by omega, ?_⟩) | (simp (disch := omega)) | (intro _)
            all_goals (refine hK _ _ (by kernel_rfl) ?_; clear hK K)
            all_goals
             refine zbq ?_
             refine AW_x rfl rfl fun K hK => ?_
             simp (disch := omega)
             repeat' first | (refine ⟨by omega, ?_⟩) | (simp (disch := omega)) | (intro _)
             refine hK _ ?_; clear hK K
             refine zbo (zcc [192] [] (by simp [List.range_succ, zbc, zbj, zbe]) (by simp) ?_)
             simp (disch := omega)
             have ⟨h1, h2⟩ := set_5 hk hc10; rw [hS, hR, h1, h2]; exact ⟨by simp, rfl, by simp⟩
          try simp [zba, zbb, zbf, zbd] at hc10
          refine zcr rfl rfl fun K hK => ?_
          simp (disch := omega)
          repeat' first | (exfalso; omega) | (refine zdm [192] true [] (toldX c.fSets (by omega) k hk (hb2 k hk) (hb4 k hk)) ?_ ?_ ?_; (focus (simp [List.range_succ, nmC]; done)); (focus (simp (disch := omega) [zbp]; done)); simp (disch := omega)) | (refine ⟨fun _ => ?_, fun _ => ?_⟩) | (refine ⟨by omega, ?_⟩) | (simp (disch := omega)) | (intro _)
          all_goals (refine hK _ ?_; clear hK K)
          all_goals
           refine zbq ?_
           refine AW_x rfl rfl fun K hK => ?_
           simp (disch := omega)
           repeat' first | (refine ⟨by omega, ?_⟩) | (simp (disch := omega)) | (intro _)
           refine hK _ ?_; clear hK K
           refine zbo (zcc [192] [] (by simp [List.range_succ, zbc, zbj, zbe]) (by simp) ?_)
           simp (disch := omega)
           have ⟨h1, h2⟩ := set_6 hk hc7 hc8 hc9 hc10; rw [hS, hR, h1, h2]; exact ⟨rfl, rfl, rfl⟩
end Go.Proofs.YtmheohnbkaoipaaGreat.Vs
