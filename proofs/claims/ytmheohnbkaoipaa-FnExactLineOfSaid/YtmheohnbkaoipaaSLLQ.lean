import Derived.Test.YtmheohnbkaoipaaSFjQ
open Go Go.Proofs Go.Proofs.Ytmheohnbkaoipaa.Vs
namespace Go.Proofs.Ytmheohnbkaoipaa.Vs
set_option linter.all false
set_option linter.unusedSimpArgs false
set_option linter.unusedVariables false
set_option maxRecDepth 100000
set_option maxHeartbeats 4000000
attribute [local simp] zb3
theorem zxf (l : List DtCall) (hw : wfS DtCall.wf l) : XCall Try.prog 7 [.sl 11 (l.map DtCall.cells)] [] (.g (.bool (true))) [] [] := by
 have hq := zdp DtCall.sz_nonneg l
 by_cases h : (1048576 : Int) - szS DtCall.sz l < 0
 ·have e : szR 1048576 (szS DtCall.sz l) = -1 := by unfold szR; rw [if_pos h]
  refine zbx Try.func7 (by rfl) (by rfl) (by rw [Try.ntmps7]; exact Nat.le_of_ble_eq_true rfl) rfl (by simp) rfl rfl ?_
  rw [Try.ntmps7]
  refine zgg   ?_
  refine AW_k [(0, _)] ⟨rfl, trivial⟩ ?_
  refine AW_x rfl rfl fun K hK => ?_
  simp (disch := omega) [e]
  repeat' first | (refine ⟨by omega, ?_⟩) | (intro _)
  refine hK _ ?_; clear hK K
  refine AW_x rfl rfl fun K hK => ?_
  simp (disch := omega) [e]
  repeat' first | (refine ⟨by omega, ?_⟩) | (intro _)
  refine hK _ ?_; clear hK K
  refine AW_x rfl rfl fun K hK => ?_
  simp (disch := omega) [e]
  repeat' first | (exfalso; omega) | (refine zdi (zbi zc0 (zbi zcs zbt)) (zpk _ _ (by omega) hw) rfl ?_; simp (disch := omega) [e]) | (refine zdj (zpk _ _ (by omega) hw) (by rfl) ?_ ?_; (focus (simp (disch := omega) [e, zbp]; done)); simp (disch := omega) [e]) | (refine ⟨by omega, ?_⟩) | (simp (disch := omega) [e]) | (intro _)
  refine hK _ ?_; clear hK K
  refine zbm ?_
  refine AW_x rfl rfl fun K hK => ?_
  simp (disch := omega) [e]
  repeat' first | (refine ⟨by omega, ?_⟩) | (intro _)
  refine hK _ ?_; clear hK K
  refine zbl rfl (fun hc1 => ?_) (fun hc1 => ?_)
  ·try simp [zba, zbb, zbf, zbd] at hc1
   all_goals
    refine AW_x rfl rfl fun K hK => ?_
    simp (disch := omega) [e]
    repeat' first | (exfalso; omega) | (refine ⟨fun _ => ?_, fun _ => ?_⟩) | (refine ⟨by omega, ?_⟩) | (simp (disch := omega) [e]) | (intro _)
    all_goals (refine hK _ ?_; clear hK K)
    all_goals
     refine zbo (zcb [] [] (by simp [List.range_succ, zbc, zbh, zbe]) (by simp) ?_)
     simp (disch := omega) [e]
     all_goals skip
  try simp [zba, zbb, zbf, zbd] at hc1
 ·have e : szR 1048576 (szS DtCall.sz l) = 1048576 - szS DtCall.sz l := by unfold szR; rw [if_neg h]
  have e0 : (0 : Int) ≤ 1048576 - szS DtCall.sz l := by omega
  have hsl : szS DtCall.sz l ≤ 1048576 := by omega
  have hn : l.length ≤ 1048576 := by have := zgt DtCall.sz_nonneg l; omega
  have hcm := cnt_sz zw7 l
  have hcmn := zta zna l
  have hrl := linI_len l hn
  have hml : (mkL id 1 (optL (linI l)).length).length = (optL (linI l)).length := zdz _ _ _
  refine zbx Try.func7 (by rfl) (by rfl) (by rw [Try.ntmps7]; exact Nat.le_of_ble_eq_true rfl) rfl (by simp) rfl rfl ?_
  rw [Try.ntmps7]
  refine zgg   ?_
  refine AW_k [(0, _)] ⟨rfl, trivial⟩ ?_
  refine AW_x rfl rfl fun K hK => ?_
  simp (disch := omega) [e, e0, hml, hrl]
  repeat' first | (exfalso; omega) | (refine ⟨fun _ => ?_, fun _ => ?_⟩) | (refine ⟨by omega, ?_⟩) | (simp (disch := omega) [e, e0, hml, hrl]) | (intro _)
  all_goals (refine hK _ ?_; clear hK K)
  all_goals
   refine AW_x rfl rfl fun K hK => ?_
   simp (disch := omega) [e, e0, hml, hrl]
   repeat' first | (refine ⟨by omega, ?_⟩) | (intro _)
   refine hK _ ?_; clear hK K
   refine AW_x rfl rfl fun K hK => ?_
   simp (disch := omega) [e, e0, hml, hrl]
   repeat' first | (exfalso; omega) | (refine zdi (zbi zc0 (zbi zcs zbt)) (zpk _ _ (by omega) hw) rfl ?_; simp (disch := omega) [e, e0, hml, hrl]) | (refine zdj (zpk _ _ (by omega) hw) (by rfl) ?_ ?_; (focus (simp (disch := omega) [e, e0, hml, hrl, zbp]; done)); simp (disch := omega) [e, e0, hml, hrl]) | (refine ⟨by omega, ?_⟩) | (simp (disch := omega) [e, e0, hml, hrl]) | (intro _)
   refine hK _ ?_; clear hK K
   refine zbm ?_
   refine AW_x rfl rfl fun K hK => ?_
   simp (disch := omega) [e, e0, hml, hrl]
   repeat' first | (refine ⟨by omega, ?_⟩) | (intro _)
   refine hK _ ?_; clear hK K
   refine zbl rfl (fun hc2 => ?_) (fun hc2 => ?_)
   ·try simp [zba, zbb, zbf, zbd] at hc2
    all_goals
     refine AW_x rfl rfl fun K hK => ?_
     simp (disch := omega) [e, e0, hml, hrl]
     repeat' first | (exfalso; omega) | (refine ⟨fun _ => ?_, fun _ => ?_⟩) | (refine ⟨by omega, ?_⟩) | (simp (disch := omega) [e, e0, hml, hrl]) | (intro _)
     all_goals (refine hK _ ?_; clear hK K)
     all_goals
      refine zbo (zcb [] [] (by simp [List.range_succ, zbc, zbh, zbe]) (by simp) ?_)
      simp (disch := omega) [e, e0, hml, hrl]
      all_goals skip
   try simp [zba, zbb, zbf, zbd] at hc2
   refine zbn ?_
   refine zbq ?_
   refine AW_x rfl rfl fun K hK => ?_
   simp (disch := omega) [e, e0, hml, hrl]
   repeat' first | (exfalso; omega) | (refine zdl [] true [] (zkg l (by omega)) ?_ ?_ ?_; (focus (simp [List.range_succ, nmC]; done)); (focus (simp (disch := omega) [e, e0, hml, hrl, zbp]; done)); simp (disch := omega) [e, e0, hml, hrl]) | (refine zdl [] true [] (zxe l hsl) ?_ ?_ ?_; (focus (simp [List.range_succ, nmC]; done)); (focus (simp (disch := omega) [e, e0, hml, hrl, zbp]; done)); simp (disch := omega) [e, e0, hml, hrl]) | (refine ⟨fun _ => ?_, fun _ => ?_⟩) | (refine ⟨by omega, ?_⟩) | (simp (disch := omega) [e, e0, hml, hrl]) | (intro _)
   all_goals (refine hK _ ?_; clear hK K)
   all_goals
    refine AW_x rfl rfl fun K hK => ?_
    simp (disch := omega) [e, e0, hml, hrl]
    repeat' first | (exfalso; omega) | (refine zdl [] true [] (zkg l (by omega)) ?_ ?_ ?_; (focus (simp [List.range_succ, nmC]; done)); (focus (simp (disch := omega) [e, e0, hml, hrl, zbp]; done)); simp (disch := omega) [e, e0, hml, hrl]) | (refine ⟨by omega, ?_⟩) | (simp (disch := omega) [e, e0, hml, hrl]) | (intro _)
    refine hK _ ?_; clear hK K
    refine AW_x rfl rfl fun K hK => ?_
    simp (disch := omega) [e, e0, hml, hrl]
    repeat' first | (exfalso; omega) | (refine zdl [] true [] (znn l hsl) ?_ ?_ ?_; (focus (simp [List.range_succ, nmC]; done)); (focus (simp (disch := omega) [e, e0, hml, hrl, zbp]; done)); simp (disch := omega) [e, e0, hml, hrl]) | (refine ⟨by omega, ?_⟩) | (simp (disch := omega) [e, e0, hml, hrl]) | (intro _)
    refine hK _ ?_; clear hK K
    refine zbm ?_
    refine AW_x rfl rfl fun K hK => ?_
    simp (disch := omega) [e, e0, hml, hrl]
    repeat' first | (exfalso; omega) | (refine zdi (zbi zc0 (zbi zc0 zbt)) (zm9 (optL (linI l)) (optL (linI l)) (by omega)) rfl ?_; simp (disch := omega) [e, e0, hml, hrl]) | (refine zdj (zm9 (optL (linI l)) (optL (linI l)) (by omega)) (by rfl) ?_ ?_; (focus (simp (disch := omega) [e, e0, hml, hrl, zbp]; done)); simp (disch := omega) [e, e0, hml, hrl]) | (refine ⟨fun _ => ?_, fun _ => ?_⟩) | (refine ⟨by omega, ?_⟩) | (simp (disch := omega) [e, e0, hml, hrl]) | (intro _)
    all_goals (refine hK _ ?_; clear hK K)
    all_goals
     refine zbl rfl (fun hc3 => ?_) (fun hc3 => ?_)
     ·try simp [zba, zbb, zbf, zbd] at hc3
      all_goals
       refine AW_x rfl rfl fun K hK => ?_
       simp (disch := omega) [e, e0, hml, hrl]
       repeat' first | (exfalso; omega) | (refine ⟨fun _ => ?_, fun _ => ?_⟩) | (refine ⟨by omega, ?_⟩) | (simp (disch := omega) [e, e0, hml, hrl]) | (intro _)
       all_goals (refine hK _ ?_; clear hK K)
       all_goals
        refine zbo (zcb [] [] (by simp [List.range_succ, zbc, zbh, zbe]) (by simp) ?_)
        simp (disch := omega) [e, e0, hml, hrl]
        all_goals skip
     try simp [zba, zbb, zbf, zbd] at hc3
     refine zbn ?_
     refine zbq ?_
     refine zbm ?_
     refine AW_x rfl rfl fun K hK => ?_
     simp (disch := omega) [e, e0, hml, hrl]
     repeat' first | (exfalso; omega) | (refine zdl [] true [] (zkg l (by omega)) ?_ ?_ ?_; (focus (simp [List.range_succ, nmC]; done)); (focus (simp (disch := omega) [e, e0, hml, hrl, zbp]; done)); simp (disch := omega) [e, e0, hml, hrl]) | (refine zdi (zbi zc0 (zbi zc0 zbt)) (eqCallS l l (by omega)) rfl ?_; simp (disch := omega) [e, e0, hml, hrl]) | (refine zdj (eqCallS l l (by omega)) (by rfl) ?_ ?_; (focus (simp (disch := omega) [e, e0, hml, hrl, zbp]; done)); simp (disch := omega) [e, e0, hml, hrl]) | (refine ⟨fun _ => ?_, fun _ => ?_⟩) | (refine ⟨by omega, ?_⟩) | (simp (disch := omega) [e, e0, hml, hrl]) | (intro _)
     all_goals (refine hK _ ?_; clear hK K)
     all_goals
      refine zbl rfl (fun hc4 => ?_) (fun hc4 => ?_)
      ·try simp [zba, zbb, zbf, zbd] at hc4
       all_goals
        refine AW_x rfl rfl fun K hK => ?_
        simp (disch := omega) [e, e0, hml, hrl]
        repeat' first | (exfalso; omega) | (refine ⟨fun _ => ?_, fun _ => ?_⟩) | (refine ⟨by omega, ?_⟩) | (simp (disch := omega) [e, e0, hml, hrl]) | (intro _)
        all_goals (refine hK _ ?_; clear hK K)
        all_goals
         refine zbo (zcb [] [] (by simp [List.range_succ, zbc, zbh, zbe]) (by simp) ?_)
         simp (disch := omega) [e, e0, hml, hrl]
         all_goals skip
      try simp [zba, zbb, zbf, zbd] at hc4
      refine zbn ?_
      refine zbq ?_
      refine AW_x rfl rfl fun K hK => ?_
      simp (disch := omega) [e, e0, hml, hrl]
      repeat' first | (exfalso; omega) | (refine ⟨fun _ => ?_, fun _ => ?_⟩) | (refine ⟨by omega, ?_⟩) | (simp (disch := omega) [e, e0, hml, hrl]) | (intro _)
      all_goals (refine hK _ ?_; clear hK K)
      all_goals
       refine AW_x rfl rfl fun K hK => ?_
       simp (disch := omega) [e, e0, hml, hrl]
       repeat' first | (exfalso; omega) | (refine zdl [432] true [] (markCallS l 1 (by omega) (by omega)) ?_ ?_ ?_; (focus (simp [List.range_succ, nmC]; done)); (focus (simp (disch := omega) [e, e0, hml, hrl, zbp]; done)); simp (disch := omega) [e, e0, hml, hrl]) | (refine ⟨by omega, ?_⟩) | (simp (disch := omega) [e, e0, hml, hrl]) | (intro _)
       refine hK _ ?_; clear hK K
       refine zbm ?_
       refine AW_x rfl rfl fun K hK => ?_
       simp (disch := omega) [e, e0, hml, hrl]
       repeat' first | (exfalso; omega) | (refine zdi (zbi zc0 (zbi zc0 zbt)) (zm9 (optL (linI l)) (optL (linI l)) (by omega)) rfl ?_; simp (disch := omega) [e, e0, hml, hrl]) | (refine zdj (zm9 (optL (linI l)) (optL (linI l)) (by omega)) (by rfl) ?_ ?_; (focus (simp (disch := omega) [e, e0, hml, hrl, zbp]; done)); simp (disch := omega) [e, e0, hml, hrl]) | (refine ⟨fun _ => ?_, fun _ => ?_⟩) | (refine ⟨by omega, ?_⟩) | (simp (disch := omega) [e, e0, hml, hrl]) | (intro _)
       all_goals (refine hK _ ?_; clear hK K)
       all_goals
        refine zbl rfl (fun hc5 => ?_) (fun hc5 => ?_)
        ·try simp [zba, zbb, zbf, zbd] at hc5
         all_goals
          refine AW_x rfl rfl fun K hK => ?_
          simp (disch := omega) [e, e0, hml, hrl]
          repeat' first | (exfalso; omega) | (refine ⟨fun _ => ?_, fun _ => ?_⟩) | (refine ⟨by omega, ?_⟩) | (simp (disch := omega) [e, e0, hml, hrl]) | (intro _)
          all_goals (refine hK _ ?_; clear hK K)
          all_goals
           refine zbo (zcb [] [] (by simp [List.range_succ, zbc, zbh, zbe]) (by simp) ?_)
           simp (disch := omega) [e, e0, hml, hrl]
           all_goals skip
        try simp [zba, zbb, zbf, zbd] at hc5
        refine zbn ?_
        refine zbq ?_
        refine AW_x rfl rfl fun K hK => ?_
        simp (disch := omega) [e, e0, hml, hrl]
        repeat' first | (exfalso; omega) | (refine ⟨fun _ => ?_, fun _ => ?_⟩) | (refine ⟨by omega, ?_⟩) | (simp (disch := omega) [e, e0, hml, hrl]) | (intro _)
        all_goals (refine hK _ ?_; clear hK K)
        all_goals
         refine AW_x rfl rfl fun K hK => ?_
         simp (disch := omega) [e, e0, hml, hrl]
         repeat' first | (exfalso; omega) | (refine zdl [480] true [] (markIntS (optL (linI l)) 1 (by omega) (by omega)) ?_ ?_ ?_; (focus (simp [List.range_succ, nmC]; done)); (focus (simp (disch := omega) [e, e0, hml, hrl, zbp]; done)); simp (disch := omega) [e, e0, hml, hrl]) | (refine ⟨by omega, ?_⟩) | (simp (disch := omega) [e, e0, hml, hrl]) | (intro _)
         refine hK _ ?_; clear hK K
         refine AW_x rfl rfl fun K hK => ?_
         simp (disch := omega) [e, e0, hml, hrl]
         repeat' first | (refine ⟨by omega, ?_⟩) | (intro _)
         refine hK _ ?_; clear hK K
         refine AW_x rfl rfl fun K hK => ?_
         simp (disch := omega) [e, e0, hml, hrl]
         repeat' first | (exfalso; omega) | (refine zdi (zbi zc0 (zbi zcs zbt)) (zkf (optL (linI l)).length 1 (by omega) (by omega)) rfl ?_; simp (disch := omega) [e, e0, hml, hrl]) | (refine zdj (zkf (optL (linI l)).length 1 (by omega) (by omega)) (by rfl) ?_ ?_; (focus (simp (disch := omega) [e, e0, hml, hrl, zbp]; done)); simp (disch := omega) [e, e0, hml, hrl]) | (refine ⟨by omega, ?_⟩) | (simp (disch := omega) [e, e0, hml, hrl]) | (intro _)
         refine hK _ ?_; clear hK K
         refine zbm ?_
         refine AW_x rfl rfl fun K hK => ?_
         simp (disch := omega) [e, e0, hml, hrl]
         repeat' first | (refine ⟨by omega, ?_⟩) | (intro _)
         refine hK _ ?_; clear hK K
         refine zbl rfl (fun hc6 => ?_) (fun hc6 => ?_)
         ·try simp [zba, zbb, zbf, zbd] at hc6
          all_goals
           refine AW_x rfl rfl fun K hK => ?_
           simp (disch := omega) [e, e0, hml, hrl]
           repeat' first | (exfalso; omega) | (refine ⟨fun _ => ?_, fun _ => ?_⟩) | (refine ⟨by omega, ?_⟩) | (simp (disch := omega) [e, e0, hml, hrl]) | (intro _)
           all_goals (refine hK _ ?_; clear hK K)
           all_goals
            refine zbo (zcb [] [] (by simp [List.range_succ, zbc, zbh, zbe]) (by simp) ?_)
            simp (disch := omega) [e, e0, hml, hrl]
            all_goals skip
         try simp [zba, zbb, zbf, zbd] at hc6
         refine zbn ?_
         refine zbq ?_
         refine zbm ?_
         refine AW_x rfl rfl fun K hK => ?_
         simp (disch := omega) [e, e0, hml, hrl]
         repeat' first | (exfalso; omega) | (refine ⟨fun _ => ?_, fun _ => ?_⟩) | (refine ⟨by omega, ?_⟩) | (simp (disch := omega) [e, e0, hml, hrl]) | (intro _)
         all_goals (refine hK _ ?_; clear hK K)
         all_goals
          refine zbl rfl (fun hc7 => ?_) (fun hc7 => ?_)
          ·try simp [zba, zbb, zbf, zbd] at hc7
           all_goals
            refine AW_x rfl rfl fun K hK => ?_
            simp (disch := omega) [e, e0, hml, hrl]
            repeat' first | (exfalso; omega) | (refine ⟨fun _ => ?_, fun _ => ?_⟩) | (refine ⟨by omega, ?_⟩) | (simp (disch := omega) [e, e0, hml, hrl]) | (intro _)
            all_goals (refine hK _ ?_; clear hK K)
            all_goals
             refine zbo (zcb [] [] (by simp [List.range_succ, zbc, zbh, zbe]) (by simp) ?_)
             simp (disch := omega) [e, e0, hml, hrl]
             all_goals skip
          try simp [zba, zbb, zbf, zbd] at hc7
          refine zbn ?_
          refine zbq ?_
          refine AW_x rfl rfl fun K hK => ?_
          simp (disch := omega) [e, e0, hml, hrl]
          repeat' first | (exfalso; omega) | (refine zdl [] true [] (zkg l (by omega)) ?_ ?_ ?_; (focus (simp [List.range_succ, nmC]; done)); (focus (simp (disch := omega) [e, e0, hml, hrl, zbp]; done)); simp (disch := omega) [e, e0, hml, hrl]) | (refine zdl [] true [] (znn l hsl) ?_ ?_ ?_; (focus (simp [List.range_succ, nmC]; done)); (focus (simp (disch := omega) [e, e0, hml, hrl, zbp]; done)); simp (disch := omega) [e, e0, hml, hrl]) | (refine ⟨fun _ => ?_, fun _ => ?_⟩) | (refine ⟨by omega, ?_⟩) | (simp (disch := omega) [e, e0, hml, hrl]) | (intro _)
          all_goals (refine hK _ ?_; clear hK K)
          all_goals
           refine zbm ?_
           refine AW_x rfl rfl fun K hK => ?_
           simp (disch := omega) [e, e0, hml, hrl]
           repeat' first | (exfalso; omega) | (refine zdi (zbi zc0 (zbi zc0 zbt)) (zm9 (optL (linI l)) (optL (linI l)) (by omega)) rfl ?_; simp (disch := omega) [e, e0, hml, hrl]) | (refine zdj (zm9 (optL (linI l)) (optL (linI l)) (by omega)) (by rfl) ?_ ?_; (focus (simp (disch := omega) [e, e0, hml, hrl, zbp]; done)); simp (disch := omega) [e, e0, hml, hrl]) | (refine ⟨fun _ => ?_, fun _ => ?_⟩) | (refine ⟨by omega, ?_⟩) | (simp (disch := omega) [e, e0, hml, hrl]) | (intro _)
           all_goals (refine hK _ ?_; clear hK K)
           all_goals
            refine zbl rfl (fun hc8 => ?_) (fun hc8 => ?_)
            ·try simp [zba, zbb, zbf, zbd] at hc8
             all_goals
              refine AW_x rfl rfl fun K hK => ?_
              simp (disch := omega) [e, e0, hml, hrl]
              repeat' first | (exfalso; omega) | (refine ⟨fun _ => ?_, fun _ => ?_⟩) | (refine ⟨by omega, ?_⟩) | (simp (disch := omega) [e, e0, hml, hrl]) | (intro _)
              all_goals (refine hK _ ?_; clear hK K)
              all_goals
               refine zbo (zcb [] [] (by simp [List.range_succ, zbc, zbh, zbe]) (by simp) ?_)
               simp (disch := omega) [e, e0, hml, hrl]
               all_goals skip
            try simp [zba, zbb, zbf, zbd] at hc8
            refine zbn ?_
            refine zbq ?_
            refine AW_x rfl rfl fun K hK => ?_
            simp (disch := omega) [e, e0, hml, hrl]
            repeat' first | (exfalso; omega) | (refine ⟨fun _ => ?_, fun _ => ?_⟩) | (refine ⟨by omega, ?_⟩) | (simp (disch := omega) [e, e0, hml, hrl]) | (intro _)
            all_goals (refine hK _ ?_; clear hK K)
            all_goals
             refine AW_x rfl rfl fun K hK => ?_
             simp (disch := omega) [e, e0, hml, hrl]
             repeat' first | (exfalso; omega) | (refine zdi (zbi zc0 (zbi zcs zbt)) (zkf (optL (linI l)).length 1 (by omega) (by omega)) rfl ?_; simp (disch := omega) [e, e0, hml, hrl]) | (refine zdj (zkf (optL (linI l)).length 1 (by omega) (by omega)) (by rfl) ?_ ?_; (focus (simp (disch := omega) [e, e0, hml, hrl, zbp]; done)); simp (disch := omega) [e, e0, hml, hrl]) | (refine ⟨by omega, ?_⟩) | (simp (disch := omega) [e, e0, hml, hrl]) | (intro _)
             refine hK _ ?_; clear hK K
             refine zbm ?_
             refine AW_x rfl rfl fun K hK => ?_
             simp (disch := omega) [e, e0, hml, hrl]
             repeat' first | (refine ⟨by omega, ?_⟩) | (intro _)
             refine hK _ ?_; clear hK K
             refine zbl rfl (fun hc9 => ?_) (fun hc9 => ?_)
             ·try simp [zba, zbb, zbf, zbd] at hc9
              all_goals
               refine AW_x rfl rfl fun K hK => ?_
               simp (disch := omega) [e, e0, hml, hrl]
               repeat' first | (exfalso; omega) | (refine ⟨fun _ => ?_, fun _ => ?_⟩) | (refine ⟨by omega, ?_⟩) | (simp (disch := omega) [e, e0, hml, hrl]) | (intro _)
               all_goals (refine hK _ ?_; clear hK K)
               all_goals
                refine zbo (zcb [] [] (by simp [List.range_succ, zbc, zbh, zbe]) (by simp) ?_)
                simp (disch := omega) [e, e0, hml, hrl]
                all_goals skip
             try simp [zba, zbb, zbf, zbd] at hc9
             refine zbn ?_
             refine zbq ?_
             refine zbm ?_
             refine AW_x rfl rfl fun K hK => ?_
             simp (disch := omega) [e, e0, hml, hrl]
             repeat' first | (exfalso; omega) | (refine ⟨fun _ => ?_, fun _ => ?_⟩) | (refine ⟨by omega, ?_⟩) | (simp (disch := omega) [e, e0, hml, hrl]) | (intro _)
             all_goals (refine hK _ ?_; clear hK K)
             all_goals
              refine zbl rfl (fun hc10 => ?_) (fun hc10 => ?_)
              ·try simp [zba, zbb, zbf, zbd] at hc10
               all_goals
                refine AW_x rfl rfl fun K hK => ?_
                simp (disch := omega) [e, e0, hml, hrl]
                repeat' first | (exfalso; omega) | (refine ⟨fun _ => ?_, fun _ => ?_⟩) | (refine ⟨by omega, ?_⟩) | (simp (disch := omega) [e, e0, hml, hrl]) | (intro _)
                all_goals (refine hK _ ?_; clear hK K)
                all_goals
                 refine zbo (zcb [] [] (by simp [List.range_succ, zbc, zbh, zbe]) (by simp) ?_)
                 simp (disch := omega) [e, e0, hml, hrl]
                 all_goals skip
              try simp [zba, zbb, zbf, zbd] at hc10
              refine zbn ?_
              refine zbq ?_
              refine AW_x rfl rfl fun K hK => ?_
              simp (disch := omega) [e, e0, hml, hrl]
              repeat' first | (exfalso; omega) | (refine ⟨fun _ => ?_, fun _ => ?_⟩) | (refine ⟨by omega, ?_⟩) | (simp (disch := omega) [e, e0, hml, hrl]) | (intro _)
              all_goals (refine hK _ ?_; clear hK K)
              all_goals
               refine zbo (zcb [] [] (by simp [List.range_succ, zbc, zbh, zbe]) (by simp) ?_)
               simp (disch := omega) [e, e0, hml, hrl]
               all_goals skip
theorem lawLineOf (l : List DtCall) (hw : wfS DtCall.wf l) : PCall Try.prog 7 [.sl 11 (l.map DtCall.cells)] (.g (.bool (true))) := zww (zxf l hw)
end Go.Proofs.Ytmheohnbkaoipaa.Vs
