import Derived.Test.YtfbmhgiokfpgiaaGreatSPjQ
import Derived.Test.YtfbmhgiokfpgiaaGreatSPkV
open Go Go.Proofs Go.Proofs.YtfbmhgiokfpgiaaGreat.Vs
namespace Go.Proofs.YtfbmhgiokfpgiaaGreat.Vs
set_option linter.all false
set_option linter.unusedSimpArgs false
set_option linter.unusedVariables false
set_option maxRecDepth 100000
set_option maxHeartbeats 4000000
theorem zkh {l : List DtInst} (hs : szS DtInst.sz l ≤ 1048576) : ∀ x ∈ l, InstSm x := by
 intro x hx
 have h1 := zdp DtInst.sz_nonneg l x hx
 have h2 := zct DtInst.sz_nonneg l
 have hx2 : DtInst.sz x ≤ 1048576 := by unfold szS at hs; omega
 obtain ⟨h3, h4⟩ := instSz x hx2
 have h5 := zfd zcp x.fCmd.fChunks
 exact ⟨by simp only [DtCmd.sz] at h3; omega, h4, h3⟩
theorem lawExecX (l : List DtInst) (hw : wfS DtInst.wf l) : XCall Tryz.prog 3 [.sl 16 (l.map DtInst.cells)] [] (.g (.bool (true))) [] [] := by
 have hq := zgn DtInst.sz_nonneg l
 by_cases h : (1048576 : Int) - szS DtInst.sz l < 0
 ·have e : szR 1048576 (szS DtInst.sz l) = -1 := by unfold szR; rw [if_pos h]
  refine zcg Tryz.func3 (by rfl) (by rfl) (by rw [Tryz.ntmps3]; exact Nat.le_of_ble_eq_true rfl) rfl (by simp) rfl rfl ?_
  rw [Tryz.ntmps3]
  refine zfb   ?_
  refine AW_k [(0, _)] ⟨rfl, trivial⟩ ?_
  refine AW_x rfl rfl fun K hK => ?_
  simp (disch := omega) [zbd, gE, tP, e]
  repeat' first | (refine ⟨by omega, ?_⟩) | (intro _)
  refine hK _ ?_; clear hK K
  refine AW_x rfl rfl fun K hK => ?_
  simp (disch := omega) [zbd, gE, tP, e]
  repeat' first | (refine ⟨by omega, ?_⟩) | (intro _)
  refine hK _ ?_; clear hK K
  refine AW_x rfl rfl fun K hK => ?_
  simp (disch := omega) [zbd, gE, tP, e]
  repeat' first | (exfalso; omega) | (refine zde (zbh zce (zbh zcx zbs)) (zp2 _ _ (by omega) hw) rfl ?_; simp (disch := omega) [zbd, gE, tP, e]) | (refine zdf (zp2 _ _ (by omega) hw) (by rfl) ?_ ?_; (focus (simp (disch := omega) [zbd, gE, tP, e, zba]; done)); simp (disch := omega) [zbd, gE, tP, e]) | (refine ⟨by omega, ?_⟩) | (simp (disch := omega) [zbd, gE, tP, e]) | (intro _)
  refine hK _ ?_; clear hK K
  refine zbr ?_
  refine AW_x rfl rfl fun K hK => ?_
  simp (disch := omega) [zbd, gE, tP, e]
  repeat' first | (refine ⟨by omega, ?_⟩) | (intro _)
  refine hK _ ?_; clear hK K
  refine zbu rfl (fun hc1 => ?_) (fun hc1 => ?_)
  ·try simp [zbc, zbb, zbg, zbf] at hc1
   all_goals
    refine AW_x rfl rfl fun K hK => ?_
    simp (disch := omega) [zbd, gE, tP, e]
    repeat' first | (exfalso; omega) | (refine ⟨fun _ => ?_, fun _ => ?_⟩) | (refine ⟨by omega, ?_⟩) | (simp (disch := omega) [zbd, gE, tP, e]) | (intro _)
    all_goals (refine hK _ ?_; clear hK K)
    all_goals
     refine zby (zdm [] [] (by simp [List.range_succ, zbi, zbp, zbl]) (by simp) ?_)
     simp (disch := omega) [zbd, gE, tP, e]
     all_goals skip
  ·try simp [zbc, zbb, zbg, zbf] at hc1
 ·have e : szR 1048576 (szS DtInst.sz l) = 1048576 - szS DtInst.sz l := by unfold szR; rw [if_neg h]
  have e0 : (0 : Int) ≤ 1048576 - szS DtInst.sz l := by omega
  have hsl : szS DtInst.sz l ≤ 1048576 := by omega
  have hn : l.length ≤ 1048576 := by have := zfd DtInst.sz_nonneg l; omega
  have hcm := cnt_sz zxk l
  have hcmn := zkf znv l
  have hsc : szS DtCmd.sz (cmA l) ≤ 1048576 := Int.le_trans (ordR_cmds l _) hsl
  have hcc := cnt_sz cntCmd_sz (cmA l)
  have hccn := zkf zmr (cmA l)
  have hml : (mkS mkCmd cntCmd 1 (cmA l)).length = (cmA l).length := zf6 _ _ _ _
  refine zcg Tryz.func3 (by rfl) (by rfl) (by rw [Tryz.ntmps3]; exact Nat.le_of_ble_eq_true rfl) rfl (by simp) rfl rfl ?_
  rw [Tryz.ntmps3]
  refine zfb   ?_
  refine AW_k [(0, _)] ⟨rfl, trivial⟩ ?_
  refine AW_x rfl rfl fun K hK => ?_
  simp (disch := omega) [zbd, gE, tP, e, e0, hml, zbe, and_assoc, zba]
  repeat' first | (exfalso; omega) | (refine ⟨fun _ => ?_, fun _ => ?_⟩) | (refine ⟨by omega, ?_⟩) | (simp (disch := omega) [zbd, gE, tP, e, e0, hml, zbe, and_assoc, zba]) | (intro _)
  all_goals (refine hK _ ?_; clear hK K)
  all_goals
   refine AW_x rfl rfl fun K hK => ?_
   simp (disch := omega) [zbd, gE, tP, e, e0, hml, zbe, and_assoc, zba]
   repeat' first | (refine ⟨by omega, ?_⟩) | (intro _)
   refine hK _ ?_; clear hK K
   refine AW_x rfl rfl fun K hK => ?_
   simp (disch := omega) [zbd, gE, tP, e, e0, hml, zbe, and_assoc, zba]
   repeat' first | (exfalso; omega) | (refine zde (zbh zce (zbh zcx zbs)) (zp2 _ _ (by omega) hw) rfl ?_; simp (disch := omega) [zbd, gE, tP, e, e0, hml, zbe, and_assoc, zba]) | (refine zdf (zp2 _ _ (by omega) hw) (by rfl) ?_ ?_; (focus (simp (disch := omega) [zbd, gE, tP, e, e0, hml, zbe, and_assoc, zba, zba]; done)); simp (disch := omega) [zbd, gE, tP, e, e0, hml, zbe, and_assoc, zba]) | (refine ⟨by omega, ?_⟩) | (simp (disch := omega) [zbd, gE, tP, e, e0, hml, zbe, and_assoc, zba]) | (intro _)
   refine hK _ ?_; clear hK K
   refine zbr ?_
   refine AW_x rfl rfl fun K hK => ?_
   simp (disch := omega) [zbd, gE, tP, e, e0, hml, zbe, and_assoc, zba]
   repeat' first | (refine ⟨by omega, ?_⟩) | (intro _)
   refine hK _ ?_; clear hK K
   refine zbu rfl (fun hc2 => ?_) (fun hc2 => ?_)
   ·try simp [zbc, zbb, zbg, zbf] at hc2
    all_goals
     refine AW_x rfl rfl fun K hK => ?_
     simp (disch := omega) [zbd, gE, tP, e, e0, hml, zbe, and_assoc, zba]
     repeat' first | (exfalso; omega) | (refine ⟨fun _ => ?_, fun _ => ?_⟩) | (refine ⟨by omega, ?_⟩) | (simp (disch := omega) [zbd, gE, tP, e, e0, hml, zbe, and_assoc, zba]) | (intro _)
     all_goals (refine hK _ ?_; clear hK K)
     all_goals
      refine zby (zdm [] [] (by simp [List.range_succ, zbi, zbp, zbl]) (by simp) ?_)
      simp (disch := omega) [zbd, gE, tP, e, e0, hml, zbe, and_assoc, zba]
      all_goals skip
   ·try simp [zbc, zbb, zbg, zbf] at hc2
    all_goals
     refine zbv ?_
     refine zb4 ?_
     refine AW_x rfl rfl fun K hK => ?_
     simp (disch := omega) [zbd, gE, tP, e, e0, hml, zbe, and_assoc, zba]
     repeat' first | (exfalso; omega) | (refine zfs [] true [] (zlh l (by omega)) ?_ ?_ ?_; (focus (simp [List.range_succ, nmC]; done)); (focus (simp (disch := omega) [zbd, gE, tP, e, e0, hml, zbe, and_assoc, zba, zba]; done)); simp (disch := omega) [zbd, gE, tP, e, e0, hml, zbe, and_assoc, zba]) | (refine zfs [] true [] (specExecX l hsl hn (zkh hsl)) ?_ ?_ ?_; (focus (simp [List.range_succ, nmC]; done)); (focus (simp (disch := omega) [zbd, gE, tP, e, e0, hml, zbe, and_assoc, zba, zba]; done)); simp (disch := omega) [zbd, gE, tP, e, e0, hml, zbe, and_assoc, zba]) | (refine ⟨fun _ => ?_, fun _ => ?_⟩) | (refine ⟨by omega, ?_⟩) | (simp (disch := omega) [zbd, gE, tP, e, e0, hml, zbe, and_assoc, zba]) | (intro _)
     all_goals (refine hK _ ?_; clear hK K)
     all_goals
      refine AW_x rfl rfl fun K hK => ?_
      simp (disch := omega) [zbd, gE, tP, e, e0, hml, zbe, and_assoc, zba]
      repeat' first | (exfalso; omega) | (refine zfs [] true [] (zlh l (by omega)) ?_ ?_ ?_; (focus (simp [List.range_succ, nmC]; done)); (focus (simp (disch := omega) [zbd, gE, tP, e, e0, hml, zbe, and_assoc, zba, zba]; done)); simp (disch := omega) [zbd, gE, tP, e, e0, hml, zbe, and_assoc, zba]) | (refine ⟨by omega, ?_⟩) | (simp (disch := omega) [zbd, gE, tP, e, e0, hml, zbe, and_assoc, zba]) | (intro _)
      refine hK _ ?_; clear hK K
      refine AW_x rfl rfl fun K hK => ?_
      simp (disch := omega) [zbd, gE, tP, e, e0, hml, zbe, and_assoc, zba]
      repeat' first | (exfalso; omega) | (refine zfs [] true [] (zr8 l hsl hn (zkh hsl)) ?_ ?_ ?_; (focus (simp [List.range_succ, nmC]; done)); (focus (simp (disch := omega) [zbd, gE, tP, e, e0, hml, zbe, and_assoc, zba, zba]; done)); simp (disch := omega) [zbd, gE, tP, e, e0, hml, zbe, and_assoc, zba]) | (refine ⟨by omega, ?_⟩) | (simp (disch := omega) [zbd, gE, tP, e, e0, hml, zbe, and_assoc, zba]) | (intro _)
      refine hK _ ?_; clear hK K
      refine zbr ?_
      refine AW_x rfl rfl fun K hK => ?_
      simp (disch := omega) [zbd, gE, tP, e, e0, hml, zbe, and_assoc, zba]
      repeat' first | (exfalso; omega) | (refine zde (zbh zce (zbh zce zbs)) (znt (cmA l) (cmA l) (by omega)) rfl ?_; simp (disch := omega) [zbd, gE, tP, e, e0, hml, zbe, and_assoc, zba]) | (refine zdf (znt (cmA l) (cmA l) (by omega)) (by rfl) ?_ ?_; (focus (simp (disch := omega) [zbd, gE, tP, e, e0, hml, zbe, and_assoc, zba, zba]; done)); simp (disch := omega) [zbd, gE, tP, e, e0, hml, zbe, and_assoc, zba]) | (refine ⟨by omega, ?_⟩) | (simp (disch := omega) [zbd, gE, tP, e, e0, hml, zbe, and_assoc, zba]) | (intro _)
      refine hK _ ?_; clear hK K
      refine zbu rfl (fun hc3 => ?_) (fun hc3 => ?_)
      ·try simp [zbc, zbb, zbg, zbf] at hc3
       all_goals
        refine AW_x rfl rfl fun K hK => ?_
        simp (disch := omega) [zbd, gE, tP, e, e0, hml, zbe, and_assoc, zba]
        repeat' first | (exfalso; omega) | (refine ⟨fun _ => ?_, fun _ => ?_⟩) | (refine ⟨by omega, ?_⟩) | (simp (disch := omega) [zbd, gE, tP, e, e0, hml, zbe, and_assoc, zba]) | (intro _)
        all_goals (refine hK _ ?_; clear hK K)
        all_goals
         refine zby (zdm [] [] (by simp [List.range_succ, zbi, zbp, zbl]) (by simp) ?_)
         simp (disch := omega) [zbd, gE, tP, e, e0, hml, zbe, and_assoc, zba]
         all_goals skip
      ·try simp [zbc, zbb, zbg, zbf] at hc3
       all_goals
        refine zbv ?_
        refine zb4 ?_
        refine zbr ?_
        refine AW_x rfl rfl fun K hK => ?_
        simp (disch := omega) [zbd, gE, tP, e, e0, hml, zbe, and_assoc, zba]
        repeat' first | (exfalso; omega) | (refine zfs [] true [] (zlh l (by omega)) ?_ ?_ ?_; (focus (simp [List.range_succ, nmC]; done)); (focus (simp (disch := omega) [zbd, gE, tP, e, e0, hml, zbe, and_assoc, zba, zba]; done)); simp (disch := omega) [zbd, gE, tP, e, e0, hml, zbe, and_assoc, zba]) | (refine zde (zbh zce (zbh zce zbs)) (eqInstS l l (by omega)) rfl ?_; simp (disch := omega) [zbd, gE, tP, e, e0, hml, zbe, and_assoc, zba]) | (refine zdf (eqInstS l l (by omega)) (by rfl) ?_ ?_; (focus (simp (disch := omega) [zbd, gE, tP, e, e0, hml, zbe, and_assoc, zba, zba]; done)); simp (disch := omega) [zbd, gE, tP, e, e0, hml, zbe, and_assoc, zba]) | (refine ⟨fun _ => ?_, fun _ => ?_⟩) | (refine ⟨by omega, ?_⟩) | (simp (disch := omega) [zbd, gE, tP, e, e0, hml, zbe, and_assoc, zba]) | (intro _)
        all_goals (refine hK _ ?_; clear hK K)
        all_goals
         refine zbu rfl (fun hc4 => ?_) (fun hc4 => ?_)
         ·try simp [zbc, zbb, zbg, zbf] at hc4
          all_goals
           refine AW_x rfl rfl fun K hK => ?_
           simp (disch := omega) [zbd, gE, tP, e, e0, hml, zbe, and_assoc, zba]
           repeat' first | (exfalso; omega) | (refine ⟨fun _ => ?_, fun _ => ?_⟩) | (refine ⟨by omega, ?_⟩) | (simp (disch := omega) [zbd, gE, tP, e, e0, hml, zbe, and_assoc, zba]) | (intro _)
           all_goals (refine hK _ ?_; clear hK K)
           all_goals
            refine zby (zdm [] [] (by simp [List.range_succ, zbi, zbp, zbl]) (by simp) ?_)
            simp (disch := omega) [zbd, gE, tP, e, e0, hml, zbe, and_assoc, zba]
            all_goals skip
         ·try simp [zbc, zbb, zbg, zbf] at hc4
          all_goals
           refine zbv ?_
           refine zb4 ?_
           refine AW_x rfl rfl fun K hK => ?_
           simp (disch := omega) [zbd, gE, tP, e, e0, hml, zbe, and_assoc, zba]
           repeat' first | (exfalso; omega) | (refine ⟨fun _ => ?_, fun _ => ?_⟩) | (refine ⟨by omega, ?_⟩) | (simp (disch := omega) [zbd, gE, tP, e, e0, hml, zbe, and_assoc, zba]) | (intro _)
           all_goals (refine hK _ ?_; clear hK K)
           all_goals
            refine AW_x rfl rfl fun K hK => ?_
            simp (disch := omega) [zbd, gE, tP, e, e0, hml, zbe, and_assoc, zba]
            repeat' first | (exfalso; omega) | (refine zfs [336] true [] (markInstS l 1 (by omega) (by omega)) ?_ ?_ ?_; (focus (simp [List.range_succ, nmC]; done)); (focus (simp (disch := omega) [zbd, gE, tP, e, e0, hml, zbe, and_assoc, zba, zba]; done)); simp (disch := omega) [zbd, gE, tP, e, e0, hml, zbe, and_assoc, zba]) | (refine ⟨by omega, ?_⟩) | (simp (disch := omega) [zbd, gE, tP, e, e0, hml, zbe, and_assoc, zba]) | (intro _)
            refine hK _ ?_; clear hK K
            refine zbr ?_
            refine AW_x rfl rfl fun K hK => ?_
            simp (disch := omega) [zbd, gE, tP, e, e0, hml, zbe, and_assoc, zba]
            repeat' first | (exfalso; omega) | (refine zde (zbh zce (zbh zce zbs)) (znt (cmA l) (cmA l) (by omega)) rfl ?_; simp (disch := omega) [zbd, gE, tP, e, e0, hml, zbe, and_assoc, zba]) | (refine zdf (znt (cmA l) (cmA l) (by omega)) (by rfl) ?_ ?_; (focus (simp (disch := omega) [zbd, gE, tP, e, e0, hml, zbe, and_assoc, zba, zba]; done)); simp (disch := omega) [zbd, gE, tP, e, e0, hml, zbe, and_assoc, zba]) | (refine ⟨fun _ => ?_, fun _ => ?_⟩) | (refine ⟨by omega, ?_⟩) | (simp (disch := omega) [zbd, gE, tP, e, e0, hml, zbe, and_assoc, zba]) | (intro _)
            all_goals (refine hK _ ?_; clear hK K)
            all_goals
             refine zbu rfl (fun hc5 => ?_) (fun hc5 => ?_)
             ·try simp [zbc, zbb, zbg, zbf] at hc5
              all_goals
               refine AW_x rfl rfl fun K hK => ?_
               simp (disch := omega) [zbd, gE, tP, e, e0, hml, zbe, and_assoc, zba]
               repeat' first | (exfalso; omega) | (refine ⟨fun _ => ?_, fun _ => ?_⟩) | (refine ⟨by omega, ?_⟩) | (simp (disch := omega) [zbd, gE, tP, e, e0, hml, zbe, and_assoc, zba]) | (intro _)
               all_goals (refine hK _ ?_; clear hK K)
               all_goals
                refine zby (zdm [] [] (by simp [List.range_succ, zbi, zbp, zbl]) (by simp) ?_)
                simp (disch := omega) [zbd, gE, tP, e, e0, hml, zbe, and_assoc, zba]
                all_goals skip
             ·try simp [zbc, zbb, zbg, zbf] at hc5
              all_goals
               refine zbv ?_
               refine zb4 ?_
               refine AW_x rfl rfl fun K hK => ?_
               simp (disch := omega) [zbd, gE, tP, e, e0, hml, zbe, and_assoc, zba]
               repeat' first | (exfalso; omega) | (refine ⟨fun _ => ?_, fun _ => ?_⟩) | (refine ⟨by omega, ?_⟩) | (simp (disch := omega) [zbd, gE, tP, e, e0, hml, zbe, and_assoc, zba]) | (intro _)
               all_goals (refine hK _ ?_; clear hK K)
               all_goals
                refine AW_x rfl rfl fun K hK => ?_
                simp (disch := omega) [zbd, gE, tP, e, e0, hml, zbe, and_assoc, zba]
                repeat' first | (exfalso; omega) | (refine zfs [368] true [] (markCmdS (cmA l) 1 (by omega) (by omega)) ?_ ?_ ?_; (focus (simp [List.range_succ, nmC]; done)); (focus (simp (disch := omega) [zbd, gE, tP, e, e0, hml, zbe, and_assoc, zba, zba]; done)); simp (disch := omega) [zbd, gE, tP, e, e0, hml, zbe, and_assoc, zba]) | (refine ⟨by omega, ?_⟩) | (simp (disch := omega) [zbd, gE, tP, e, e0, hml, zbe, and_assoc, zba]) | (intro _)
                refine hK _ ?_; clear hK K
                refine AW_x rfl rfl fun K hK => ?_
                simp (disch := omega) [zbd, gE, tP, e, e0, hml, zbe, and_assoc, zba]
                repeat' first | (refine ⟨by omega, ?_⟩) | (intro _)
                refine hK _ ?_; clear hK K
                refine AW_x rfl rfl fun K hK => ?_
                simp (disch := omega) [zbd, gE, tP, e, e0, hml, zbe, and_assoc, zba]
                repeat' first | (exfalso; omega) | (refine zde (zbh zce (zbh zcx zbs)) (zlg (cmA l) 1 (by omega) (by omega)) rfl ?_; simp (disch := omega) [zbd, gE, tP, e, e0, hml, zbe, and_assoc, zba]) | (refine zdf (zlg (cmA l) 1 (by omega) (by omega)) (by rfl) ?_ ?_; (focus (simp (disch := omega) [zbd, gE, tP, e, e0, hml, zbe, and_assoc, zba, zba]; done)); simp (disch := omega) [zbd, gE, tP, e, e0, hml, zbe, and_assoc, zba]) | (refine ⟨by omega, ?_⟩) | (simp (disch := omega) [zbd, gE, tP, e, e0, hml, zbe, and_assoc, zba]) | (intro _)
                refine hK _ ?_; clear hK K
                refine zbr ?_
                refine AW_x rfl rfl fun K hK => ?_
                simp (disch := omega) [zbd, gE, tP, e, e0, hml, zbe, and_assoc, zba]
                repeat' first | (refine ⟨by omega, ?_⟩) | (intro _)
                refine hK _ ?_; clear hK K
                refine zbu rfl (fun hc6 => ?_) (fun hc6 => ?_)
                ·try simp [zbc, zbb, zbg, zbf] at hc6
                 all_goals
                  refine AW_x rfl rfl fun K hK => ?_
                  simp (disch := omega) [zbd, gE, tP, e, e0, hml, zbe, and_assoc, zba]
                  repeat' first | (exfalso; omega) | (refine ⟨fun _ => ?_, fun _ => ?_⟩) | (refine ⟨by omega, ?_⟩) | (simp (disch := omega) [zbd, gE, tP, e, e0, hml, zbe, and_assoc, zba]) | (intro _)
                  all_goals (refine hK _ ?_; clear hK K)
                  all_goals
                   refine zby (zdm [] [] (by simp [List.range_succ, zbi, zbp, zbl]) (by simp) ?_)
                   simp (disch := omega) [zbd, gE, tP, e, e0, hml, zbe, and_assoc, zba]
                   all_goals skip
                ·try simp [zbc, zbb, zbg, zbf] at hc6
                 all_goals
                  refine zbv ?_
                  refine zb4 ?_
                  refine zbr ?_
                  refine AW_x rfl rfl fun K hK => ?_
                  simp (disch := omega) [zbd, gE, tP, e, e0, hml, zbe, and_assoc, zba]
                  repeat' first | (exfalso; omega) | (refine ⟨fun _ => ?_, fun _ => ?_⟩) | (refine ⟨by omega, ?_⟩) | (simp (disch := omega) [zbd, gE, tP, e, e0, hml, zbe, and_assoc, zba]) | (intro _)
                  all_goals (refine hK _ ?_; clear hK K)
                  all_goals
                   refine zbu rfl (fun hc7 => ?_) (fun hc7 => ?_)
                   ·try simp [zbc, zbb, zbg, zbf] at hc7
                    all_goals
                     refine AW_x rfl rfl fun K hK => ?_
                     simp (disch := omega) [zbd, gE, tP, e, e0, hml, zbe, and_assoc, zba]
                     repeat' first | (exfalso; omega) | (refine ⟨fun _ => ?_, fun _ => ?_⟩) | (refine ⟨by omega, ?_⟩) | (simp (disch := omega) [zbd, gE, tP, e, e0, hml, zbe, and_assoc, zba]) | (intro _)
                     all_goals (refine hK _ ?_; clear hK K)
                     all_goals
                      refine zby (zdm [] [] (by simp [List.range_succ, zbi, zbp, zbl]) (by simp) ?_)
                      simp (disch := omega) [zbd, gE, tP, e, e0, hml, zbe, and_assoc, zba]
                      all_goals skip
                   ·try simp [zbc, zbb, zbg, zbf] at hc7
                    all_goals
                     refine zbv ?_
                     refine zb4 ?_
                     refine AW_x rfl rfl fun K hK => ?_
                     simp (disch := omega) [zbd, gE, tP, e, e0, hml, zbe, and_assoc, zba]
                     repeat' first | (exfalso; omega) | (refine zfs [] true [] (zlh l (by omega)) ?_ ?_ ?_; (focus (simp [List.range_succ, nmC]; done)); (focus (simp (disch := omega) [zbd, gE, tP, e, e0, hml, zbe, and_assoc, zba, zba]; done)); simp (disch := omega) [zbd, gE, tP, e, e0, hml, zbe, and_assoc, zba]) | (refine zfs [] true [] (zr8 l hsl hn (zkh hsl)) ?_ ?_ ?_; (focus (simp [List.range_succ, nmC]; done)); (focus (simp (disch := omega) [zbd, gE, tP, e, e0, hml, zbe, and_assoc, zba, zba]; done)); simp (disch := omega) [zbd, gE, tP, e, e0, hml, zbe, and_assoc, zba]) | (refine ⟨fun _ => ?_, fun _ => ?_⟩) | (refine ⟨by omega, ?_⟩) | (simp (disch := omega) [zbd, gE, tP, e, e0, hml, zbe, and_assoc, zba]) | (intro _)
                     all_goals (refine hK _ ?_; clear hK K)
                     all_goals
                      refine zbr ?_
                      refine AW_x rfl rfl fun K hK => ?_
                      simp (disch := omega) [zbd, gE, tP, e, e0, hml, zbe, and_assoc, zba]
                      repeat' first | (exfalso; omega) | (refine zde (zbh zce (zbh zce zbs)) (znt (cmA l) (cmA l) (by omega)) rfl ?_; simp (disch := omega) [zbd, gE, tP, e, e0, hml, zbe, and_assoc, zba]) | (refine zdf (znt (cmA l) (cmA l) (by omega)) (by rfl) ?_ ?_; (focus (simp (disch := omega) [zbd, gE, tP, e, e0, hml, zbe, and_assoc, zba, zba]; done)); simp (disch := omega) [zbd, gE, tP, e, e0, hml, zbe, and_assoc, zba]) | (refine ⟨by omega, ?_⟩) | (simp (disch := omega) [zbd, gE, tP, e, e0, hml, zbe, and_assoc, zba]) | (intro _)
                      refine hK _ ?_; clear hK K
                      refine zbu rfl (fun hc8 => ?_) (fun hc8 => ?_)
                      ·try simp [zbc, zbb, zbg, zbf] at hc8
                       all_goals
                        refine AW_x rfl rfl fun K hK => ?_
                        simp (disch := omega) [zbd, gE, tP, e, e0, hml, zbe, and_assoc, zba]
                        repeat' first | (exfalso; omega) | (refine ⟨fun _ => ?_, fun _ => ?_⟩) | (refine ⟨by omega, ?_⟩) | (simp (disch := omega) [zbd, gE, tP, e, e0, hml, zbe, and_assoc, zba]) | (intro _)
                        all_goals (refine hK _ ?_; clear hK K)
                        all_goals
                         refine zby (zdm [] [] (by simp [List.range_succ, zbi, zbp, zbl]) (by simp) ?_)
                         simp (disch := omega) [zbd, gE, tP, e, e0, hml, zbe, and_assoc, zba]
                         all_goals skip
                      ·try simp [zbc, zbb, zbg, zbf] at hc8
                       all_goals
                        refine zbv ?_
                        refine zb4 ?_
                        refine AW_x rfl rfl fun K hK => ?_
                        simp (disch := omega) [zbd, gE, tP, e, e0, hml, zbe, and_assoc, zba]
                        repeat' first | (exfalso; omega) | (refine ⟨fun _ => ?_, fun _ => ?_⟩) | (refine ⟨by omega, ?_⟩) | (simp (disch := omega) [zbd, gE, tP, e, e0, hml, zbe, and_assoc, zba]) | (intro _)
                        all_goals (refine hK _ ?_; clear hK K)
                        all_goals
                         refine AW_x rfl rfl fun K hK => ?_
                         simp (disch := omega) [zbd, gE, tP, e, e0, hml, zbe, and_assoc, zba]
                         repeat' first | (exfalso; omega) | (refine zde (zbh zce (zbh zcx zbs)) (zlg (cmA l) 1 (by omega) (by omega)) rfl ?_; simp (disch := omega) [zbd, gE, tP, e, e0, hml, zbe, and_assoc, zba]) | (refine zdf (zlg (cmA l) 1 (by omega) (by omega)) (by rfl) ?_ ?_; (focus (simp (disch := omega) [zbd, gE, tP, e, e0, hml, zbe, and_assoc, zba, zba]; done)); simp (disch := omega) [zbd, gE, tP, e, e0, hml, zbe, and_assoc, zba]) | (refine ⟨by omega, ?_⟩) | (simp (disch := omega) [zbd, gE, tP, e, e0, hml, zbe, and_assoc, zba]) | (intro _)
                         refine hK _ ?_; clear hK K
                         refine zbr ?_
                         refine AW_x rfl rfl fun K hK => ?_
                         simp (disch := omega) [zbd, gE, tP, e, e0, hml, zbe, and_assoc, zba]
                         repeat' first | (refine ⟨by omega, ?_⟩) | (intro _)
                         refine hK _ ?_; clear hK K
                         refine zbu rfl (fun hc9 => ?_) (fun hc9 => ?_)
                         ·try simp [zbc, zbb, zbg, zbf] at hc9
                          all_goals
                           refine AW_x rfl rfl fun K hK => ?_
                           simp (disch := omega) [zbd, gE, tP, e, e0, hml, zbe, and_assoc, zba]
                           repeat' first | (exfalso; omega) | (refine ⟨fun _ => ?_, fun _ => ?_⟩) | (refine ⟨by omega, ?_⟩) | (simp (disch := omega) [zbd, gE, tP, e, e0, hml, zbe, and_assoc, zba]) | (intro _)
                           all_goals (refine hK _ ?_; clear hK K)
                           all_goals
                            refine zby (zdm [] [] (by simp [List.range_succ, zbi, zbp, zbl]) (by simp) ?_)
                            simp (disch := omega) [zbd, gE, tP, e, e0, hml, zbe, and_assoc, zba]
                            all_goals skip
                         ·try simp [zbc, zbb, zbg, zbf] at hc9
                          all_goals
                           refine zbv ?_
                           refine zb4 ?_
                           refine zbr ?_
                           refine AW_x rfl rfl fun K hK => ?_
                           simp (disch := omega) [zbd, gE, tP, e, e0, hml, zbe, and_assoc, zba]
                           repeat' first | (exfalso; omega) | (refine ⟨fun _ => ?_, fun _ => ?_⟩) | (refine ⟨by omega, ?_⟩) | (simp (disch := omega) [zbd, gE, tP, e, e0, hml, zbe, and_assoc, zba]) | (intro _)
                           all_goals (refine hK _ ?_; clear hK K)
                           all_goals
                            refine zbu rfl (fun hc10 => ?_) (fun hc10 => ?_)
                            ·try simp [zbc, zbb, zbg, zbf] at hc10
                             all_goals
                              refine AW_x rfl rfl fun K hK => ?_
                              simp (disch := omega) [zbd, gE, tP, e, e0, hml, zbe, and_assoc, zba]
                              repeat' first | (exfalso; omega) | (refine ⟨fun _ => ?_, fun _ => ?_⟩) | (refine ⟨by omega, ?_⟩) | (simp (disch := omega) [zbd, gE, tP, e, e0, hml, zbe, and_assoc, zba]) | (intro _)
                              all_goals (refine hK _ ?_; clear hK K)
                              all_goals
                               refine zby (zdm [] [] (by simp [List.range_succ, zbi, zbp, zbl]) (by simp) ?_)
                               simp (disch := omega) [zbd, gE, tP, e, e0, hml, zbe, and_assoc, zba]
                               all_goals skip
                            ·try simp [zbc, zbb, zbg, zbf] at hc10
                             all_goals
                              refine zbv ?_
                              refine zb4 ?_
                              refine AW_x rfl rfl fun K hK => ?_
                              simp (disch := omega) [zbd, gE, tP, e, e0, hml, zbe, and_assoc, zba]
                              repeat' first | (exfalso; omega) | (refine ⟨fun _ => ?_, fun _ => ?_⟩) | (refine ⟨by omega, ?_⟩) | (simp (disch := omega) [zbd, gE, tP, e, e0, hml, zbe, and_assoc, zba]) | (intro _)
                              all_goals (refine hK _ ?_; clear hK K)
                              all_goals
                               refine zby (zdm [] [] (by simp [List.range_succ, zbi, zbp, zbl]) (by simp) ?_)
                               simp (disch := omega) [zbd, gE, tP, e, e0, hml, zbe, and_assoc, zba]
                               all_goals skip
theorem zt8 (l : List DtInst) (hw : wfS DtInst.wf l) : PCall Tryz.prog 3 [.sl 16 (l.map DtInst.cells)] (.g (.bool (true))) := zns (lawExecX l hw)
end Go.Proofs.YtfbmhgiokfpgiaaGreat.Vs
