import Derived.Test.YtfbmhgiokfpgiaaSWcQ
import Derived.Test.YtfbmhgiokfpgiaaSOQ
open Go Go.Proofs Go.Proofs.Ytfbmhgiokfpgiaa.Vs
namespace Go.Proofs.Ytfbmhgiokfpgiaa.Vs
set_option linter.all false
set_option linter.unusedSimpArgs false
set_option linter.unusedVariables false
set_option maxRecDepth 100000
set_option maxHeartbeats 4000000
noncomputable def waitR (l : List DtInst) : List DtId := bif decB (InstsP l) then waitL l else []
theorem zxf (l : List DtInst) : (waitR l).length ≤ l.length := by
 unfold waitR
 cases decB (InstsP l)
 ·simp
 ·simp only [cond_true]; rw [← zw6 l l.length (Nat.le_refl _)]; exact zm2 l _ (Nat.le_refl _)
theorem cntIds (l : List DtId) : 0 ≤ cntS cntId l ∧ cntS cntId l ≤ 16 * l.length := by
 induction l with
 | nil => simp [cntS]
 | cons x l ih =>
  have h1 := zhk x
  have h2 := zsf x
  simp only [cntS, List.foldr_cons, List.length_cons] at ih ⊢
  omega
theorem zxg {l : List DtInst} (hs : szS DtInst.sz l ≤ 1048576) : ∀ x ∈ l, InstSm x := by
 intro x hx
 have h1 := zfc DtInst.sz_nonneg l x hx
 have h2 := zcl DtInst.sz_nonneg l
 have hx2 : DtInst.sz x ≤ 1048576 := by unfold szS at hs; omega
 obtain ⟨h3, h4⟩ := zwy x hx2
 have h5 := zge zck x.fCmd.fChunks
 exact ⟨by simp only [DtCmd.sz] at h3; omega, h4, h3⟩
theorem specWR (l : List DtInst) (hs : szS DtInst.sz l ≤ 1048576) : XCall Try.prog 6 [.sl 16 (l.map DtInst.cells)] [] (.arr 16 0 (waitR l).length) [] [.own 2 ((waitR l).map DtId.cells)] := zpo l hs
theorem implWR (l : List DtInst) (hs : szS DtInst.sz l ≤ 1048576) (hn : l.length ≤ 1048576) : XCall Try.prog 8 [.sl 16 (l.map DtInst.cells)] [] (.arr 16 0 (waitR l).length) [] [.own 2 ((waitR l).map DtId.cells)] := zrc l hs hn (zxg hs)
theorem zrg (l : List DtInst) (hw : wfS DtInst.wf l) : XCall Try.prog 3 [.sl 16 (l.map DtInst.cells)] [] (.g (.bool (true))) [] [] := by
 have hq := zgn DtInst.sz_nonneg l
 by_cases h : (1048576 : Int) - szS DtInst.sz l < 0
 ·have e : szR 1048576 (szS DtInst.sz l) = -1 := by unfold szR; rw [if_pos h]
  refine zcd Try.func3 (by rfl) (by rfl) (by rw [Try.ntmps3]; exact Nat.le_of_ble_eq_true rfl) rfl (by simp) rfl rfl ?_
  rw [Try.ntmps3]
  refine zh3   ?_
  refine AW_k [(0, _)] ⟨rfl, trivial⟩ ?_
  refine AW_x rfl rfl fun K hK => ?_
  simp (disch := omega) [zbc, gE, tP, e]
  repeat' first | (refine ⟨by omega, ?_⟩) | (intro _)
  refine hK _ ?_; clear hK K
  refine AW_x rfl rfl fun K hK => ?_
  simp (disch := omega) [zbc, gE, tP, e]
  repeat' first | (refine ⟨by omega, ?_⟩) | (intro _)
  refine hK _ ?_; clear hK K
  refine AW_x rfl rfl fun K hK => ?_
  simp (disch := omega) [zbc, gE, tP, e]
  repeat' first | (exfalso; omega) | (refine zdu (zbg zb9 (zbg zcr zbn)) (zmx _ _ (by omega) hw) rfl ?_; simp (disch := omega) [zbc, gE, tP, e]) | (refine zdv (zmx _ _ (by omega) hw) (by rfl) ?_ ?_; (focus (simp (disch := omega) [zbc, gE, tP, e, zbd]; done)); simp (disch := omega) [zbc, gE, tP, e]) | (refine ⟨by omega, ?_⟩) | (intro _)
  refine hK _ ?_; clear hK K
  refine zbo ?_
  refine AW_x rfl rfl fun K hK => ?_
  simp (disch := omega) [zbc, gE, tP, e]
  repeat' first | (refine ⟨by omega, ?_⟩) | (intro _)
  refine hK _ ?_; clear hK K
  refine zbr rfl (fun hc1 => ?_) (fun hc1 => ?_)
  ·try simp [zba, zbb, zbf, zbe] at hc1
   all_goals
    refine AW_x rfl rfl fun K hK => ?_
    simp (disch := omega) [zbc, gE, tP, e]
    repeat' first | (exfalso; omega) | (refine ⟨fun _ => ?_, fun _ => ?_⟩) | (refine ⟨by omega, ?_⟩) | (intro _)
    all_goals (refine hK _ ?_; clear hK K)
    all_goals
     refine zbt (zdf [] [] (by simp [List.range_succ, zbj, zbu, zbl]) (by simp) ?_)
     simp (disch := omega) [zbc, gE, tP, e]
     all_goals skip
  ·try simp [zba, zbb, zbf, zbe] at hc1
 ·have e : szR 1048576 (szS DtInst.sz l) = 1048576 - szS DtInst.sz l := by unfold szR; rw [if_neg h]
  have e0 : (0 : Int) ≤ 1048576 - szS DtInst.sz l := by omega
  have hsl : szS DtInst.sz l ≤ 1048576 := by omega
  have hn : l.length ≤ 1048576 := by have := zge DtInst.sz_nonneg l; omega
  have hcm := cnt_sz ztl l
  have hcmn := zk3 zl1 l
  have hwl := zxf l
  have ⟨hc0, hc1⟩ := cntIds (waitR l)
  have hml : (mkS mkId cntId 1 (waitR l)).length = (waitR l).length := zfq _ _ _ _
  refine zcd Try.func3 (by rfl) (by rfl) (by rw [Try.ntmps3]; exact Nat.le_of_ble_eq_true rfl) rfl (by simp) rfl rfl ?_
  rw [Try.ntmps3]
  refine zh3   ?_
  refine AW_k [(0, _)] ⟨rfl, trivial⟩ ?_
  refine AW_x rfl rfl fun K hK => ?_
  simp (disch := omega) [zbc, gE, tP, e, e0, hml, zbi, and_assoc, zbd]
  repeat' first | (exfalso; omega) | (refine ⟨fun _ => ?_, fun _ => ?_⟩) | (refine ⟨by omega, ?_⟩) | (intro _)
  all_goals (refine hK _ ?_; clear hK K)
  all_goals
   refine AW_x rfl rfl fun K hK => ?_
   simp (disch := omega) [zbc, gE, tP, e, e0, hml, zbi, and_assoc, zbd]
   repeat' first | (refine ⟨by omega, ?_⟩) | (intro _)
   refine hK _ ?_; clear hK K
   refine AW_x rfl rfl fun K hK => ?_
   simp (disch := omega) [zbc, gE, tP, e, e0, hml, zbi, and_assoc, zbd]
   repeat' first | (exfalso; omega) | (refine zdu (zbg zb9 (zbg zcr zbn)) (zmx _ _ (by omega) hw) rfl ?_; simp (disch := omega) [zbc, gE, tP, e, e0, hml, zbi, and_assoc, zbd]) | (refine zdv (zmx _ _ (by omega) hw) (by rfl) ?_ ?_; (focus (simp (disch := omega) [zbc, gE, tP, e, e0, hml, zbi, and_assoc, zbd, zbd]; done)); simp (disch := omega) [zbc, gE, tP, e, e0, hml, zbi, and_assoc, zbd]) | (refine ⟨by omega, ?_⟩) | (intro _)
   refine hK _ ?_; clear hK K
   refine zbo ?_
   refine AW_x rfl rfl fun K hK => ?_
   simp (disch := omega) [zbc, gE, tP, e, e0, hml, zbi, and_assoc, zbd]
   repeat' first | (refine ⟨by omega, ?_⟩) | (intro _)
   refine hK _ ?_; clear hK K
   refine zbr rfl (fun hc2 => ?_) (fun hc2 => ?_)
   ·try simp [zba, zbb, zbf, zbe] at hc2
    all_goals
     refine AW_x rfl rfl fun K hK => ?_
     simp (disch := omega) [zbc, gE, tP, e, e0, hml, zbi, and_assoc, zbd]
     repeat' first | (exfalso; omega) | (refine ⟨fun _ => ?_, fun _ => ?_⟩) | (refine ⟨by omega, ?_⟩) | (intro _)
     all_goals (refine hK _ ?_; clear hK K)
     all_goals
      refine zbt (zdf [] [] (by simp [List.range_succ, zbj, zbu, zbl]) (by simp) ?_)
      simp (disch := omega) [zbc, gE, tP, e, e0, hml, zbi, and_assoc, zbd]
      all_goals skip
   ·try simp [zba, zbb, zbf, zbe] at hc2
    all_goals
     refine zbs ?_
     refine zbx ?_
     refine AW_x rfl rfl fun K hK => ?_
     simp (disch := omega) [zbc, gE, tP, e, e0, hml, zbi, and_assoc, zbd]
     repeat' first | (exfalso; omega) | (refine zgs [] true [] (zj2 l (by omega)) ?_ ?_ ?_; (focus (simp [List.range_succ, nmC]; done)); (focus (simp (disch := omega) [zbc, gE, tP, e, e0, hml, zbi, and_assoc, zbd, zbd]; done)); simp (disch := omega) [zbc, gE, tP, e, e0, hml, zbi, and_assoc, zbd]) | (refine zgs [] true [] (specWR l hsl) ?_ ?_ ?_; (focus (simp [List.range_succ, nmC]; done)); (focus (simp (disch := omega) [zbc, gE, tP, e, e0, hml, zbi, and_assoc, zbd, zbd]; done)); simp (disch := omega) [zbc, gE, tP, e, e0, hml, zbi, and_assoc, zbd]) | (refine ⟨fun _ => ?_, fun _ => ?_⟩) | (refine ⟨by omega, ?_⟩) | (intro _)
     all_goals (refine hK _ ?_; clear hK K)
     all_goals
      refine AW_x rfl rfl fun K hK => ?_
      simp (disch := omega) [zbc, gE, tP, e, e0, hml, zbi, and_assoc, zbd]
      repeat' first | (exfalso; omega) | (refine zgs [] true [] (zj2 l (by omega)) ?_ ?_ ?_; (focus (simp [List.range_succ, nmC]; done)); (focus (simp (disch := omega) [zbc, gE, tP, e, e0, hml, zbi, and_assoc, zbd, zbd]; done)); simp (disch := omega) [zbc, gE, tP, e, e0, hml, zbi, and_assoc, zbd]) | (refine ⟨by omega, ?_⟩) | (intro _)
      refine hK _ ?_; clear hK K
      refine AW_x rfl rfl fun K hK => ?_
      simp (disch := omega) [zbc, gE, tP, e, e0, hml, zbi, and_assoc, zbd]
      repeat' first | (exfalso; omega) | (refine zgs [] true [] (implWR l hsl hn) ?_ ?_ ?_; (focus (simp [List.range_succ, nmC]; done)); (focus (simp (disch := omega) [zbc, gE, tP, e, e0, hml, zbi, and_assoc, zbd, zbd]; done)); simp (disch := omega) [zbc, gE, tP, e, e0, hml, zbi, and_assoc, zbd]) | (refine ⟨by omega, ?_⟩) | (intro _)
      refine hK _ ?_; clear hK K
      refine zbo ?_
      refine AW_x rfl rfl fun K hK => ?_
      simp (disch := omega) [zbc, gE, tP, e, e0, hml, zbi, and_assoc, zbd]
      repeat' first | (exfalso; omega) | (refine zdu (zbg zb9 (zbg zb9 zbn)) (zq1 (waitR l) (waitR l) (by omega)) rfl ?_; simp (disch := omega) [zbc, gE, tP, e, e0, hml, zbi, and_assoc, zbd]) | (refine zdv (zq1 (waitR l) (waitR l) (by omega)) (by rfl) ?_ ?_; (focus (simp (disch := omega) [zbc, gE, tP, e, e0, hml, zbi, and_assoc, zbd, zbd]; done)); simp (disch := omega) [zbc, gE, tP, e, e0, hml, zbi, and_assoc, zbd]) | (refine ⟨by omega, ?_⟩) | (intro _)
      refine hK _ ?_; clear hK K
      refine zbr rfl (fun hc3 => ?_) (fun hc3 => ?_)
      ·try simp [zba, zbb, zbf, zbe] at hc3
       all_goals
        refine AW_x rfl rfl fun K hK => ?_
        simp (disch := omega) [zbc, gE, tP, e, e0, hml, zbi, and_assoc, zbd]
        repeat' first | (exfalso; omega) | (refine ⟨fun _ => ?_, fun _ => ?_⟩) | (refine ⟨by omega, ?_⟩) | (intro _)
        all_goals (refine hK _ ?_; clear hK K)
        all_goals
         refine zbt (zdf [] [] (by simp [List.range_succ, zbj, zbu, zbl]) (by simp) ?_)
         simp (disch := omega) [zbc, gE, tP, e, e0, hml, zbi, and_assoc, zbd]
         all_goals skip
      ·try simp [zba, zbb, zbf, zbe] at hc3
       all_goals
        refine zbs ?_
        refine zbx ?_
        refine zbo ?_
        refine AW_x rfl rfl fun K hK => ?_
        simp (disch := omega) [zbc, gE, tP, e, e0, hml, zbi, and_assoc, zbd]
        repeat' first | (exfalso; omega) | (refine zgs [] true [] (zj2 l (by omega)) ?_ ?_ ?_; (focus (simp [List.range_succ, nmC]; done)); (focus (simp (disch := omega) [zbc, gE, tP, e, e0, hml, zbi, and_assoc, zbd, zbd]; done)); simp (disch := omega) [zbc, gE, tP, e, e0, hml, zbi, and_assoc, zbd]) | (refine zdu (zbg zb9 (zbg zb9 zbn)) (zwr l l (by omega)) rfl ?_; simp (disch := omega) [zbc, gE, tP, e, e0, hml, zbi, and_assoc, zbd]) | (refine zdv (zwr l l (by omega)) (by rfl) ?_ ?_; (focus (simp (disch := omega) [zbc, gE, tP, e, e0, hml, zbi, and_assoc, zbd, zbd]; done)); simp (disch := omega) [zbc, gE, tP, e, e0, hml, zbi, and_assoc, zbd]) | (refine ⟨fun _ => ?_, fun _ => ?_⟩) | (refine ⟨by omega, ?_⟩) | (intro _)
        all_goals (refine hK _ ?_; clear hK K)
        all_goals
         refine zbr rfl (fun hc4 => ?_) (fun hc4 => ?_)
         ·try simp [zba, zbb, zbf, zbe] at hc4
          all_goals
           refine AW_x rfl rfl fun K hK => ?_
           simp (disch := omega) [zbc, gE, tP, e, e0, hml, zbi, and_assoc, zbd]
           repeat' first | (exfalso; omega) | (refine ⟨fun _ => ?_, fun _ => ?_⟩) | (refine ⟨by omega, ?_⟩) | (intro _)
           all_goals (refine hK _ ?_; clear hK K)
           all_goals
            refine zbt (zdf [] [] (by simp [List.range_succ, zbj, zbu, zbl]) (by simp) ?_)
            simp (disch := omega) [zbc, gE, tP, e, e0, hml, zbi, and_assoc, zbd]
            all_goals skip
         ·try simp [zba, zbb, zbf, zbe] at hc4
          all_goals
           refine zbs ?_
           refine zbx ?_
           refine AW_x rfl rfl fun K hK => ?_
           simp (disch := omega) [zbc, gE, tP, e, e0, hml, zbi, and_assoc, zbd]
           repeat' first | (exfalso; omega) | (refine ⟨fun _ => ?_, fun _ => ?_⟩) | (refine ⟨by omega, ?_⟩) | (intro _)
           all_goals (refine hK _ ?_; clear hK K)
           all_goals
            refine AW_x rfl rfl fun K hK => ?_
            simp (disch := omega) [zbc, gE, tP, e, e0, hml, zbi, and_assoc, zbd]
            repeat' first | (exfalso; omega) | (refine zgs [336] true [] (zxe l 1 (by omega) (by omega)) ?_ ?_ ?_; (focus (simp [List.range_succ, nmC]; done)); (focus (simp (disch := omega) [zbc, gE, tP, e, e0, hml, zbi, and_assoc, zbd, zbd]; done)); simp (disch := omega) [zbc, gE, tP, e, e0, hml, zbi, and_assoc, zbd]) | (refine ⟨by omega, ?_⟩) | (intro _)
            refine hK _ ?_; clear hK K
            refine zbo ?_
            refine AW_x rfl rfl fun K hK => ?_
            simp (disch := omega) [zbc, gE, tP, e, e0, hml, zbi, and_assoc, zbd]
            repeat' first | (exfalso; omega) | (refine zdu (zbg zb9 (zbg zb9 zbn)) (zq1 (waitR l) (waitR l) (by omega)) rfl ?_; simp (disch := omega) [zbc, gE, tP, e, e0, hml, zbi, and_assoc, zbd]) | (refine zdv (zq1 (waitR l) (waitR l) (by omega)) (by rfl) ?_ ?_; (focus (simp (disch := omega) [zbc, gE, tP, e, e0, hml, zbi, and_assoc, zbd, zbd]; done)); simp (disch := omega) [zbc, gE, tP, e, e0, hml, zbi, and_assoc, zbd]) | (refine ⟨fun _ => ?_, fun _ => ?_⟩) | (refine ⟨by omega, ?_⟩) | (intro _)
            all_goals (refine hK _ ?_; clear hK K)
            all_goals
             refine zbr rfl (fun hc5 => ?_) (fun hc5 => ?_)
             ·try simp [zba, zbb, zbf, zbe] at hc5
              all_goals
               refine AW_x rfl rfl fun K hK => ?_
               simp (disch := omega) [zbc, gE, tP, e, e0, hml, zbi, and_assoc, zbd]
               repeat' first | (exfalso; omega) | (refine ⟨fun _ => ?_, fun _ => ?_⟩) | (refine ⟨by omega, ?_⟩) | (intro _)
               all_goals (refine hK _ ?_; clear hK K)
               all_goals
                refine zbt (zdf [] [] (by simp [List.range_succ, zbj, zbu, zbl]) (by simp) ?_)
                simp (disch := omega) [zbc, gE, tP, e, e0, hml, zbi, and_assoc, zbd]
                all_goals skip
             ·try simp [zba, zbb, zbf, zbe] at hc5
              all_goals
               refine zbs ?_
               refine zbx ?_
               refine AW_x rfl rfl fun K hK => ?_
               simp (disch := omega) [zbc, gE, tP, e, e0, hml, zbi, and_assoc, zbd]
               repeat' first | (exfalso; omega) | (refine ⟨fun _ => ?_, fun _ => ?_⟩) | (refine ⟨by omega, ?_⟩) | (intro _)
               all_goals (refine hK _ ?_; clear hK K)
               all_goals
                refine AW_x rfl rfl fun K hK => ?_
                simp (disch := omega) [zbc, gE, tP, e, e0, hml, zbi, and_assoc, zbd]
                repeat' first | (exfalso; omega) | (refine zgs [368] true [] (zxd (waitR l) 1 (by omega) (by omega)) ?_ ?_ ?_; (focus (simp [List.range_succ, nmC]; done)); (focus (simp (disch := omega) [zbc, gE, tP, e, e0, hml, zbi, and_assoc, zbd, zbd]; done)); simp (disch := omega) [zbc, gE, tP, e, e0, hml, zbi, and_assoc, zbd]) | (refine ⟨by omega, ?_⟩) | (intro _)
                refine hK _ ?_; clear hK K
                refine AW_x rfl rfl fun K hK => ?_
                simp (disch := omega) [zbc, gE, tP, e, e0, hml, zbi, and_assoc, zbd]
                repeat' first | (refine ⟨by omega, ?_⟩) | (intro _)
                refine hK _ ?_; clear hK K
                refine AW_x rfl rfl fun K hK => ?_
                simp (disch := omega) [zbc, gE, tP, e, e0, hml, zbi, and_assoc, zbd]
                repeat' first | (exfalso; omega) | (refine zdu (zbg zb9 (zbg zcr zbn)) (zm5 (waitR l) 1 (by omega) (by omega)) rfl ?_; simp (disch := omega) [zbc, gE, tP, e, e0, hml, zbi, and_assoc, zbd]) | (refine zdv (zm5 (waitR l) 1 (by omega) (by omega)) (by rfl) ?_ ?_; (focus (simp (disch := omega) [zbc, gE, tP, e, e0, hml, zbi, and_assoc, zbd, zbd]; done)); simp (disch := omega) [zbc, gE, tP, e, e0, hml, zbi, and_assoc, zbd]) | (refine ⟨by omega, ?_⟩) | (intro _)
                refine hK _ ?_; clear hK K
                refine zbo ?_
                refine AW_x rfl rfl fun K hK => ?_
                simp (disch := omega) [zbc, gE, tP, e, e0, hml, zbi, and_assoc, zbd]
                repeat' first | (refine ⟨by omega, ?_⟩) | (intro _)
                refine hK _ ?_; clear hK K
                refine zbr rfl (fun hc6 => ?_) (fun hc6 => ?_)
                ·try simp [zba, zbb, zbf, zbe] at hc6
                 all_goals
                  refine AW_x rfl rfl fun K hK => ?_
                  simp (disch := omega) [zbc, gE, tP, e, e0, hml, zbi, and_assoc, zbd]
                  repeat' first | (exfalso; omega) | (refine ⟨fun _ => ?_, fun _ => ?_⟩) | (refine ⟨by omega, ?_⟩) | (intro _)
                  all_goals (refine hK _ ?_; clear hK K)
                  all_goals
                   refine zbt (zdf [] [] (by simp [List.range_succ, zbj, zbu, zbl]) (by simp) ?_)
                   simp (disch := omega) [zbc, gE, tP, e, e0, hml, zbi, and_assoc, zbd]
                   all_goals skip
                ·try simp [zba, zbb, zbf, zbe] at hc6
                 all_goals
                  refine zbs ?_
                  refine zbx ?_
                  refine zbo ?_
                  refine AW_x rfl rfl fun K hK => ?_
                  simp (disch := omega) [zbc, gE, tP, e, e0, hml, zbi, and_assoc, zbd]
                  repeat' first | (exfalso; omega) | (refine ⟨fun _ => ?_, fun _ => ?_⟩) | (refine ⟨by omega, ?_⟩) | (intro _)
                  all_goals (refine hK _ ?_; clear hK K)
                  all_goals
                   refine zbr rfl (fun hc7 => ?_) (fun hc7 => ?_)
                   ·try simp [zba, zbb, zbf, zbe] at hc7
                    all_goals
                     refine AW_x rfl rfl fun K hK => ?_
                     simp (disch := omega) [zbc, gE, tP, e, e0, hml, zbi, and_assoc, zbd]
                     repeat' first | (exfalso; omega) | (refine ⟨fun _ => ?_, fun _ => ?_⟩) | (refine ⟨by omega, ?_⟩) | (intro _)
                     all_goals (refine hK _ ?_; clear hK K)
                     all_goals
                      refine zbt (zdf [] [] (by simp [List.range_succ, zbj, zbu, zbl]) (by simp) ?_)
                      simp (disch := omega) [zbc, gE, tP, e, e0, hml, zbi, and_assoc, zbd]
                      all_goals skip
                   ·try simp [zba, zbb, zbf, zbe] at hc7
                    all_goals
                     refine zbs ?_
                     refine zbx ?_
                     refine AW_x rfl rfl fun K hK => ?_
                     simp (disch := omega) [zbc, gE, tP, e, e0, hml, zbi, and_assoc, zbd]
                     repeat' first | (exfalso; omega) | (refine zgs [] true [] (zj2 l (by omega)) ?_ ?_ ?_; (focus (simp [List.range_succ, nmC]; done)); (focus (simp (disch := omega) [zbc, gE, tP, e, e0, hml, zbi, and_assoc, zbd, zbd]; done)); simp (disch := omega) [zbc, gE, tP, e, e0, hml, zbi, and_assoc, zbd]) | (refine zgs [] true [] (implWR l hsl hn) ?_ ?_ ?_; (focus (simp [List.range_succ, nmC]; done)); (focus (simp (disch := omega) [zbc, gE, tP, e, e0, hml, zbi, and_assoc, zbd, zbd]; done)); simp (disch := omega) [zbc, gE, tP, e, e0, hml, zbi, and_assoc, zbd]) | (refine ⟨fun _ => ?_, fun _ => ?_⟩) | (refine ⟨by omega, ?_⟩) | (intro _)
                     all_goals (refine hK _ ?_; clear hK K)
                     all_goals
                      refine zbo ?_
                      refine AW_x rfl rfl fun K hK => ?_
                      simp (disch := omega) [zbc, gE, tP, e, e0, hml, zbi, and_assoc, zbd]
                      repeat' first | (exfalso; omega) | (refine zdu (zbg zb9 (zbg zb9 zbn)) (zq1 (waitR l) (waitR l) (by omega)) rfl ?_; simp (disch := omega) [zbc, gE, tP, e, e0, hml, zbi, and_assoc, zbd]) | (refine zdv (zq1 (waitR l) (waitR l) (by omega)) (by rfl) ?_ ?_; (focus (simp (disch := omega) [zbc, gE, tP, e, e0, hml, zbi, and_assoc, zbd, zbd]; done)); simp (disch := omega) [zbc, gE, tP, e, e0, hml, zbi, and_assoc, zbd]) | (refine ⟨by omega, ?_⟩) | (intro _)
                      refine hK _ ?_; clear hK K
                      refine zbr rfl (fun hc8 => ?_) (fun hc8 => ?_)
                      ·try simp [zba, zbb, zbf, zbe] at hc8
                       all_goals
                        refine AW_x rfl rfl fun K hK => ?_
                        simp (disch := omega) [zbc, gE, tP, e, e0, hml, zbi, and_assoc, zbd]
                        repeat' first | (exfalso; omega) | (refine ⟨fun _ => ?_, fun _ => ?_⟩) | (refine ⟨by omega, ?_⟩) | (intro _)
                        all_goals (refine hK _ ?_; clear hK K)
                        all_goals
                         refine zbt (zdf [] [] (by simp [List.range_succ, zbj, zbu, zbl]) (by simp) ?_)
                         simp (disch := omega) [zbc, gE, tP, e, e0, hml, zbi, and_assoc, zbd]
                         all_goals skip
                      ·try simp [zba, zbb, zbf, zbe] at hc8
                       all_goals
                        refine zbs ?_
                        refine zbx ?_
                        refine AW_x rfl rfl fun K hK => ?_
                        simp (disch := omega) [zbc, gE, tP, e, e0, hml, zbi, and_assoc, zbd]
                        repeat' first | (exfalso; omega) | (refine ⟨fun _ => ?_, fun _ => ?_⟩) | (refine ⟨by omega, ?_⟩) | (intro _)
                        all_goals (refine hK _ ?_; clear hK K)
                        all_goals
                         refine AW_x rfl rfl fun K hK => ?_
                         simp (disch := omega) [zbc, gE, tP, e, e0, hml, zbi, and_assoc, zbd]
                         repeat' first | (exfalso; omega) | (refine zdu (zbg zb9 (zbg zcr zbn)) (zm5 (waitR l) 1 (by omega) (by omega)) rfl ?_; simp (disch := omega) [zbc, gE, tP, e, e0, hml, zbi, and_assoc, zbd]) | (refine zdv (zm5 (waitR l) 1 (by omega) (by omega)) (by rfl) ?_ ?_; (focus (simp (disch := omega) [zbc, gE, tP, e, e0, hml, zbi, and_assoc, zbd, zbd]; done)); simp (disch := omega) [zbc, gE, tP, e, e0, hml, zbi, and_assoc, zbd]) | (refine ⟨by omega, ?_⟩) | (intro _)
                         refine hK _ ?_; clear hK K
                         refine zbo ?_
                         refine AW_x rfl rfl fun K hK => ?_
                         simp (disch := omega) [zbc, gE, tP, e, e0, hml, zbi, and_assoc, zbd]
                         repeat' first | (refine ⟨by omega, ?_⟩) | (intro _)
                         refine hK _ ?_; clear hK K
                         refine zbr rfl (fun hc9 => ?_) (fun hc9 => ?_)
                         ·try simp [zba, zbb, zbf, zbe] at hc9
                          all_goals
                           refine AW_x rfl rfl fun K hK => ?_
                           simp (disch := omega) [zbc, gE, tP, e, e0, hml, zbi, and_assoc, zbd]
                           repeat' first | (exfalso; omega) | (refine ⟨fun _ => ?_, fun _ => ?_⟩) | (refine ⟨by omega, ?_⟩) | (intro _)
                           all_goals (refine hK _ ?_; clear hK K)
                           all_goals
                            refine zbt (zdf [] [] (by simp [List.range_succ, zbj, zbu, zbl]) (by simp) ?_)
                            simp (disch := omega) [zbc, gE, tP, e, e0, hml, zbi, and_assoc, zbd]
                            all_goals skip
                         ·try simp [zba, zbb, zbf, zbe] at hc9
                          all_goals
                           refine zbs ?_
                           refine zbx ?_
                           refine zbo ?_
                           refine AW_x rfl rfl fun K hK => ?_
                           simp (disch := omega) [zbc, gE, tP, e, e0, hml, zbi, and_assoc, zbd]
                           repeat' first | (exfalso; omega) | (refine ⟨fun _ => ?_, fun _ => ?_⟩) | (refine ⟨by omega, ?_⟩) | (intro _)
                           all_goals (refine hK _ ?_; clear hK K)
                           all_goals
                            refine zbr rfl (fun hc10 => ?_) (fun hc10 => ?_)
                            ·try simp [zba, zbb, zbf, zbe] at hc10
                             all_goals
                              refine AW_x rfl rfl fun K hK => ?_
                              simp (disch := omega) [zbc, gE, tP, e, e0, hml, zbi, and_assoc, zbd]
                              repeat' first | (exfalso; omega) | (refine ⟨fun _ => ?_, fun _ => ?_⟩) | (refine ⟨by omega, ?_⟩) | (intro _)
                              all_goals (refine hK _ ?_; clear hK K)
                              all_goals
                               refine zbt (zdf [] [] (by simp [List.range_succ, zbj, zbu, zbl]) (by simp) ?_)
                               simp (disch := omega) [zbc, gE, tP, e, e0, hml, zbi, and_assoc, zbd]
                               all_goals skip
                            ·try simp [zba, zbb, zbf, zbe] at hc10
                             all_goals
                              refine zbs ?_
                              refine zbx ?_
                              refine AW_x rfl rfl fun K hK => ?_
                              simp (disch := omega) [zbc, gE, tP, e, e0, hml, zbi, and_assoc, zbd]
                              repeat' first | (exfalso; omega) | (refine ⟨fun _ => ?_, fun _ => ?_⟩) | (refine ⟨by omega, ?_⟩) | (intro _)
                              all_goals (refine hK _ ?_; clear hK K)
                              all_goals
                               refine zbt (zdf [] [] (by simp [List.range_succ, zbj, zbu, zbl]) (by simp) ?_)
                               simp (disch := omega) [zbc, gE, tP, e, e0, hml, zbi, and_assoc, zbd]
                               all_goals skip
theorem ztm (l : List DtInst) (hw : wfS DtInst.wf l) : PCall Try.prog 3 [.sl 16 (l.map DtInst.cells)] (.g (.bool (true))) := zs5 (zrg l hw)
end Go.Proofs.Ytfbmhgiokfpgiaa.Vs
