import Derived.Test.YtfbmhgiokfpgiaaSPhQ
import Derived.Test.YtfbmhgiokfpgiaaSOQ
open Go Go.Proofs Go.Proofs.Ytfbmhgiokfpgiaa.Vs
namespace Go.Proofs.Ytfbmhgiokfpgiaa.Vs
set_option linter.all false
set_option linter.unusedSimpArgs false
set_option linter.unusedVariables false
set_option maxRecDepth 100000
set_option maxHeartbeats 4000000
theorem zne {l : List DtInst} (hs : szS DtInst.sz l ≤ 1048576) : ∀ x ∈ l, InstSm x := by
 intro x hx
 have h1 := zgh DtInst.sz_nonneg l x hx
 have h2 := zcp DtInst.sz_nonneg l
 have hx2 : DtInst.sz x ≤ 1048576 := by unfold szS at hs; omega
 obtain ⟨h3, h4⟩ := zzy x hx2
 have h5 := zlz zcy x.fCmd.fChunks
 exact ⟨by simp only [DtCmd.sz] at h3; omega, h4, h3⟩
theorem zwl (l : List DtInst) (hw : wfS DtInst.wf l) (a : DtId) (ha : DtId.wf a) (b : DtId) (hb : DtId.wf b) : XCall Try.prog 4 [.sl 16 (l.map DtInst.cells), .agg (DtId.cells a), .agg (DtId.cells b)] [] (.g (.bool (true))) [] [] := by
 have hq := zg6 DtInst.sz_nonneg l
 by_cases h : (1048576 : Int) - szS DtInst.sz l < 0
 ·have e : szR 1048576 (szS DtInst.sz l) = -1 := by unfold szR; rw [if_pos h]
  refine zc1 Try.func4 (by rfl) (by rfl) (by rw [Try.ntmps4]; exact Nat.le_of_ble_eq_true rfl) rfl (by simp) rfl rfl ?_
  rw [Try.ntmps4]
  refine zgt   ?_
  refine AW_k [(0, _), (1, _), (2, _)] ⟨rfl, rfl, rfl, trivial⟩ ?_
  refine AW_x rfl rfl fun K hK => ?_
  simp (disch := omega) [zbd, gE, tP, e, DtId.cells]
  repeat' first | (refine ⟨by omega, ?_⟩) | (intro _)
  refine hK _ ?_; clear hK K
  refine AW_x rfl rfl fun K hK => ?_
  simp (disch := omega) [zbd, gE, tP, e, DtId.cells]
  repeat' first | (refine ⟨by omega, ?_⟩) | (intro _)
  refine hK _ ?_; clear hK K
  refine AW_x rfl rfl fun K hK => ?_
  simp (disch := omega) [zbd, gE, tP, e, DtId.cells]
  repeat' first | (exfalso; omega) | (refine zd1 (zbg zca (zbg zc5 zbr)) (zpb _ _ (by omega) hw) rfl ?_; simp (disch := omega) [zbd, gE, tP, e, DtId.cells]) | (refine zd2 (zpb _ _ (by omega) hw) (by rfl) ?_ ?_; (focus (simp (disch := omega) [zbd, gE, tP, e, DtId.cells, zbc]; done)); simp (disch := omega) [zbd, gE, tP, e, DtId.cells]) | (refine ⟨by omega, ?_⟩) | (simp (disch := omega) [zbd, gE, tP, e, DtId.cells]) | (intro _)
  refine hK _ ?_; clear hK K
  refine zbt ?_
  refine AW_x rfl rfl fun K hK => ?_
  simp (disch := omega) [zbd, gE, tP, e, DtId.cells]
  repeat' first | (refine ⟨by omega, ?_⟩) | (intro _)
  refine hK _ ?_; clear hK K
  refine zbv rfl (fun hc1 => ?_) (fun hc1 => ?_)
  ·try simp [zbb, zba, zbf, zbe] at hc1
   all_goals
    refine AW_x rfl rfl fun K hK => ?_
    simp (disch := omega) [zbd, gE, tP, e, DtId.cells]
    repeat' first | (exfalso; omega) | (refine ⟨fun _ => ?_, fun _ => ?_⟩) | (refine ⟨by omega, ?_⟩) | (simp (disch := omega) [zbd, gE, tP, e, DtId.cells]) | (intro _)
    all_goals (refine hK _ ?_; clear hK K)
    all_goals
     refine zbz (zhc [] [] (by simp [List.range_succ, zbk, zbx, zbn]) (by simp) ?_)
     simp (disch := omega) [zbd, gE, tP, e, DtId.cells]
     all_goals skip
  ·try simp [zbb, zba, zbf, zbe] at hc1
 ·have e : szR 1048576 (szS DtInst.sz l) = 1048576 - szS DtInst.sz l := by unfold szR; rw [if_neg h]
  have e0 : (0 : Int) ≤ 1048576 - szS DtInst.sz l := by omega
  have hsl : szS DtInst.sz l ≤ 1048576 := by omega
  have hn : l.length ≤ 1048576 := by have := zlz DtInst.sz_nonneg l; omega
  refine zc1 Try.func4 (by rfl) (by rfl) (by rw [Try.ntmps4]; exact Nat.le_of_ble_eq_true rfl) rfl (by simp) rfl rfl ?_
  rw [Try.ntmps4]
  refine zgt   ?_
  refine AW_k [(0, _), (1, _), (2, _)] ⟨rfl, rfl, rfl, trivial⟩ ?_
  refine AW_x rfl rfl fun K hK => ?_
  simp (disch := omega) [zbd, gE, tP, e, e0, zbh, and_assoc, zbc, DtId.cells]
  repeat' first | (exfalso; omega) | (refine ⟨fun _ => ?_, fun _ => ?_⟩) | (refine ⟨by omega, ?_⟩) | (simp (disch := omega) [zbd, gE, tP, e, e0, zbh, and_assoc, zbc, DtId.cells]) | (intro _)
  all_goals (refine hK _ ?_; clear hK K)
  all_goals
   refine AW_x rfl rfl fun K hK => ?_
   simp (disch := omega) [zbd, gE, tP, e, e0, zbh, and_assoc, zbc, DtId.cells]
   repeat' first | (refine ⟨by omega, ?_⟩) | (intro _)
   refine hK _ ?_; clear hK K
   refine AW_x rfl rfl fun K hK => ?_
   simp (disch := omega) [zbd, gE, tP, e, e0, zbh, and_assoc, zbc, DtId.cells]
   repeat' first | (exfalso; omega) | (refine zd1 (zbg zca (zbg zc5 zbr)) (zpb _ _ (by omega) hw) rfl ?_; simp (disch := omega) [zbd, gE, tP, e, e0, zbh, and_assoc, zbc, DtId.cells]) | (refine zd2 (zpb _ _ (by omega) hw) (by rfl) ?_ ?_; (focus (simp (disch := omega) [zbd, gE, tP, e, e0, zbh, and_assoc, zbc, DtId.cells, zbc]; done)); simp (disch := omega) [zbd, gE, tP, e, e0, zbh, and_assoc, zbc, DtId.cells]) | (refine ⟨by omega, ?_⟩) | (simp (disch := omega) [zbd, gE, tP, e, e0, zbh, and_assoc, zbc, DtId.cells]) | (intro _)
   refine hK _ ?_; clear hK K
   refine zbt ?_
   refine AW_x rfl rfl fun K hK => ?_
   simp (disch := omega) [zbd, gE, tP, e, e0, zbh, and_assoc, zbc, DtId.cells]
   repeat' first | (refine ⟨by omega, ?_⟩) | (intro _)
   refine hK _ ?_; clear hK K
   refine zbv rfl (fun hc2 => ?_) (fun hc2 => ?_)
   ·try simp [zbb, zba, zbf, zbe] at hc2
    all_goals
     refine AW_x rfl rfl fun K hK => ?_
     simp (disch := omega) [zbd, gE, tP, e, e0, zbh, and_assoc, zbc, DtId.cells]
     repeat' first | (exfalso; omega) | (refine ⟨fun _ => ?_, fun _ => ?_⟩) | (refine ⟨by omega, ?_⟩) | (simp (disch := omega) [zbd, gE, tP, e, e0, zbh, and_assoc, zbc, DtId.cells]) | (intro _)
     all_goals (refine hK _ ?_; clear hK K)
     all_goals
      refine zbz (zhc [] [] (by simp [List.range_succ, zbk, zbx, zbn]) (by simp) ?_)
      simp (disch := omega) [zbd, gE, tP, e, e0, zbh, and_assoc, zbc, DtId.cells]
      all_goals skip
   ·try simp [zbb, zba, zbf, zbe] at hc2
    all_goals
     refine zbw ?_
     refine zb3 ?_
     refine AW_d rfl mix (by kernel_rfl) (by kernel_rfl) fun K hK => ?_
     simp (disch := omega) [zbd, gE, tP, e, e0, zbh, and_assoc, zbc, DtId.cells]
     repeat' first | (exfalso; omega) | (refine DKd_y [] true [] (zpg l (by omega)) ?_ (fun st' hst => ?_) ?_; (focus (simp [List.range_succ, nmC]; done)); (focus (simp (disch := omega) [zbd, gE, tP, e, e0, zbh, and_assoc, zbc, DtId.cells, nmC, List.range_succ] at hst; simp (disch := omega) [zbd, gE, tP, e, e0, zbh, and_assoc, zbc, DtId.cells, hst, zbc, nmC, List.range_succ]; done)); simp (disch := omega) [zbd, gE, tP, e, e0, zbh, and_assoc, zbc, DtId.cells]) | (refine zmf (fun st' => (zbg (zb6 rfl) zbr)) (toId _) rfl ?_; simp (disch := omega) [zbd, gE, tP, e, e0, zbh, and_assoc, zbc, DtId.cells]) | (refine zmg (toId _) (by rfl) (fun st' hst => ?_) ?_; (focus (simp (disch := omega) [zbd, gE, tP, e, e0, zbh, and_assoc, zbc, DtId.cells] at hst; simp (disch := omega) [zbd, gE, tP, e, e0, zbh, and_assoc, zbc, DtId.cells, hst, zbc]; done)); simp (disch := omega) [zbd, gE, tP, e, e0, zbh, and_assoc, zbc, DtId.cells]) | (refine zmf (fun st' => (zbg zca (zbg (zb6 rfl) (zbg (zb6 rfl) zbr)))) (znc l a b hsl hn) rfl ?_; simp (disch := omega) [zbd, gE, tP, e, e0, zbh, and_assoc, zbc, DtId.cells]) | (refine zmg (znc l a b hsl hn) (by rfl) (fun st' hst => ?_) ?_; (focus (simp (disch := omega) [zbd, gE, tP, e, e0, zbh, and_assoc, zbc, DtId.cells] at hst; simp (disch := omega) [zbd, gE, tP, e, e0, zbh, and_assoc, zbc, DtId.cells, hst, zbc]; done)); simp (disch := omega) [zbd, gE, tP, e, e0, zbh, and_assoc, zbc, DtId.cells]) | (refine ⟨fun _ => ?_, fun _ => ?_⟩) | (refine ⟨by omega, ?_⟩) | (simp (disch := omega) [zbd, gE, tP, e, e0, zbh, and_assoc, zbc, DtId.cells]) | (intro _)
     all_goals (refine hK _ _ (by kernel_rfl) ?_; clear hK K)
     all_goals
      refine AW_x rfl rfl fun K hK => ?_
      simp (disch := omega) [zbd, gE, tP, e, e0, zbh, and_assoc, zbc, DtId.cells]
      repeat' first | (exfalso; omega) | (refine zn2 [] true [] (zpg l (by omega)) ?_ ?_ ?_; (focus (simp [List.range_succ, nmC]; done)); (focus (simp (disch := omega) [zbd, gE, tP, e, e0, zbh, and_assoc, zbc, DtId.cells, zbc]; done)); simp (disch := omega) [zbd, gE, tP, e, e0, zbh, and_assoc, zbc, DtId.cells]) | (refine ⟨by omega, ?_⟩) | (simp (disch := omega) [zbd, gE, tP, e, e0, zbh, and_assoc, zbc, DtId.cells]) | (intro _)
      refine hK _ ?_; clear hK K
      refine AW_d rfl mix (by kernel_rfl) (by kernel_rfl) fun K hK => ?_
      simp (disch := omega) [zbd, gE, tP, e, e0, zbh, and_assoc, zbc, DtId.cells]
      repeat' first | (exfalso; omega) | (refine zmf (fun st' => (zbg (zb6 rfl) zbr)) (toId _) rfl ?_; simp (disch := omega) [zbd, gE, tP, e, e0, zbh, and_assoc, zbc, DtId.cells]) | (refine zmg (toId _) (by rfl) (fun st' hst => ?_) ?_; (focus (simp (disch := omega) [zbd, gE, tP, e, e0, zbh, and_assoc, zbc, DtId.cells] at hst; simp (disch := omega) [zbd, gE, tP, e, e0, zbh, and_assoc, zbc, DtId.cells, hst, zbc]; done)); simp (disch := omega) [zbd, gE, tP, e, e0, zbh, and_assoc, zbc, DtId.cells]) | (refine zmf (fun st' => (zbg zca (zbg (zb6 rfl) (zbg (zb6 rfl) zbr)))) (znd l a b hsl hn (zne hsl)) rfl ?_; simp (disch := omega) [zbd, gE, tP, e, e0, zbh, and_assoc, zbc, DtId.cells]) | (refine zmg (znd l a b hsl hn (zne hsl)) (by rfl) (fun st' hst => ?_) ?_; (focus (simp (disch := omega) [zbd, gE, tP, e, e0, zbh, and_assoc, zbc, DtId.cells] at hst; simp (disch := omega) [zbd, gE, tP, e, e0, zbh, and_assoc, zbc, DtId.cells, hst, zbc]; done)); simp (disch := omega) [zbd, gE, tP, e, e0, zbh, and_assoc, zbc, DtId.cells]) | (refine ⟨by omega, ?_⟩) | (simp (disch := omega) [zbd, gE, tP, e, e0, zbh, and_assoc, zbc, DtId.cells]) | (intro _)
      refine hK _ _ (by kernel_rfl) ?_; clear hK K
      refine zbt ?_
      refine AW_x rfl rfl fun K hK => ?_
      simp (disch := omega) [zbd, gE, tP, e, e0, zbh, and_assoc, zbc, DtId.cells]
      repeat' first | (refine ⟨by omega, ?_⟩) | (intro _)
      refine hK _ ?_; clear hK K
      refine zbv rfl (fun hc3 => ?_) (fun hc3 => ?_)
      ·try simp [zbb, zba, zbf, zbe] at hc3
       all_goals
        refine AW_x rfl rfl fun K hK => ?_
        simp (disch := omega) [zbd, gE, tP, e, e0, zbh, and_assoc, zbc, DtId.cells]
        repeat' first | (exfalso; omega) | (refine ⟨fun _ => ?_, fun _ => ?_⟩) | (refine ⟨by omega, ?_⟩) | (simp (disch := omega) [zbd, gE, tP, e, e0, zbh, and_assoc, zbc, DtId.cells]) | (intro _)
        all_goals (refine hK _ ?_; clear hK K)
        all_goals
         refine zbz (zhc [] [] (by simp [List.range_succ, zbk, zbx, zbn]) (by simp) ?_)
         simp (disch := omega) [zbd, gE, tP, e, e0, zbh, and_assoc, zbc, DtId.cells]
         all_goals skip
      ·try simp [zbb, zba, zbf, zbe] at hc3
       all_goals
        refine zbw ?_
        refine zb3 ?_
        refine zbt ?_
        refine AW_x rfl rfl fun K hK => ?_
        simp (disch := omega) [zbd, gE, tP, e, e0, zbh, and_assoc, zbc, DtId.cells]
        repeat' first | (exfalso; omega) | (refine zn2 [] true [] (zpg l (by omega)) ?_ ?_ ?_; (focus (simp [List.range_succ, nmC]; done)); (focus (simp (disch := omega) [zbd, gE, tP, e, e0, zbh, and_assoc, zbc, DtId.cells, zbc]; done)); simp (disch := omega) [zbd, gE, tP, e, e0, zbh, and_assoc, zbc, DtId.cells]) | (refine zd1 (zbg zca (zbg zca zbr)) (zzq l l (by omega)) rfl ?_; simp (disch := omega) [zbd, gE, tP, e, e0, zbh, and_assoc, zbc, DtId.cells]) | (refine zd2 (zzq l l (by omega)) (by rfl) ?_ ?_; (focus (simp (disch := omega) [zbd, gE, tP, e, e0, zbh, and_assoc, zbc, DtId.cells, zbc]; done)); simp (disch := omega) [zbd, gE, tP, e, e0, zbh, and_assoc, zbc, DtId.cells]) | (refine ⟨fun _ => ?_, fun _ => ?_⟩) | (refine ⟨by omega, ?_⟩) | (simp (disch := omega) [zbd, gE, tP, e, e0, zbh, and_assoc, zbc, DtId.cells]) | (intro _)
        all_goals (refine hK _ ?_; clear hK K)
        all_goals
         refine zbv rfl (fun hc4 => ?_) (fun hc4 => ?_)
         ·try simp [zbb, zba, zbf, zbe] at hc4
          all_goals
           refine AW_x rfl rfl fun K hK => ?_
           simp (disch := omega) [zbd, gE, tP, e, e0, zbh, and_assoc, zbc, DtId.cells]
           repeat' first | (exfalso; omega) | (refine ⟨fun _ => ?_, fun _ => ?_⟩) | (refine ⟨by omega, ?_⟩) | (simp (disch := omega) [zbd, gE, tP, e, e0, zbh, and_assoc, zbc, DtId.cells]) | (intro _)
           all_goals (refine hK _ ?_; clear hK K)
           all_goals
            refine zbz (zhc [] [] (by simp [List.range_succ, zbk, zbx, zbn]) (by simp) ?_)
            simp (disch := omega) [zbd, gE, tP, e, e0, zbh, and_assoc, zbc, DtId.cells]
            all_goals skip
         ·try simp [zbb, zba, zbf, zbe] at hc4
          all_goals
           refine zbw ?_
           refine zb3 ?_
           refine AW_x rfl rfl fun K hK => ?_
           simp (disch := omega) [zbd, gE, tP, e, e0, zbh, and_assoc, zbc, DtId.cells]
           repeat' first | (exfalso; omega) | (refine ⟨fun _ => ?_, fun _ => ?_⟩) | (refine ⟨by omega, ?_⟩) | (simp (disch := omega) [zbd, gE, tP, e, e0, zbh, and_assoc, zbc, DtId.cells]) | (intro _)
           all_goals (refine hK _ ?_; clear hK K)
           all_goals
            refine zbz (zhc [] [] (by simp [List.range_succ, zbk, zbx, zbn]) (by simp) ?_)
            simp (disch := omega) [zbd, gE, tP, e, e0, zbh, and_assoc, zbc, DtId.cells]
            all_goals skip
theorem lawBefore (l : List DtInst) (hw : wfS DtInst.wf l) (a : DtId) (ha : DtId.wf a) (b : DtId) (hb : DtId.wf b) : PCall Try.prog 4 [.sl 16 (l.map DtInst.cells), .agg (DtId.cells a), .agg (DtId.cells b)] (.g (.bool (true))) := zm0 (zwl l hw a ha b hb)
end Go.Proofs.Ytfbmhgiokfpgiaa.Vs
