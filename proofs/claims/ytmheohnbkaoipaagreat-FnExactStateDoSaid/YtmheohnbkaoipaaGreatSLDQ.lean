import Derived.Test.YtmheohnbkaoipaaGreatSStT
open Go Go.Proofs Go.Proofs.YtmheohnbkaoipaaGreat.Vs
namespace Go.Proofs.YtmheohnbkaoipaaGreat.Vs
set_option linter.all false
set_option linter.unusedSimpArgs false
set_option linter.unusedVariables false
set_option maxRecDepth 100000
set_option maxHeartbeats 4000000
theorem stC_sz (s : DtState) (hs : DtState.sz s ≤ 1048576) (m : DtCmd) : DtState.sz (stC s m) ≤ 1048576 + 20000 := by
 by_cases h : StateP s
 ·rcases stC_or s m h with e | ⟨h1, h2, e⟩
  ·rw [e]; omega
  ·have hP := stC_P h m
   have h3 := catP_sz hP.1
   have h9 := said_len9 hP
   rw [e] at h3 h9 ⊢
   have h4 : sumZ DtSaid.sz (stN s m).fSaid ≤ sumZ DtSaid.sz s.fSaid + 200 := by
    have key : ∀ (x : DtSaid) (l : List DtSaid), sumZ DtSaid.sz (putL x l) ≤ sumZ DtSaid.sz l + DtSaid.sz x := by
     intro x l
     induction l with
     | nil => rw [putL, zde, zdc]; omega
     | cons y l ih =>
      have hy := DtSaid.sz_nonneg y
      rw [putL]
      split
      ·rw [zde, zde]; omega
      ·split
       ·rw [zde, zde]; omega
       ·rw [zde, zde]; omega
    have h5 := key (newS m (catR s.fCat m)) s.fSaid
    have h6 : DtSaid.sz (newS m (catR s.fCat m)) ≤ 200 := by
     have := catR_len s.fCat m
     show ((catR s.fCat m).length : Int) ≤ 200
     omega
    have h7 : sumZ DtSaid.sz (stN s m).fSaid = sumZ DtSaid.sz (putL (newS m (catR s.fCat m)) s.fSaid) := rfl
    omega
   have h8 := zb9 DtSaid.sz_nonneg s.fSaid
   have h0 := DtCatalog.sz_nonneg s.fCat
   simp only [DtState.sz, szS] at hs ⊢
   omega
 ·rw [(st_f h).1]; show (0 : Int) + 0 + (0 + 0) ≤ _; omega
attribute [local simp] DtState.cells DtCatalog.cells DtCmd.cells zbw mvState mvCatalog List.range_succ
theorem ztg (s : DtState) (hw : DtState.wf s) (m : DtCmd) (hwm : DtCmd.wf m) : XCall Tryz.prog 3 [.agg (DtState.cells s), .agg (DtCmd.cells m)] [] (.g (.bool (true))) [] [] := by
 have hq := DtState.sz_nonneg s
 have hqm := DtCmd.sz_nonneg m
 by_cases h : (1048576 : Int) - DtState.sz s < 0
 ·have e : szR 1048576 (DtState.sz s) = -1 := by unfold szR; rw [if_pos h]
  refine zbx Tryz.func3 (by rfl) (by rfl) (by rw [Tryz.ntmps3]; exact Nat.le_of_ble_eq_true rfl) rfl (by simp) rfl rfl ?_
  rw [Tryz.ntmps3]
  refine zf1   ?_
  refine AW_k [(0, _), (1, _)] ⟨rfl, rfl, trivial⟩ ?_
  refine AW_x rfl rfl fun K hK => ?_
  simp (disch := omega) [e]
  repeat' first | (refine ⟨by omega, ?_⟩) | (intro _)
  refine hK _ ?_; clear hK K
  refine AW_x rfl rfl fun K hK => ?_
  simp (disch := omega) [e]
  repeat' first | (refine ⟨by omega, ?_⟩) | (intro _)
  refine hK _ ?_; clear hK K
  refine AW_x rfl rfl fun K hK => ?_
  simp (disch := omega) [e]
  repeat' first | (exfalso; omega) | (refine zdq (zbh (zbz rfl) (zbh zcp zbs)) (zjt _ _ (by omega) hw) rfl ?_; simp (disch := omega) [e]) | (refine zdr (zjt _ _ (by omega) hw) (by rfl) ?_ ?_; (focus (simp (disch := omega) [e, zbp]; done)); simp (disch := omega) [e]) | (refine ⟨by omega, ?_⟩) | (simp (disch := omega) [e]) | (intro _)
  refine hK _ ?_; clear hK K
  refine zbm ?_
  refine AW_x rfl rfl fun K hK => ?_
  simp (disch := omega) [e]
  repeat' first | (refine ⟨by omega, ?_⟩) | (intro _)
  refine hK _ ?_; clear hK K
  refine zbl rfl (fun hc1 => ?_) (fun hc1 => ?_)
  ·try simp at hc1
   all_goals
    refine AW_x rfl rfl fun K hK => ?_
    simp (disch := omega) [e]
    repeat' first | (exfalso; omega) | (refine ⟨fun _ => ?_, fun _ => ?_⟩) | (refine ⟨by omega, ?_⟩) | (simp (disch := omega) [e]) | (intro _)
    all_goals (refine hK _ ?_; clear hK K)
    all_goals
     refine zbo (zcc [] [] (by simp [List.range_succ, zbc, zbj, zbe]) (by simp) ?_)
     simp (disch := omega) [e]
     all_goals skip
  try simp at hc1
 ·have e : szR 1048576 (DtState.sz s) = 1048576 - DtState.sz s := by unfold szR; rw [if_neg h]
  by_cases h2 : (1048576 : Int) - DtState.sz s - DtCmd.sz m < 0
  ·have e2 : szR (1048576 - DtState.sz s) (DtCmd.sz m) = -1 := by unfold szR; rw [if_pos h2]
   have e0 : (0 : Int) ≤ 1048576 - DtState.sz s := by omega
   refine zbx Tryz.func3 (by rfl) (by rfl) (by rw [Tryz.ntmps3]; exact Nat.le_of_ble_eq_true rfl) rfl (by simp) rfl rfl ?_
   rw [Tryz.ntmps3]
   refine zf1   ?_
   refine AW_k [(0, _), (1, _)] ⟨rfl, rfl, trivial⟩ ?_
   refine AW_x rfl rfl fun K hK => ?_
   simp (disch := omega) [e, e0, e2]
   repeat' first | (exfalso; omega) | (refine ⟨fun _ => ?_, fun _ => ?_⟩) | (refine ⟨by omega, ?_⟩) | (simp (disch := omega) [e, e0, e2]) | (intro _)
   all_goals (refine hK _ ?_; clear hK K)
   all_goals
    refine AW_x rfl rfl fun K hK => ?_
    simp (disch := omega) [e, e0, e2]
    repeat' first | (refine ⟨by omega, ?_⟩) | (intro _)
    refine hK _ ?_; clear hK K
    refine AW_x rfl rfl fun K hK => ?_
    simp (disch := omega) [e, e0, e2]
    repeat' first | (exfalso; omega) | (refine zdq (zbh (zbz rfl) (zbh zcp zbs)) (zjt _ _ (by omega) hw) rfl ?_; simp (disch := omega) [e, e0, e2]) | (refine zdr (zjt _ _ (by omega) hw) (by rfl) ?_ ?_; (focus (simp (disch := omega) [e, e0, e2, zbp]; done)); simp (disch := omega) [e, e0, e2]) | (refine ⟨by omega, ?_⟩) | (simp (disch := omega) [e, e0, e2]) | (intro _)
    refine hK _ ?_; clear hK K
    refine zbm ?_
    refine AW_x rfl rfl fun K hK => ?_
    simp (disch := omega) [e, e0, e2]
    repeat' first | (refine ⟨by omega, ?_⟩) | (intro _)
    refine hK _ ?_; clear hK K
    refine zbl rfl (fun hc2 => ?_) (fun hc2 => ?_)
    ·try simp at hc2
     all_goals
      refine AW_x rfl rfl fun K hK => ?_
      simp (disch := omega) [e, e0, e2]
      repeat' first | (exfalso; omega) | (refine ⟨fun _ => ?_, fun _ => ?_⟩) | (refine ⟨by omega, ?_⟩) | (simp (disch := omega) [e, e0, e2]) | (intro _)
      all_goals (refine hK _ ?_; clear hK K)
      all_goals
       refine zbo (zcc [] [] (by simp [List.range_succ, zbc, zbj, zbe]) (by simp) ?_)
       simp (disch := omega) [e, e0, e2]
       all_goals skip
    try simp at hc2
    refine zbn ?_
    refine zbq ?_
    refine AW_x rfl rfl fun K hK => ?_
    simp (disch := omega) [e, e0, e2]
    repeat' first | (exfalso; omega) | (refine zdq (zbh (zbz rfl) (zbh zcp zbs)) (szCmd _ _ (by omega) hwm) rfl ?_; simp (disch := omega) [e, e0, e2]) | (refine zdr (szCmd _ _ (by omega) hwm) (by rfl) ?_ ?_; (focus (simp (disch := omega) [e, e0, e2, zbp]; done)); simp (disch := omega) [e, e0, e2]) | (refine ⟨fun _ => ?_, fun _ => ?_⟩) | (refine ⟨by omega, ?_⟩) | (simp (disch := omega) [e, e0, e2]) | (intro _)
    all_goals (refine hK _ ?_; clear hK K)
    all_goals
     refine zbm ?_
     refine AW_x rfl rfl fun K hK => ?_
     simp (disch := omega) [e, e0, e2]
     repeat' first | (refine ⟨by omega, ?_⟩) | (intro _)
     refine hK _ ?_; clear hK K
     refine zbl rfl (fun hc3 => ?_) (fun hc3 => ?_)
     ·try simp at hc3
      all_goals
       refine AW_x rfl rfl fun K hK => ?_
       simp (disch := omega) [e, e0, e2]
       repeat' first | (exfalso; omega) | (refine ⟨fun _ => ?_, fun _ => ?_⟩) | (refine ⟨by omega, ?_⟩) | (simp (disch := omega) [e, e0, e2]) | (intro _)
       all_goals (refine hK _ ?_; clear hK K)
       all_goals
        refine zbo (zcc [] [] (by simp [List.range_succ, zbc, zbj, zbe]) (by simp) ?_)
        simp (disch := omega) [e, e0, e2]
        all_goals skip
     try simp at hc3
  ·have e2 : szR (1048576 - DtState.sz s) (DtCmd.sz m) = 1048576 - DtState.sz s - DtCmd.sz m := by unfold szR; rw [if_neg h2]
   have e0 : (0 : Int) ≤ 1048576 - DtState.sz s := by omega
   have e3 : (0 : Int) ≤ 1048576 - DtState.sz s - DtCmd.sz m := by omega
   have hcs := stC_sz s (by omega) m
   have hcv := zly s
   have hcn := zne s
   have hcc : cvState s = cntState s := rfl
   have hcv2 := zly (stC s m)
   have hcn2 := zne (stC s m)
   have hcc2 : cvState (stC s m) = cntState (stC s m) := rfl
   have hcm := cntCmd_sz m
   have hcmn := cvCmd_nn m
   have hcmm : cvCmd m ≤ 1048576 := by have := zl7 m (by omega); unfold cvCmd; omega
   have hml : (mkS mkCSet cntCSet 1 (stC s m).fCat.fSets).length = (stC s m).fCat.fSets.length := zd8 _ _ _ _
   have hml3 : (mkS mkSaid cntSaid (1 + cntS cntCSet (stC s m).fCat.fSets) (stC s m).fSaid).length = (stC s m).fSaid.length := zd8 _ _ _ _
   refine zbx Tryz.func3 (by rfl) (by rfl) (by rw [Tryz.ntmps3]; exact Nat.le_of_ble_eq_true rfl) rfl (by simp) rfl rfl ?_
   rw [Tryz.ntmps3]
   refine zf1   ?_
   refine AW_k [(0, _), (1, _)] ⟨rfl, rfl, trivial⟩ ?_
   refine AW_x rfl rfl fun K hK => ?_
   simp (disch := omega) [e, e0, e2, e3, hml, hml3]
   repeat' first | (exfalso; omega) | (refine ⟨fun _ => ?_, fun _ => ?_⟩) | (refine ⟨by omega, ?_⟩) | (simp (disch := omega) [e, e0, e2, e3, hml, hml3]) | (intro _)
   all_goals (refine hK _ ?_; clear hK K)
   all_goals
    refine AW_x rfl rfl fun K hK => ?_
    simp (disch := omega) [e, e0, e2, e3, hml, hml3]
    repeat' first | (refine ⟨by omega, ?_⟩) | (intro _)
    refine hK _ ?_; clear hK K
    refine AW_x rfl rfl fun K hK => ?_
    simp (disch := omega) [e, e0, e2, e3, hml, hml3]
    repeat' first | (exfalso; omega) | (refine zdq (zbh (zbz rfl) (zbh zcp zbs)) (zjt _ _ (by omega) hw) rfl ?_; simp (disch := omega) [e, e0, e2, e3, hml, hml3]) | (refine zdr (zjt _ _ (by omega) hw) (by rfl) ?_ ?_; (focus (simp (disch := omega) [e, e0, e2, e3, hml, hml3, zbp]; done)); simp (disch := omega) [e, e0, e2, e3, hml, hml3]) | (refine ⟨by omega, ?_⟩) | (simp (disch := omega) [e, e0, e2, e3, hml, hml3]) | (intro _)
    refine hK _ ?_; clear hK K
    refine zbm ?_
    refine AW_x rfl rfl fun K hK => ?_
    simp (disch := omega) [e, e0, e2, e3, hml, hml3]
    repeat' first | (refine ⟨by omega, ?_⟩) | (intro _)
    refine hK _ ?_; clear hK K
    refine zbl rfl (fun hc4 => ?_) (fun hc4 => ?_)
    ·try simp at hc4
     all_goals
      refine AW_x rfl rfl fun K hK => ?_
      simp (disch := omega) [e, e0, e2, e3, hml, hml3]
      repeat' first | (exfalso; omega) | (refine ⟨fun _ => ?_, fun _ => ?_⟩) | (refine ⟨by omega, ?_⟩) | (simp (disch := omega) [e, e0, e2, e3, hml, hml3]) | (intro _)
      all_goals (refine hK _ ?_; clear hK K)
      all_goals
       refine zbo (zcc [] [] (by simp [List.range_succ, zbc, zbj, zbe]) (by simp) ?_)
       simp (disch := omega) [e, e0, e2, e3, hml, hml3]
       all_goals skip
    try simp at hc4
    refine zbn ?_
    refine zbq ?_
    refine AW_x rfl rfl fun K hK => ?_
    simp (disch := omega) [e, e0, e2, e3, hml, hml3]
    repeat' first | (exfalso; omega) | (refine zdq (zbh (zbz rfl) (zbh zcp zbs)) (szCmd _ _ (by omega) hwm) rfl ?_; simp (disch := omega) [e, e0, e2, e3, hml, hml3]) | (refine zdr (szCmd _ _ (by omega) hwm) (by rfl) ?_ ?_; (focus (simp (disch := omega) [e, e0, e2, e3, hml, hml3, zbp]; done)); simp (disch := omega) [e, e0, e2, e3, hml, hml3]) | (refine ⟨fun _ => ?_, fun _ => ?_⟩) | (refine ⟨by omega, ?_⟩) | (simp (disch := omega) [e, e0, e2, e3, hml, hml3]) | (intro _)
    all_goals (refine hK _ ?_; clear hK K)
    all_goals
     refine zbm ?_
     refine AW_x rfl rfl fun K hK => ?_
     simp (disch := omega) [e, e0, e2, e3, hml, hml3]
     repeat' first | (refine ⟨by omega, ?_⟩) | (intro _)
     refine hK _ ?_; clear hK K
     refine zbl rfl (fun hc5 => ?_) (fun hc5 => ?_)
     ·try simp at hc5
      all_goals
       refine AW_x rfl rfl fun K hK => ?_
       simp (disch := omega) [e, e0, e2, e3, hml, hml3]
       repeat' first | (exfalso; omega) | (refine ⟨fun _ => ?_, fun _ => ?_⟩) | (refine ⟨by omega, ?_⟩) | (simp (disch := omega) [e, e0, e2, e3, hml, hml3]) | (intro _)
       all_goals (refine hK _ ?_; clear hK K)
       all_goals
        refine zbo (zcc [] [] (by simp [List.range_succ, zbc, zbj, zbe]) (by simp) ?_)
        simp (disch := omega) [e, e0, e2, e3, hml, hml3]
        all_goals skip
     try simp at hc5
     refine zbn ?_
     refine zbq ?_
     refine AW_d rfl mix (by kernel_rfl) (by kernel_rfl) fun K hK => ?_
     simp (disch := omega) [e, e0, e2, e3, hml, hml3]
     repeat' first | (exfalso; omega) | (refine zhm [] true [] (zko s (by omega)) ?_ (fun st' hst => ?_) ?_; (focus (simp [List.range_succ, nmC]; done)); (focus (simp (disch := omega) [e, e0, e2, e3, hml, hml3, nmC, List.range_succ] at hst; simp (disch := omega) [e, e0, e2, e3, hml, hml3, hst, zbp, nmC, List.range_succ]; done)); simp (disch := omega) [e, e0, e2, e3, hml, hml3]) | (refine zhm [] true [] (zvd m (by omega)) ?_ (fun st' hst => ?_) ?_; (focus (simp [List.range_succ, nmC]; done)); (focus (simp (disch := omega) [e, e0, e2, e3, hml, hml3, nmC, List.range_succ] at hst; simp (disch := omega) [e, e0, e2, e3, hml, hml3, hst, zbp, nmC, List.range_succ]; done)); simp (disch := omega) [e, e0, e2, e3, hml, hml3]) | (refine zhm [] true [] (ztf s m (by omega) (by omega)) ?_ (fun st' hst => ?_) ?_; (focus (simp [List.range_succ, nmC]; done)); (focus (simp (disch := omega) [e, e0, e2, e3, hml, hml3, nmC, List.range_succ] at hst; simp (disch := omega) [e, e0, e2, e3, hml, hml3, hst, zbp, nmC, List.range_succ]; done)); simp (disch := omega) [e, e0, e2, e3, hml, hml3]) | (refine ⟨fun _ => ?_, fun _ => ?_⟩) | (refine ⟨by omega, ?_⟩) | (simp (disch := omega) [e, e0, e2, e3, hml, hml3]) | (intro _)
     all_goals (refine hK _ _ (by kernel_rfl) ?_; clear hK K)
     all_goals
      refine AW_x rfl rfl fun K hK => ?_
      simp (disch := omega) [e, e0, e2, e3, hml, hml3]
      repeat' first | (exfalso; omega) | (refine zdm [] true [] (zko s (by omega)) ?_ ?_ ?_; (focus (simp [List.range_succ, nmC]; done)); (focus (simp (disch := omega) [e, e0, e2, e3, hml, hml3, zbp]; done)); simp (disch := omega) [e, e0, e2, e3, hml, hml3]) | (refine ⟨by omega, ?_⟩) | (simp (disch := omega) [e, e0, e2, e3, hml, hml3]) | (intro _)
      refine hK _ ?_; clear hK K
      refine AW_x rfl rfl fun K hK => ?_
      simp (disch := omega) [e, e0, e2, e3, hml, hml3]
      repeat' first | (exfalso; omega) | (refine zdm [] true [] (zvd m (by omega)) ?_ ?_ ?_; (focus (simp [List.range_succ, nmC]; done)); (focus (simp (disch := omega) [e, e0, e2, e3, hml, hml3, zbp]; done)); simp (disch := omega) [e, e0, e2, e3, hml, hml3]) | (refine ⟨by omega, ?_⟩) | (simp (disch := omega) [e, e0, e2, e3, hml, hml3]) | (intro _)
      refine hK _ ?_; clear hK K
      refine AW_x rfl rfl fun K hK => ?_
      simp (disch := omega) [e, e0, e2, e3, hml, hml3]
      repeat' first | (exfalso; omega) | (refine zdm [] true [] (zme s m (by omega) (by omega)) ?_ ?_ ?_; (focus (simp [List.range_succ, nmC]; done)); (focus (simp (disch := omega) [e, e0, e2, e3, hml, hml3, zbp]; done)); simp (disch := omega) [e, e0, e2, e3, hml, hml3]) | (refine ⟨by omega, ?_⟩) | (simp (disch := omega) [e, e0, e2, e3, hml, hml3]) | (intro _)
      refine hK _ ?_; clear hK K
      refine zbm ?_
      refine AW_x rfl rfl fun K hK => ?_
      simp (disch := omega) [e, e0, e2, e3, hml, hml3]
      repeat' first | (exfalso; omega) | (refine zdq (zbh (zbz rfl) (zbh (zbz rfl) zbs)) (zdt s s (by omega)) rfl ?_; simp (disch := omega) [e, e0, e2, e3, hml, hml3]) | (refine zdr (zdt s s (by omega)) (by rfl) ?_ ?_; (focus (simp (disch := omega) [e, e0, e2, e3, hml, hml3, zbp]; done)); simp (disch := omega) [e, e0, e2, e3, hml, hml3]) | (refine zdq (zbh (zbz rfl) (zbh (zbz rfl) zbs)) (zdt (stC s m) (stC s m) (by omega)) rfl ?_; simp (disch := omega) [e, e0, e2, e3, hml, hml3]) | (refine zdr (zdt (stC s m) (stC s m) (by omega)) (by rfl) ?_ ?_; (focus (simp (disch := omega) [e, e0, e2, e3, hml, hml3, zbp]; done)); simp (disch := omega) [e, e0, e2, e3, hml, hml3]) | (refine ⟨fun _ => ?_, fun _ => ?_⟩) | (refine ⟨by omega, ?_⟩) | (simp (disch := omega) [e, e0, e2, e3, hml, hml3]) | (intro _)
      all_goals (refine hK _ ?_; clear hK K)
      all_goals
       refine zbl rfl (fun hc6 => ?_) (fun hc6 => ?_)
       ·try simp at hc6
        all_goals
         refine AW_x rfl rfl fun K hK => ?_
         simp (disch := omega) [e, e0, e2, e3, hml, hml3]
         repeat' first | (exfalso; omega) | (refine ⟨fun _ => ?_, fun _ => ?_⟩) | (refine ⟨by omega, ?_⟩) | (simp (disch := omega) [e, e0, e2, e3, hml, hml3]) | (intro _)
         all_goals (refine hK _ ?_; clear hK K)
         all_goals
          refine zbo (zcc [] [] (by simp [List.range_succ, zbc, zbj, zbe]) (by simp) ?_)
          simp (disch := omega) [e, e0, e2, e3, hml, hml3]
          all_goals skip
       try simp at hc6
       refine zbn ?_
       refine zbq ?_
       refine zbm ?_
       refine AW_d rfl mix (by kernel_rfl) (by kernel_rfl) fun K hK => ?_
       simp (disch := omega) [e, e0, e2, e3, hml, hml3]
       repeat' first | (exfalso; omega) | (refine zhm [] true [] (zko s (by omega)) ?_ (fun st' hst => ?_) ?_; (focus (simp [List.range_succ, nmC]; done)); (focus (simp (disch := omega) [e, e0, e2, e3, hml, hml3, nmC, List.range_succ] at hst; simp (disch := omega) [e, e0, e2, e3, hml, hml3, hst, zbp, nmC, List.range_succ]; done)); simp (disch := omega) [e, e0, e2, e3, hml, hml3]) | (refine zsx (fun st' => (zbh (zbz rfl) (zbh (zbz rfl) zbs))) (zdt s s (by omega)) rfl ?_; simp (disch := omega) [e, e0, e2, e3, hml, hml3]) | (refine zsy (zdt s s (by omega)) (by rfl) (fun st' hst => ?_) ?_; (focus (simp (disch := omega) [e, e0, e2, e3, hml, hml3] at hst; simp (disch := omega) [e, e0, e2, e3, hml, hml3, hst, zbp]; done)); simp (disch := omega) [e, e0, e2, e3, hml, hml3]) | (refine zsx (fun st' => (zbh (zbz rfl) (zbh (zbz rfl) zbs))) (zdt (stC s m) (stC s m) (by omega)) rfl ?_; simp (disch := omega) [e, e0, e2, e3, hml, hml3]) | (refine zsy (zdt (stC s m) (stC s m) (by omega)) (by rfl) (fun st' hst => ?_) ?_; (focus (simp (disch := omega) [e, e0, e2, e3, hml, hml3] at hst; simp (disch := omega) [e, e0, e2, e3, hml, hml3, hst, zbp]; done)); simp (disch := omega) [e, e0, e2, e3, hml, hml3]) | (refine ⟨fun _ => ?_, fun _ => ?_⟩) | (refine ⟨by omega, ?_⟩) | (simp (disch := omega) [e, e0, e2, e3, hml, hml3]) | (intro _)
       all_goals (refine hK _ _ (by kernel_rfl) ?_; clear hK K)
       all_goals
        refine zbl rfl (fun hc7 => ?_) (fun hc7 => ?_)
        ·try simp at hc7
         all_goals
          refine AW_x rfl rfl fun K hK => ?_
          simp (disch := omega) [e, e0, e2, e3, hml, hml3]
          repeat' first | (exfalso; omega) | (refine ⟨fun _ => ?_, fun _ => ?_⟩) | (refine ⟨by omega, ?_⟩) | (simp (disch := omega) [e, e0, e2, e3, hml, hml3]) | (intro _)
          all_goals (refine hK _ ?_; clear hK K)
          all_goals
           refine zbo (zcc [] [] (by simp [List.range_succ, zbc, zbj, zbe]) (by simp) ?_)
           simp (disch := omega) [e, e0, e2, e3, hml, hml3]
           all_goals skip
        try simp at hc7
        refine zbn ?_
        refine zbq ?_
        refine zbm ?_
        refine AW_d rfl mix (by kernel_rfl) (by kernel_rfl) fun K hK => ?_
        simp (disch := omega) [e, e0, e2, e3, hml, hml3]
        repeat' first | (exfalso; omega) | (refine zhm [] true [] (zvd m (by omega)) ?_ (fun st' hst => ?_) ?_; (focus (simp [List.range_succ, nmC]; done)); (focus (simp (disch := omega) [e, e0, e2, e3, hml, hml3, nmC, List.range_succ] at hst; simp (disch := omega) [e, e0, e2, e3, hml, hml3, hst, zbp, nmC, List.range_succ]; done)); simp (disch := omega) [e, e0, e2, e3, hml, hml3]) | (refine zsx (fun st' => (zbh (zbz rfl) (zbh (zbz rfl) zbs))) (eqCmd m m (by omega)) rfl ?_; simp (disch := omega) [e, e0, e2, e3, hml, hml3]) | (refine zsy (eqCmd m m (by omega)) (by rfl) (fun st' hst => ?_) ?_; (focus (simp (disch := omega) [e, e0, e2, e3, hml, hml3] at hst; simp (disch := omega) [e, e0, e2, e3, hml, hml3, hst, zbp]; done)); simp (disch := omega) [e, e0, e2, e3, hml, hml3]) | (refine ⟨fun _ => ?_, fun _ => ?_⟩) | (refine ⟨by omega, ?_⟩) | (simp (disch := omega) [e, e0, e2, e3, hml, hml3]) | (intro _)
        all_goals (refine hK _ _ (by kernel_rfl) ?_; clear hK K)
        all_goals
         refine zbl rfl (fun hc8 => ?_) (fun hc8 => ?_)
         ·try simp at hc8
          all_goals
           refine AW_x rfl rfl fun K hK => ?_
           simp (disch := omega) [e, e0, e2, e3, hml, hml3]
           repeat' first | (exfalso; omega) | (refine ⟨fun _ => ?_, fun _ => ?_⟩) | (refine ⟨by omega, ?_⟩) | (simp (disch := omega) [e, e0, e2, e3, hml, hml3]) | (intro _)
           all_goals (refine hK _ ?_; clear hK K)
           all_goals
            refine zbo (zcc [] [] (by simp [List.range_succ, zbc, zbj, zbe]) (by simp) ?_)
            simp (disch := omega) [e, e0, e2, e3, hml, hml3]
            all_goals skip
         try simp at hc8
         refine zbn ?_
         refine zbq ?_
         refine AW_x rfl rfl fun K hK => ?_
         simp (disch := omega) [e, e0, e2, e3, hml, hml3]
         repeat' first | (exfalso; omega) | (refine ⟨fun _ => ?_, fun _ => ?_⟩) | (refine ⟨by omega, ?_⟩) | (simp (disch := omega) [e, e0, e2, e3, hml, hml3]) | (intro _)
         all_goals (refine hK _ ?_; clear hK K)
         all_goals
          refine AW_x rfl rfl fun K hK => ?_
          simp (disch := omega) [e, e0, e2, e3, hml, hml3]
          repeat' first | (exfalso; omega) | (refine zdm [592, 593] true [] (zh5 s 1 (by omega) (by omega)) ?_ ?_ ?_; (focus (simp [List.range_succ, nmC]; done)); (focus (simp (disch := omega) [e, e0, e2, e3, hml, hml3, zbp]; done)); simp (disch := omega) [e, e0, e2, e3, hml, hml3]) | (refine zdm [688, 689] true [] (zh5 (stC s m) 1 (by omega) (by omega)) ?_ ?_ ?_; (focus (simp [List.range_succ, nmC]; done)); (focus (simp (disch := omega) [e, e0, e2, e3, hml, hml3, zbp]; done)); simp (disch := omega) [e, e0, e2, e3, hml, hml3]) | (refine ⟨by omega, ?_⟩) | (simp (disch := omega) [e, e0, e2, e3, hml, hml3]) | (intro _)
          refine hK _ ?_; clear hK K
          refine AW_x rfl rfl fun K hK => ?_
          simp (disch := omega) [e, e0, e2, e3, hml, hml3]
          repeat' first | (exfalso; omega) | (refine zdm [624] true [] (markCmd m (1 + cvState s) (by omega) (by omega)) ?_ ?_ ?_; (focus (simp [List.range_succ, nmC]; done)); (focus (simp (disch := omega) [e, e0, e2, e3, hml, hml3, zbp]; done)); simp (disch := omega) [e, e0, e2, e3, hml, hml3]) | (refine ⟨by omega, ?_⟩) | (simp (disch := omega) [e, e0, e2, e3, hml, hml3]) | (intro _)
          refine hK _ ?_; clear hK K
          refine zbm ?_
          refine AW_x rfl rfl fun K hK => ?_
          simp (disch := omega) [e, e0, e2, e3, hml, hml3]
          repeat' first | (exfalso; omega) | (refine zdq (zbh (zbz rfl) (zbh (zbz rfl) zbs)) (zdt s s (by omega)) rfl ?_; simp (disch := omega) [e, e0, e2, e3, hml, hml3]) | (refine zdr (zdt s s (by omega)) (by rfl) ?_ ?_; (focus (simp (disch := omega) [e, e0, e2, e3, hml, hml3, zbp]; done)); simp (disch := omega) [e, e0, e2, e3, hml, hml3]) | (refine zdq (zbh (zbz rfl) (zbh (zbz rfl) zbs)) (zdt (stC s m) (stC s m) (by omega)) rfl ?_; simp (disch := omega) [e, e0, e2, e3, hml, hml3]) | (refine zdr (zdt (stC s m) (stC s m) (by omega)) (by rfl) ?_ ?_; (focus (simp (disch := omega) [e, e0, e2, e3, hml, hml3, zbp]; done)); simp (disch := omega) [e, e0, e2, e3, hml, hml3]) | (refine ⟨fun _ => ?_, fun _ => ?_⟩) | (refine ⟨by omega, ?_⟩) | (simp (disch := omega) [e, e0, e2, e3, hml, hml3]) | (intro _)
          all_goals (refine hK _ ?_; clear hK K)
          all_goals
           refine zbl rfl (fun hc9 => ?_) (fun hc9 => ?_)
           ·try simp at hc9
            all_goals
             refine AW_x rfl rfl fun K hK => ?_
             simp (disch := omega) [e, e0, e2, e3, hml, hml3]
             repeat' first | (exfalso; omega) | (refine ⟨fun _ => ?_, fun _ => ?_⟩) | (refine ⟨by omega, ?_⟩) | (simp (disch := omega) [e, e0, e2, e3, hml, hml3]) | (intro _)
             all_goals (refine hK _ ?_; clear hK K)
             all_goals
              refine zbo (zcc [] [] (by simp [List.range_succ, zbc, zbj, zbe]) (by simp) ?_)
              simp (disch := omega) [e, e0, e2, e3, hml, hml3]
              all_goals skip
           try simp at hc9
           refine zbn ?_
           refine zbq ?_
           refine AW_x rfl rfl fun K hK => ?_
           simp (disch := omega) [e, e0, e2, e3, hml, hml3]
           repeat' first | (exfalso; omega) | (refine ⟨fun _ => ?_, fun _ => ?_⟩) | (refine ⟨by omega, ?_⟩) | (simp (disch := omega) [e, e0, e2, e3, hml, hml3]) | (intro _)
           all_goals (refine hK _ ?_; clear hK K)
           all_goals
            refine AW_x rfl rfl fun K hK => ?_
            simp (disch := omega) [e, e0, e2, e3, hml, hml3]
            repeat' first | (exfalso; omega) | (refine zdm [592, 593] true [] (zh5 s 1 (by omega) (by omega)) ?_ ?_ ?_; (focus (simp [List.range_succ, nmC]; done)); (focus (simp (disch := omega) [e, e0, e2, e3, hml, hml3, zbp]; done)); simp (disch := omega) [e, e0, e2, e3, hml, hml3]) | (refine zdm [688, 689] true [] (zh5 (stC s m) 1 (by omega) (by omega)) ?_ ?_ ?_; (focus (simp [List.range_succ, nmC]; done)); (focus (simp (disch := omega) [e, e0, e2, e3, hml, hml3, zbp]; done)); simp (disch := omega) [e, e0, e2, e3, hml, hml3]) | (refine ⟨by omega, ?_⟩) | (simp (disch := omega) [e, e0, e2, e3, hml, hml3]) | (intro _)
            refine hK _ ?_; clear hK K
            refine AW_x rfl rfl fun K hK => ?_
            simp (disch := omega) [e, e0, e2, e3, hml, hml3]
            repeat' first | (refine ⟨by omega, ?_⟩) | (intro _)
            refine hK _ ?_; clear hK K
            refine AW_x rfl rfl fun K hK => ?_
            simp (disch := omega) [e, e0, e2, e3, hml, hml3]
            repeat' first | (exfalso; omega) | (refine zdq (zbh (zbz rfl) (zbh zcp zbs)) (zh6 (stC s m) 1 (by omega) (by omega)) rfl ?_; simp (disch := omega) [e, e0, e2, e3, hml, hml3]) | (refine zdr (zh6 (stC s m) 1 (by omega) (by omega)) (by rfl) ?_ ?_; (focus (simp (disch := omega) [e, e0, e2, e3, hml, hml3, zbp]; done)); simp (disch := omega) [e, e0, e2, e3, hml, hml3]) | (refine ⟨by omega, ?_⟩) | (simp (disch := omega) [e, e0, e2, e3, hml, hml3]) | (intro _)
            refine hK _ ?_; clear hK K
            refine zbm ?_
            refine AW_x rfl rfl fun K hK => ?_
            simp (disch := omega) [e, e0, e2, e3, hml, hml3]
            repeat' first | (refine ⟨by omega, ?_⟩) | (intro _)
            refine hK _ ?_; clear hK K
            refine zbl rfl (fun hc10 => ?_) (fun hc10 => ?_)
            ·try simp at hc10
             all_goals
              refine AW_x rfl rfl fun K hK => ?_
              simp (disch := omega) [e, e0, e2, e3, hml, hml3]
              repeat' first | (exfalso; omega) | (refine ⟨fun _ => ?_, fun _ => ?_⟩) | (refine ⟨by omega, ?_⟩) | (simp (disch := omega) [e, e0, e2, e3, hml, hml3]) | (intro _)
              all_goals (refine hK _ ?_; clear hK K)
              all_goals
               refine zbo (zcc [] [] (by simp [List.range_succ, zbc, zbj, zbe]) (by simp) ?_)
               simp (disch := omega) [e, e0, e2, e3, hml, hml3]
               all_goals skip
            try simp at hc10
            refine zbn ?_
            refine zbq ?_
            refine zbm ?_
            refine AW_x rfl rfl fun K hK => ?_
            simp (disch := omega) [e, e0, e2, e3, hml, hml3]
            repeat' first | (exfalso; omega) | (refine ⟨fun _ => ?_, fun _ => ?_⟩) | (refine ⟨by omega, ?_⟩) | (simp (disch := omega) [e, e0, e2, e3, hml, hml3]) | (intro _)
            all_goals (refine hK _ ?_; clear hK K)
            all_goals
             refine zbl rfl (fun hc11 => ?_) (fun hc11 => ?_)
             ·try simp at hc11
              all_goals
               refine AW_x rfl rfl fun K hK => ?_
               simp (disch := omega) [e, e0, e2, e3, hml, hml3]
               repeat' first | (exfalso; omega) | (refine ⟨fun _ => ?_, fun _ => ?_⟩) | (refine ⟨by omega, ?_⟩) | (simp (disch := omega) [e, e0, e2, e3, hml, hml3]) | (intro _)
               all_goals (refine hK _ ?_; clear hK K)
               all_goals
                refine zbo (zcc [] [] (by simp [List.range_succ, zbc, zbj, zbe]) (by simp) ?_)
                simp (disch := omega) [e, e0, e2, e3, hml, hml3]
                all_goals skip
             try simp at hc11
             refine zbn ?_
             refine zbq ?_
             refine AW_d rfl mix (by kernel_rfl) (by kernel_rfl) fun K hK => ?_
             simp (disch := omega) [e, e0, e2, e3, hml, hml3]
             repeat' first | (exfalso; omega) | (refine zhm [] true [] (zko s (by omega)) ?_ (fun st' hst => ?_) ?_; (focus (simp [List.range_succ, nmC]; done)); (focus (simp (disch := omega) [e, e0, e2, e3, hml, hml3, nmC, List.range_succ] at hst; simp (disch := omega) [e, e0, e2, e3, hml, hml3, hst, zbp, nmC, List.range_succ]; done)); simp (disch := omega) [e, e0, e2, e3, hml, hml3]) | (refine zhm [] true [] (zvd m (by omega)) ?_ (fun st' hst => ?_) ?_; (focus (simp [List.range_succ, nmC]; done)); (focus (simp (disch := omega) [e, e0, e2, e3, hml, hml3, nmC, List.range_succ] at hst; simp (disch := omega) [e, e0, e2, e3, hml, hml3, hst, zbp, nmC, List.range_succ]; done)); simp (disch := omega) [e, e0, e2, e3, hml, hml3]) | (refine zhm [] true [] (zme s m (by omega) (by omega)) ?_ (fun st' hst => ?_) ?_; (focus (simp [List.range_succ, nmC]; done)); (focus (simp (disch := omega) [e, e0, e2, e3, hml, hml3, nmC, List.range_succ] at hst; simp (disch := omega) [e, e0, e2, e3, hml, hml3, hst, zbp, nmC, List.range_succ]; done)); simp (disch := omega) [e, e0, e2, e3, hml, hml3]) | (refine ⟨fun _ => ?_, fun _ => ?_⟩) | (refine ⟨by omega, ?_⟩) | (simp (disch := omega) [e, e0, e2, e3, hml, hml3]) | (intro _)
             all_goals (refine hK _ _ (by kernel_rfl) ?_; clear hK K)
             all_goals
              refine zbm ?_
              refine AW_x rfl rfl fun K hK => ?_
              simp (disch := omega) [e, e0, e2, e3, hml, hml3]
              repeat' first | (exfalso; omega) | (refine zdq (zbh (zbz rfl) (zbh (zbz rfl) zbs)) (zdt s s (by omega)) rfl ?_; simp (disch := omega) [e, e0, e2, e3, hml, hml3]) | (refine zdr (zdt s s (by omega)) (by rfl) ?_ ?_; (focus (simp (disch := omega) [e, e0, e2, e3, hml, hml3, zbp]; done)); simp (disch := omega) [e, e0, e2, e3, hml, hml3]) | (refine zdq (zbh (zbz rfl) (zbh (zbz rfl) zbs)) (zdt (stC s m) (stC s m) (by omega)) rfl ?_; simp (disch := omega) [e, e0, e2, e3, hml, hml3]) | (refine zdr (zdt (stC s m) (stC s m) (by omega)) (by rfl) ?_ ?_; (focus (simp (disch := omega) [e, e0, e2, e3, hml, hml3, zbp]; done)); simp (disch := omega) [e, e0, e2, e3, hml, hml3]) | (refine ⟨fun _ => ?_, fun _ => ?_⟩) | (refine ⟨by omega, ?_⟩) | (simp (disch := omega) [e, e0, e2, e3, hml, hml3]) | (intro _)
              all_goals (refine hK _ ?_; clear hK K)
              all_goals
               refine zbl rfl (fun hc12 => ?_) (fun hc12 => ?_)
               ·try simp at hc12
                all_goals
                 refine AW_x rfl rfl fun K hK => ?_
                 simp (disch := omega) [e, e0, e2, e3, hml, hml3]
                 repeat' first | (exfalso; omega) | (refine ⟨fun _ => ?_, fun _ => ?_⟩) | (refine ⟨by omega, ?_⟩) | (simp (disch := omega) [e, e0, e2, e3, hml, hml3]) | (intro _)
                 all_goals (refine hK _ ?_; clear hK K)
                 all_goals
                  refine zbo (zcc [] [] (by simp [List.range_succ, zbc, zbj, zbe]) (by simp) ?_)
                  simp (disch := omega) [e, e0, e2, e3, hml, hml3]
                  all_goals skip
               try simp at hc12
               refine zbn ?_
               refine zbq ?_
               refine AW_x rfl rfl fun K hK => ?_
               simp (disch := omega) [e, e0, e2, e3, hml, hml3]
               repeat' first | (exfalso; omega) | (refine ⟨fun _ => ?_, fun _ => ?_⟩) | (refine ⟨by omega, ?_⟩) | (simp (disch := omega) [e, e0, e2, e3, hml, hml3]) | (intro _)
               all_goals (refine hK _ ?_; clear hK K)
               all_goals
                refine AW_x rfl rfl fun K hK => ?_
                simp (disch := omega) [e, e0, e2, e3, hml, hml3]
                repeat' first | (exfalso; omega) | (refine zdq (zbh (zbz rfl) (zbh zcp zbs)) (zh6 (stC s m) 1 (by omega) (by omega)) rfl ?_; simp (disch := omega) [e, e0, e2, e3, hml, hml3]) | (refine zdr (zh6 (stC s m) 1 (by omega) (by omega)) (by rfl) ?_ ?_; (focus (simp (disch := omega) [e, e0, e2, e3, hml, hml3, zbp]; done)); simp (disch := omega) [e, e0, e2, e3, hml, hml3]) | (refine ⟨by omega, ?_⟩) | (simp (disch := omega) [e, e0, e2, e3, hml, hml3]) | (intro _)
                refine hK _ ?_; clear hK K
                refine zbm ?_
                refine AW_x rfl rfl fun K hK => ?_
                simp (disch := omega) [e, e0, e2, e3, hml, hml3]
                repeat' first | (refine ⟨by omega, ?_⟩) | (intro _)
                refine hK _ ?_; clear hK K
                refine zbl rfl (fun hc13 => ?_) (fun hc13 => ?_)
                ·try simp at hc13
                 all_goals
                  refine AW_x rfl rfl fun K hK => ?_
                  simp (disch := omega) [e, e0, e2, e3, hml, hml3]
                  repeat' first | (exfalso; omega) | (refine ⟨fun _ => ?_, fun _ => ?_⟩) | (refine ⟨by omega, ?_⟩) | (simp (disch := omega) [e, e0, e2, e3, hml, hml3]) | (intro _)
                  all_goals (refine hK _ ?_; clear hK K)
                  all_goals
                   refine zbo (zcc [] [] (by simp [List.range_succ, zbc, zbj, zbe]) (by simp) ?_)
                   simp (disch := omega) [e, e0, e2, e3, hml, hml3]
                   all_goals skip
                try simp at hc13
                refine zbn ?_
                refine zbq ?_
                refine zbm ?_
                refine AW_x rfl rfl fun K hK => ?_
                simp (disch := omega) [e, e0, e2, e3, hml, hml3]
                repeat' first | (exfalso; omega) | (refine ⟨fun _ => ?_, fun _ => ?_⟩) | (refine ⟨by omega, ?_⟩) | (simp (disch := omega) [e, e0, e2, e3, hml, hml3]) | (intro _)
                all_goals (refine hK _ ?_; clear hK K)
                all_goals
                 refine zbl rfl (fun hc14 => ?_) (fun hc14 => ?_)
                 ·try simp at hc14
                  all_goals
                   refine AW_x rfl rfl fun K hK => ?_
                   simp (disch := omega) [e, e0, e2, e3, hml, hml3]
                   repeat' first | (exfalso; omega) | (refine ⟨fun _ => ?_, fun _ => ?_⟩) | (refine ⟨by omega, ?_⟩) | (simp (disch := omega) [e, e0, e2, e3, hml, hml3]) | (intro _)
                   all_goals (refine hK _ ?_; clear hK K)
                   all_goals
                    refine zbo (zcc [] [] (by simp [List.range_succ, zbc, zbj, zbe]) (by simp) ?_)
                    simp (disch := omega) [e, e0, e2, e3, hml, hml3]
                    all_goals skip
                 try simp at hc14
                 refine zbn ?_
                 refine zbq ?_
                 refine AW_x rfl rfl fun K hK => ?_
                 simp (disch := omega) [e, e0, e2, e3, hml, hml3]
                 repeat' first | (exfalso; omega) | (refine ⟨fun _ => ?_, fun _ => ?_⟩) | (refine ⟨by omega, ?_⟩) | (simp (disch := omega) [e, e0, e2, e3, hml, hml3]) | (intro _)
                 all_goals (refine hK _ ?_; clear hK K)
                 all_goals
                  refine zbo (zcc [] [] (by simp [List.range_succ, zbc, zbj, zbe]) (by simp) ?_)
                  simp (disch := omega) [e, e0, e2, e3, hml, hml3]
                  all_goals skip
theorem zw2 (s : DtState) (hw : DtState.wf s) (m : DtCmd) (hwm : DtCmd.wf m) : PCall Tryz.prog 3 [.agg (DtState.cells s), .agg (DtCmd.cells m)] (.g (.bool (true))) := zwj (ztg s hw m hwm)
end Go.Proofs.YtmheohnbkaoipaaGreat.Vs
