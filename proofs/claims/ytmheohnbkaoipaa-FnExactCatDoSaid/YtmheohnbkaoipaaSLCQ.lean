import Derived.Test.YtmheohnbkaoipaaSCpQ
open Go Go.Proofs Go.Proofs.Ytmheohnbkaoipaa.Vs
namespace Go.Proofs.Ytmheohnbkaoipaa.Vs
set_option linter.all false
set_option linter.unusedSimpArgs false
set_option linter.unusedVariables false
set_option maxRecDepth 100000
set_option maxHeartbeats 4000000
theorem chunks_sz (m : DtCmd) (hm : DtCmd.sz m ≤ 1048576) : m.fChunks.length ≤ 1048576 := by
  have := len_szS lenZ_nonneg m.fChunks
  simp only [DtCmd.sz] at hm
  omega
theorem implCatC (c : DtCatalog) (m : DtCmd) (hs : DtCatalog.sz c ≤ 1048576) (hm : DtCmd.sz m ≤ 1048576) : XCall Try.prog 13 [.agg (DtCatalog.cells c), .agg (DtCmd.cells m)] [] (.tup [.agg [.arr 16 0 (catC c m).fSets.length], .s (catR c m)]) [] [.own 2 ((catC c m).fSets.map DtCSet.cells)] := implCatDo c m hs hm (chunks_sz m hm)
theorem specCatC (c : DtCatalog) (m : DtCmd) (hs : DtCatalog.sz c ≤ 1048576) (hm : DtCmd.sz m ≤ 1048576) : XCall Try.prog 10 [.agg (DtCatalog.cells c), .agg (DtCmd.cells m)] [] (.tup [.agg [.arr 16 0 (catC c m).fSets.length], .s (catR c m)]) [] [.own 2 ((catC c m).fSets.map DtCSet.cells)] := specCatDo c m hs hm (chunks_sz m hm)
theorem lawCatDoX (c : DtCatalog) (hw : DtCatalog.wf c) (m : DtCmd) (hwm : DtCmd.wf m) : XCall Try.prog 3 [.agg (DtCatalog.cells c), .agg (DtCmd.cells m)] [] (.g (.bool (true))) [] [] := by
  have hq := DtCatalog.sz_nonneg c
  have hqm := DtCmd.sz_nonneg m
  by_cases h : (1048576 : Int) - DtCatalog.sz c < 0
  · have e : szR 1048576 (DtCatalog.sz c) = -1 := by unfold szR; rw [if_pos h]
    refine xcall_of_walk Try.func3 (by rfl) (by rfl) (by rw [Try.ntmps3]; exact Nat.le_of_ble_eq_true rfl) rfl (by simp) rfl rfl ?_
    rw [Try.ntmps3]
    refine AW_x0   ?_
    refine AW_k [(0, _), (1, _)] ⟨rfl, rfl, trivial⟩ ?_
    refine AW_x rfl rfl fun K hK => ?_
    simp (disch := omega) [wrap64, gE, tP, e, DtCatalog.cells, DtCmd.cells]
    repeat' first | (refine ⟨by omega, ?_⟩) | (intro _)
    refine hK _ ?_; clear hK K
    refine AW_x rfl rfl fun K hK => ?_
    simp (disch := omega) [wrap64, gE, tP, e, DtCatalog.cells, DtCmd.cells]
    repeat' first | (refine ⟨by omega, ?_⟩) | (intro _)
    refine hK _ ?_; clear hK K
    refine AW_x rfl rfl fun K hK => ?_
    simp (disch := omega) [wrap64, gE, tP, e, DtCatalog.cells, DtCmd.cells]
    repeat' first | (exfalso; omega) | (refine XKd_v (am2s_cons (am2_agg rfl) (am2s_cons am2_g am2s_nil)) (szCatalog _ _ (by omega) hw) rfl ?_; simp (disch := omega) [wrap64, gE, tP, e, DtCatalog.cells, DtCmd.cells]) | (refine XKd_p (szCatalog _ _ (by omega) hw) (by rfl) ?_ ?_; (focus (simp (disch := omega) [wrap64, gE, tP, e, DtCatalog.cells, DtCmd.cells, take_map_n]; done)); simp (disch := omega) [wrap64, gE, tP, e, DtCatalog.cells, DtCmd.cells]) | (refine ⟨by omega, ?_⟩) | (intro _)
    refine hK _ ?_; clear hK K
    refine AW_seq ?_
    refine AW_x rfl rfl fun K hK => ?_
    simp (disch := omega) [wrap64, gE, tP, e, DtCatalog.cells, DtCmd.cells]
    repeat' first | (refine ⟨by omega, ?_⟩) | (intro _)
    refine hK _ ?_; clear hK K
    refine AW_cond rfl (fun hc1 => ?_) (fun hc1 => ?_)
    · try simp at hc1
      all_goals
       refine AW_x rfl rfl fun K hK => ?_
       simp (disch := omega) [wrap64, gE, tP, e, DtCatalog.cells, DtCmd.cells]
       repeat' first | (exfalso; omega) | (refine ⟨fun _ => ?_, fun _ => ?_⟩) | (refine ⟨by omega, ?_⟩) | (intro _)
       all_goals (refine hK _ ?_; clear hK K)
       all_goals
        refine AW_ret (end_x [] [] (by simp [List.range_succ, lk_cons, lk_nil, upd_app]) (by simp) ?_)
        simp (disch := omega) [wrap64, gE, tP, e, DtCatalog.cells, DtCmd.cells]
        all_goals skip
    try simp at hc1
  · have e : szR 1048576 (DtCatalog.sz c) = 1048576 - DtCatalog.sz c := by unfold szR; rw [if_neg h]
    by_cases h2 : (1048576 : Int) - DtCatalog.sz c - DtCmd.sz m < 0
    · have e2 : szR (1048576 - DtCatalog.sz c) (DtCmd.sz m) = -1 := by unfold szR; rw [if_pos h2]
      have e0 : (0 : Int) ≤ 1048576 - DtCatalog.sz c := by omega
      refine xcall_of_walk Try.func3 (by rfl) (by rfl) (by rw [Try.ntmps3]; exact Nat.le_of_ble_eq_true rfl) rfl (by simp) rfl rfl ?_
      rw [Try.ntmps3]
      refine AW_x0   ?_
      refine AW_k [(0, _), (1, _)] ⟨rfl, rfl, trivial⟩ ?_
      refine AW_x rfl rfl fun K hK => ?_
      simp (disch := omega) [wrap64, gE, tP, e, e0, e2, DtCatalog.cells, DtCmd.cells]
      repeat' first | (exfalso; omega) | (refine ⟨fun _ => ?_, fun _ => ?_⟩) | (refine ⟨by omega, ?_⟩) | (intro _)
      all_goals (refine hK _ ?_; clear hK K)
      all_goals
       refine AW_x rfl rfl fun K hK => ?_
       simp (disch := omega) [wrap64, gE, tP, e, e0, e2, DtCatalog.cells, DtCmd.cells]
       repeat' first | (refine ⟨by omega, ?_⟩) | (intro _)
       refine hK _ ?_; clear hK K
       refine AW_x rfl rfl fun K hK => ?_
       simp (disch := omega) [wrap64, gE, tP, e, e0, e2, DtCatalog.cells, DtCmd.cells]
       repeat' first | (exfalso; omega) | (refine XKd_v (am2s_cons (am2_agg rfl) (am2s_cons am2_g am2s_nil)) (szCatalog _ _ (by omega) hw) rfl ?_; simp (disch := omega) [wrap64, gE, tP, e, e0, e2, DtCatalog.cells, DtCmd.cells]) | (refine XKd_p (szCatalog _ _ (by omega) hw) (by rfl) ?_ ?_; (focus (simp (disch := omega) [wrap64, gE, tP, e, e0, e2, DtCatalog.cells, DtCmd.cells, take_map_n]; done)); simp (disch := omega) [wrap64, gE, tP, e, e0, e2, DtCatalog.cells, DtCmd.cells]) | (refine ⟨by omega, ?_⟩) | (intro _)
       refine hK _ ?_; clear hK K
       refine AW_seq ?_
       refine AW_x rfl rfl fun K hK => ?_
       simp (disch := omega) [wrap64, gE, tP, e, e0, e2, DtCatalog.cells, DtCmd.cells]
       repeat' first | (refine ⟨by omega, ?_⟩) | (intro _)
       refine hK _ ?_; clear hK K
       refine AW_cond rfl (fun hc2 => ?_) (fun hc2 => ?_)
       · try simp at hc2
         all_goals
          refine AW_x rfl rfl fun K hK => ?_
          simp (disch := omega) [wrap64, gE, tP, e, e0, e2, DtCatalog.cells, DtCmd.cells]
          repeat' first | (exfalso; omega) | (refine ⟨fun _ => ?_, fun _ => ?_⟩) | (refine ⟨by omega, ?_⟩) | (intro _)
          all_goals (refine hK _ ?_; clear hK K)
          all_goals
           refine AW_ret (end_x [] [] (by simp [List.range_succ, lk_cons, lk_nil, upd_app]) (by simp) ?_)
           simp (disch := omega) [wrap64, gE, tP, e, e0, e2, DtCatalog.cells, DtCmd.cells]
           all_goals skip
       try simp at hc2
       refine AW_skip ?_
       refine AW_id ?_
       refine AW_x rfl rfl fun K hK => ?_
       simp (disch := omega) [wrap64, gE, tP, e, e0, e2, DtCatalog.cells, DtCmd.cells]
       repeat' first | (exfalso; omega) | (refine XKd_v (am2s_cons (am2_agg rfl) (am2s_cons am2_g am2s_nil)) (szCmd _ _ (by omega) hwm) rfl ?_; simp (disch := omega) [wrap64, gE, tP, e, e0, e2, DtCatalog.cells, DtCmd.cells]) | (refine XKd_p (szCmd _ _ (by omega) hwm) (by rfl) ?_ ?_; (focus (simp (disch := omega) [wrap64, gE, tP, e, e0, e2, DtCatalog.cells, DtCmd.cells, take_map_n]; done)); simp (disch := omega) [wrap64, gE, tP, e, e0, e2, DtCatalog.cells, DtCmd.cells]) | (refine ⟨fun _ => ?_, fun _ => ?_⟩) | (refine ⟨by omega, ?_⟩) | (intro _)
       all_goals (refine hK _ ?_; clear hK K)
       all_goals
        refine AW_seq ?_
        refine AW_x rfl rfl fun K hK => ?_
        simp (disch := omega) [wrap64, gE, tP, e, e0, e2, DtCatalog.cells, DtCmd.cells]
        repeat' first | (refine ⟨by omega, ?_⟩) | (intro _)
        refine hK _ ?_; clear hK K
        refine AW_cond rfl (fun hc3 => ?_) (fun hc3 => ?_)
        · try simp at hc3
          all_goals
           refine AW_x rfl rfl fun K hK => ?_
           simp (disch := omega) [wrap64, gE, tP, e, e0, e2, DtCatalog.cells, DtCmd.cells]
           repeat' first | (exfalso; omega) | (refine ⟨fun _ => ?_, fun _ => ?_⟩) | (refine ⟨by omega, ?_⟩) | (intro _)
           all_goals (refine hK _ ?_; clear hK K)
           all_goals
            refine AW_ret (end_x [] [] (by simp [List.range_succ, lk_cons, lk_nil, upd_app]) (by simp) ?_)
            simp (disch := omega) [wrap64, gE, tP, e, e0, e2, DtCatalog.cells, DtCmd.cells]
            all_goals skip
        try simp at hc3
    · have e2 : szR (1048576 - DtCatalog.sz c) (DtCmd.sz m) = 1048576 - DtCatalog.sz c - DtCmd.sz m := by unfold szR; rw [if_neg h2]
      have e0 : (0 : Int) ≤ 1048576 - DtCatalog.sz c := by omega
      have e3 : (0 : Int) ≤ 1048576 - DtCatalog.sz c - DtCmd.sz m := by omega
      have hcs := catC_sz c m
      have hcv := cntCatalog_sz c
      have hcn := cvCatalog_nn c
      have hcc : cvCatalog c = cntCatalog c := rfl
      have hcv2 := cntCatalog_sz (catC c m)
      have hcn2 := cvCatalog_nn (catC c m)
      have hcc2 : cvCatalog (catC c m) = cntCatalog (catC c m) := rfl
      have hcm := cntCmd_sz m
      have hcmn := cvCmd_nn m
      have hcmm : cvCmd m ≤ 1048576 := by have := chunks_sz m (by omega); unfold cvCmd; omega
      have hml : (mkS mkCSet cntCSet 1 (catC c m).fSets).length = (catC c m).fSets.length := mkS_len _ _ _ _
      refine xcall_of_walk Try.func3 (by rfl) (by rfl) (by rw [Try.ntmps3]; exact Nat.le_of_ble_eq_true rfl) rfl (by simp) rfl rfl ?_
      rw [Try.ntmps3]
      refine AW_x0   ?_
      refine AW_k [(0, _), (1, _)] ⟨rfl, rfl, trivial⟩ ?_
      refine AW_x rfl rfl fun K hK => ?_
      simp (disch := omega) [wrap64, gE, tP, e, e0, e2, e3, eqB_self, DtCatalog.cells, DtCmd.cells, mvCatalog, hml]
      repeat' first | (exfalso; omega) | (refine ⟨fun _ => ?_, fun _ => ?_⟩) | (refine ⟨by omega, ?_⟩) | (intro _)
      all_goals (refine hK _ ?_; clear hK K)
      all_goals
       refine AW_x rfl rfl fun K hK => ?_
       simp (disch := omega) [wrap64, gE, tP, e, e0, e2, e3, eqB_self, DtCatalog.cells, DtCmd.cells, mvCatalog, hml]
       repeat' first | (refine ⟨by omega, ?_⟩) | (intro _)
       refine hK _ ?_; clear hK K
       refine AW_x rfl rfl fun K hK => ?_
       simp (disch := omega) [wrap64, gE, tP, e, e0, e2, e3, eqB_self, DtCatalog.cells, DtCmd.cells, mvCatalog, hml]
       repeat' first | (exfalso; omega) | (refine XKd_v (am2s_cons (am2_agg rfl) (am2s_cons am2_g am2s_nil)) (szCatalog _ _ (by omega) hw) rfl ?_; simp (disch := omega) [wrap64, gE, tP, e, e0, e2, e3, eqB_self, DtCatalog.cells, DtCmd.cells, mvCatalog, hml]) | (refine XKd_p (szCatalog _ _ (by omega) hw) (by rfl) ?_ ?_; (focus (simp (disch := omega) [wrap64, gE, tP, e, e0, e2, e3, eqB_self, DtCatalog.cells, DtCmd.cells, mvCatalog, hml, take_map_n]; done)); simp (disch := omega) [wrap64, gE, tP, e, e0, e2, e3, eqB_self, DtCatalog.cells, DtCmd.cells, mvCatalog, hml]) | (refine ⟨by omega, ?_⟩) | (intro _)
       refine hK _ ?_; clear hK K
       refine AW_seq ?_
       refine AW_x rfl rfl fun K hK => ?_
       simp (disch := omega) [wrap64, gE, tP, e, e0, e2, e3, eqB_self, DtCatalog.cells, DtCmd.cells, mvCatalog, hml]
       repeat' first | (refine ⟨by omega, ?_⟩) | (intro _)
       refine hK _ ?_; clear hK K
       refine AW_cond rfl (fun hc4 => ?_) (fun hc4 => ?_)
       · try simp at hc4
         all_goals
          refine AW_x rfl rfl fun K hK => ?_
          simp (disch := omega) [wrap64, gE, tP, e, e0, e2, e3, eqB_self, DtCatalog.cells, DtCmd.cells, mvCatalog, hml]
          repeat' first | (exfalso; omega) | (refine ⟨fun _ => ?_, fun _ => ?_⟩) | (refine ⟨by omega, ?_⟩) | (intro _)
          all_goals (refine hK _ ?_; clear hK K)
          all_goals
           refine AW_ret (end_x [] [] (by simp [List.range_succ, lk_cons, lk_nil, upd_app]) (by simp) ?_)
           simp (disch := omega) [wrap64, gE, tP, e, e0, e2, e3, eqB_self, DtCatalog.cells, DtCmd.cells, mvCatalog, hml]
           all_goals skip
       try simp at hc4
       refine AW_skip ?_
       refine AW_id ?_
       refine AW_x rfl rfl fun K hK => ?_
       simp (disch := omega) [wrap64, gE, tP, e, e0, e2, e3, eqB_self, DtCatalog.cells, DtCmd.cells, mvCatalog, hml]
       repeat' first | (exfalso; omega) | (refine XKd_v (am2s_cons (am2_agg rfl) (am2s_cons am2_g am2s_nil)) (szCmd _ _ (by omega) hwm) rfl ?_; simp (disch := omega) [wrap64, gE, tP, e, e0, e2, e3, eqB_self, DtCatalog.cells, DtCmd.cells, mvCatalog, hml]) | (refine XKd_p (szCmd _ _ (by omega) hwm) (by rfl) ?_ ?_; (focus (simp (disch := omega) [wrap64, gE, tP, e, e0, e2, e3, eqB_self, DtCatalog.cells, DtCmd.cells, mvCatalog, hml, take_map_n]; done)); simp (disch := omega) [wrap64, gE, tP, e, e0, e2, e3, eqB_self, DtCatalog.cells, DtCmd.cells, mvCatalog, hml]) | (refine ⟨fun _ => ?_, fun _ => ?_⟩) | (refine ⟨by omega, ?_⟩) | (intro _)
       all_goals (refine hK _ ?_; clear hK K)
       all_goals
        refine AW_seq ?_
        refine AW_x rfl rfl fun K hK => ?_
        simp (disch := omega) [wrap64, gE, tP, e, e0, e2, e3, eqB_self, DtCatalog.cells, DtCmd.cells, mvCatalog, hml]
        repeat' first | (refine ⟨by omega, ?_⟩) | (intro _)
        refine hK _ ?_; clear hK K
        refine AW_cond rfl (fun hc5 => ?_) (fun hc5 => ?_)
        · try simp at hc5
          all_goals
           refine AW_x rfl rfl fun K hK => ?_
           simp (disch := omega) [wrap64, gE, tP, e, e0, e2, e3, eqB_self, DtCatalog.cells, DtCmd.cells, mvCatalog, hml]
           repeat' first | (exfalso; omega) | (refine ⟨fun _ => ?_, fun _ => ?_⟩) | (refine ⟨by omega, ?_⟩) | (intro _)
           all_goals (refine hK _ ?_; clear hK K)
           all_goals
            refine AW_ret (end_x [] [] (by simp [List.range_succ, lk_cons, lk_nil, upd_app]) (by simp) ?_)
            simp (disch := omega) [wrap64, gE, tP, e, e0, e2, e3, eqB_self, DtCatalog.cells, DtCmd.cells, mvCatalog, hml]
            all_goals skip
        try simp at hc5
        refine AW_skip ?_
        refine AW_id ?_
        refine AW_d rfl mix (by kernel_rfl) (by kernel_rfl) fun K hK => ?_
        simp (disch := omega) [wrap64, gE, tP, e, e0, e2, e3, eqB_self, DtCatalog.cells, DtCmd.cells, mvCatalog, hml]
        repeat' first | (exfalso; omega) | (refine DKd_y [] true [] (toCatalogX c (by omega)) ?_ (fun st' hst => ?_) ?_; (focus (simp [List.range_succ, nmC]; done)); (focus (simp (disch := omega) [wrap64, gE, tP, e, e0, e2, e3, eqB_self, DtCatalog.cells, DtCmd.cells, mvCatalog, hml, nmC, List.range_succ] at hst; simp (disch := omega) [wrap64, gE, tP, e, e0, e2, e3, eqB_self, DtCatalog.cells, DtCmd.cells, mvCatalog, hml, hst, take_map_n, nmC, List.range_succ]; done)); simp (disch := omega) [wrap64, gE, tP, e, e0, e2, e3, eqB_self, DtCatalog.cells, DtCmd.cells, mvCatalog, hml]) | (refine DKd_y [] true [] (toCmdX m (by omega)) ?_ (fun st' hst => ?_) ?_; (focus (simp [List.range_succ, nmC]; done)); (focus (simp (disch := omega) [wrap64, gE, tP, e, e0, e2, e3, eqB_self, DtCatalog.cells, DtCmd.cells, mvCatalog, hml, nmC, List.range_succ] at hst; simp (disch := omega) [wrap64, gE, tP, e, e0, e2, e3, eqB_self, DtCatalog.cells, DtCmd.cells, mvCatalog, hml, hst, take_map_n, nmC, List.range_succ]; done)); simp (disch := omega) [wrap64, gE, tP, e, e0, e2, e3, eqB_self, DtCatalog.cells, DtCmd.cells, mvCatalog, hml]) | (refine DKd_y [] true [] (specCatC c m (by omega) (by omega)) ?_ (fun st' hst => ?_) ?_; (focus (simp [List.range_succ, nmC]; done)); (focus (simp (disch := omega) [wrap64, gE, tP, e, e0, e2, e3, eqB_self, DtCatalog.cells, DtCmd.cells, mvCatalog, hml, nmC, List.range_succ] at hst; simp (disch := omega) [wrap64, gE, tP, e, e0, e2, e3, eqB_self, DtCatalog.cells, DtCmd.cells, mvCatalog, hml, hst, take_map_n, nmC, List.range_succ]; done)); simp (disch := omega) [wrap64, gE, tP, e, e0, e2, e3, eqB_self, DtCatalog.cells, DtCmd.cells, mvCatalog, hml]) | (refine ⟨fun _ => ?_, fun _ => ?_⟩) | (refine ⟨by omega, ?_⟩) | (intro _)
        all_goals (refine hK _ _ (by kernel_rfl) ?_; clear hK K)
        all_goals
         refine AW_x rfl rfl fun K hK => ?_
         simp (disch := omega) [wrap64, gE, tP, e, e0, e2, e3, eqB_self, DtCatalog.cells, DtCmd.cells, mvCatalog, hml]
         repeat' first | (exfalso; omega) | (refine XKd_x [] true [] (toCatalogX c (by omega)) ?_ ?_ ?_; (focus (simp [List.range_succ, nmC]; done)); (focus (simp (disch := omega) [wrap64, gE, tP, e, e0, e2, e3, eqB_self, DtCatalog.cells, DtCmd.cells, mvCatalog, hml, take_map_n]; done)); simp (disch := omega) [wrap64, gE, tP, e, e0, e2, e3, eqB_self, DtCatalog.cells, DtCmd.cells, mvCatalog, hml]) | (refine ⟨by omega, ?_⟩) | (intro _)
         refine hK _ ?_; clear hK K
         refine AW_x rfl rfl fun K hK => ?_
         simp (disch := omega) [wrap64, gE, tP, e, e0, e2, e3, eqB_self, DtCatalog.cells, DtCmd.cells, mvCatalog, hml]
         repeat' first | (exfalso; omega) | (refine XKd_x [] true [] (toCmdX m (by omega)) ?_ ?_ ?_; (focus (simp [List.range_succ, nmC]; done)); (focus (simp (disch := omega) [wrap64, gE, tP, e, e0, e2, e3, eqB_self, DtCatalog.cells, DtCmd.cells, mvCatalog, hml, take_map_n]; done)); simp (disch := omega) [wrap64, gE, tP, e, e0, e2, e3, eqB_self, DtCatalog.cells, DtCmd.cells, mvCatalog, hml]) | (refine ⟨by omega, ?_⟩) | (intro _)
         refine hK _ ?_; clear hK K
         refine AW_x rfl rfl fun K hK => ?_
         simp (disch := omega) [wrap64, gE, tP, e, e0, e2, e3, eqB_self, DtCatalog.cells, DtCmd.cells, mvCatalog, hml]
         repeat' first | (exfalso; omega) | (refine XKd_x [] true [] (implCatC c m (by omega) (by omega)) ?_ ?_ ?_; (focus (simp [List.range_succ, nmC]; done)); (focus (simp (disch := omega) [wrap64, gE, tP, e, e0, e2, e3, eqB_self, DtCatalog.cells, DtCmd.cells, mvCatalog, hml, take_map_n]; done)); simp (disch := omega) [wrap64, gE, tP, e, e0, e2, e3, eqB_self, DtCatalog.cells, DtCmd.cells, mvCatalog, hml]) | (refine ⟨by omega, ?_⟩) | (intro _)
         refine hK _ ?_; clear hK K
         refine AW_seq ?_
         refine AW_x rfl rfl fun K hK => ?_
         simp (disch := omega) [wrap64, gE, tP, e, e0, e2, e3, eqB_self, DtCatalog.cells, DtCmd.cells, mvCatalog, hml]
         repeat' first | (exfalso; omega) | (refine XKd_v (am2s_cons (am2_agg rfl) (am2s_cons (am2_agg rfl) am2s_nil)) (eqCatalog c c (by omega)) rfl ?_; simp (disch := omega) [wrap64, gE, tP, e, e0, e2, e3, eqB_self, DtCatalog.cells, DtCmd.cells, mvCatalog, hml]) | (refine XKd_p (eqCatalog c c (by omega)) (by rfl) ?_ ?_; (focus (simp (disch := omega) [wrap64, gE, tP, e, e0, e2, e3, eqB_self, DtCatalog.cells, DtCmd.cells, mvCatalog, hml, take_map_n]; done)); simp (disch := omega) [wrap64, gE, tP, e, e0, e2, e3, eqB_self, DtCatalog.cells, DtCmd.cells, mvCatalog, hml]) | (refine XKd_v (am2s_cons (am2_agg rfl) (am2s_cons (am2_agg rfl) am2s_nil)) (eqCatalog (catC c m) (catC c m) (by omega)) rfl ?_; simp (disch := omega) [wrap64, gE, tP, e, e0, e2, e3, eqB_self, DtCatalog.cells, DtCmd.cells, mvCatalog, hml]) | (refine XKd_p (eqCatalog (catC c m) (catC c m) (by omega)) (by rfl) ?_ ?_; (focus (simp (disch := omega) [wrap64, gE, tP, e, e0, e2, e3, eqB_self, DtCatalog.cells, DtCmd.cells, mvCatalog, hml, take_map_n]; done)); simp (disch := omega) [wrap64, gE, tP, e, e0, e2, e3, eqB_self, DtCatalog.cells, DtCmd.cells, mvCatalog, hml]) | (refine ⟨fun _ => ?_, fun _ => ?_⟩) | (refine ⟨by omega, ?_⟩) | (intro _)
         all_goals (refine hK _ ?_; clear hK K)
         all_goals
          refine AW_cond rfl (fun hc6 => ?_) (fun hc6 => ?_)
          · try simp at hc6
            all_goals
             refine AW_x rfl rfl fun K hK => ?_
             simp (disch := omega) [wrap64, gE, tP, e, e0, e2, e3, eqB_self, DtCatalog.cells, DtCmd.cells, mvCatalog, hml]
             repeat' first | (exfalso; omega) | (refine ⟨fun _ => ?_, fun _ => ?_⟩) | (refine ⟨by omega, ?_⟩) | (intro _)
             all_goals (refine hK _ ?_; clear hK K)
             all_goals
              refine AW_ret (end_x [] [] (by simp [List.range_succ, lk_cons, lk_nil, upd_app]) (by simp) ?_)
              simp (disch := omega) [wrap64, gE, tP, e, e0, e2, e3, eqB_self, DtCatalog.cells, DtCmd.cells, mvCatalog, hml]
              all_goals skip
          try simp at hc6
          refine AW_skip ?_
          refine AW_id ?_
          refine AW_seq ?_
          refine AW_d rfl mix (by kernel_rfl) (by kernel_rfl) fun K hK => ?_
          simp (disch := omega) [wrap64, gE, tP, e, e0, e2, e3, eqB_self, DtCatalog.cells, DtCmd.cells, mvCatalog, hml]
          repeat' first | (exfalso; omega) | (refine DKd_y [] true [] (toCatalogX c (by omega)) ?_ (fun st' hst => ?_) ?_; (focus (simp [List.range_succ, nmC]; done)); (focus (simp (disch := omega) [wrap64, gE, tP, e, e0, e2, e3, eqB_self, DtCatalog.cells, DtCmd.cells, mvCatalog, hml, nmC, List.range_succ] at hst; simp (disch := omega) [wrap64, gE, tP, e, e0, e2, e3, eqB_self, DtCatalog.cells, DtCmd.cells, mvCatalog, hml, hst, take_map_n, nmC, List.range_succ]; done)); simp (disch := omega) [wrap64, gE, tP, e, e0, e2, e3, eqB_self, DtCatalog.cells, DtCmd.cells, mvCatalog, hml]) | (refine DKd_v (fun st' => (am2s_cons (am2_agg rfl) (am2s_cons (am2_agg rfl) am2s_nil))) (eqCatalog c c (by omega)) rfl ?_; simp (disch := omega) [wrap64, gE, tP, e, e0, e2, e3, eqB_self, DtCatalog.cells, DtCmd.cells, mvCatalog, hml]) | (refine DKd_p (eqCatalog c c (by omega)) (by rfl) (fun st' hst => ?_) ?_; (focus (simp (disch := omega) [wrap64, gE, tP, e, e0, e2, e3, eqB_self, DtCatalog.cells, DtCmd.cells, mvCatalog, hml] at hst; simp (disch := omega) [wrap64, gE, tP, e, e0, e2, e3, eqB_self, DtCatalog.cells, DtCmd.cells, mvCatalog, hml, hst, take_map_n]; done)); simp (disch := omega) [wrap64, gE, tP, e, e0, e2, e3, eqB_self, DtCatalog.cells, DtCmd.cells, mvCatalog, hml]) | (refine DKd_v (fun st' => (am2s_cons (am2_agg rfl) (am2s_cons (am2_agg rfl) am2s_nil))) (eqCatalog (catC c m) (catC c m) (by omega)) rfl ?_; simp (disch := omega) [wrap64, gE, tP, e, e0, e2, e3, eqB_self, DtCatalog.cells, DtCmd.cells, mvCatalog, hml]) | (refine DKd_p (eqCatalog (catC c m) (catC c m) (by omega)) (by rfl) (fun st' hst => ?_) ?_; (focus (simp (disch := omega) [wrap64, gE, tP, e, e0, e2, e3, eqB_self, DtCatalog.cells, DtCmd.cells, mvCatalog, hml] at hst; simp (disch := omega) [wrap64, gE, tP, e, e0, e2, e3, eqB_self, DtCatalog.cells, DtCmd.cells, mvCatalog, hml, hst, take_map_n]; done)); simp (disch := omega) [wrap64, gE, tP, e, e0, e2, e3, eqB_self, DtCatalog.cells, DtCmd.cells, mvCatalog, hml]) | (refine ⟨fun _ => ?_, fun _ => ?_⟩) | (refine ⟨by omega, ?_⟩) | (intro _)
          all_goals (refine hK _ _ (by kernel_rfl) ?_; clear hK K)
          all_goals
           refine AW_cond rfl (fun hc7 => ?_) (fun hc7 => ?_)
           · try simp at hc7
             all_goals
              refine AW_x rfl rfl fun K hK => ?_
              simp (disch := omega) [wrap64, gE, tP, e, e0, e2, e3, eqB_self, DtCatalog.cells, DtCmd.cells, mvCatalog, hml]
              repeat' first | (exfalso; omega) | (refine ⟨fun _ => ?_, fun _ => ?_⟩) | (refine ⟨by omega, ?_⟩) | (intro _)
              all_goals (refine hK _ ?_; clear hK K)
              all_goals
               refine AW_ret (end_x [] [] (by simp [List.range_succ, lk_cons, lk_nil, upd_app]) (by simp) ?_)
               simp (disch := omega) [wrap64, gE, tP, e, e0, e2, e3, eqB_self, DtCatalog.cells, DtCmd.cells, mvCatalog, hml]
               all_goals skip
           try simp at hc7
           refine AW_skip ?_
           refine AW_id ?_
           refine AW_seq ?_
           refine AW_d rfl mix (by kernel_rfl) (by kernel_rfl) fun K hK => ?_
           simp (disch := omega) [wrap64, gE, tP, e, e0, e2, e3, eqB_self, DtCatalog.cells, DtCmd.cells, mvCatalog, hml]
           repeat' first | (exfalso; omega) | (refine DKd_y [] true [] (toCmdX m (by omega)) ?_ (fun st' hst => ?_) ?_; (focus (simp [List.range_succ, nmC]; done)); (focus (simp (disch := omega) [wrap64, gE, tP, e, e0, e2, e3, eqB_self, DtCatalog.cells, DtCmd.cells, mvCatalog, hml, nmC, List.range_succ] at hst; simp (disch := omega) [wrap64, gE, tP, e, e0, e2, e3, eqB_self, DtCatalog.cells, DtCmd.cells, mvCatalog, hml, hst, take_map_n, nmC, List.range_succ]; done)); simp (disch := omega) [wrap64, gE, tP, e, e0, e2, e3, eqB_self, DtCatalog.cells, DtCmd.cells, mvCatalog, hml]) | (refine DKd_v (fun st' => (am2s_cons (am2_agg rfl) (am2s_cons (am2_agg rfl) am2s_nil))) (eqCmd m m (by omega)) rfl ?_; simp (disch := omega) [wrap64, gE, tP, e, e0, e2, e3, eqB_self, DtCatalog.cells, DtCmd.cells, mvCatalog, hml]) | (refine DKd_p (eqCmd m m (by omega)) (by rfl) (fun st' hst => ?_) ?_; (focus (simp (disch := omega) [wrap64, gE, tP, e, e0, e2, e3, eqB_self, DtCatalog.cells, DtCmd.cells, mvCatalog, hml] at hst; simp (disch := omega) [wrap64, gE, tP, e, e0, e2, e3, eqB_self, DtCatalog.cells, DtCmd.cells, mvCatalog, hml, hst, take_map_n]; done)); simp (disch := omega) [wrap64, gE, tP, e, e0, e2, e3, eqB_self, DtCatalog.cells, DtCmd.cells, mvCatalog, hml]) | (refine ⟨fun _ => ?_, fun _ => ?_⟩) | (refine ⟨by omega, ?_⟩) | (intro _)
           all_goals (refine hK _ _ (by kernel_rfl) ?_; clear hK K)
           all_goals
            refine AW_cond rfl (fun hc8 => ?_) (fun hc8 => ?_)
            · try simp at hc8
              all_goals
               refine AW_x rfl rfl fun K hK => ?_
               simp (disch := omega) [wrap64, gE, tP, e, e0, e2, e3, eqB_self, DtCatalog.cells, DtCmd.cells, mvCatalog, hml]
               repeat' first | (exfalso; omega) | (refine ⟨fun _ => ?_, fun _ => ?_⟩) | (refine ⟨by omega, ?_⟩) | (intro _)
               all_goals (refine hK _ ?_; clear hK K)
               all_goals
                refine AW_ret (end_x [] [] (by simp [List.range_succ, lk_cons, lk_nil, upd_app]) (by simp) ?_)
                simp (disch := omega) [wrap64, gE, tP, e, e0, e2, e3, eqB_self, DtCatalog.cells, DtCmd.cells, mvCatalog, hml]
                all_goals skip
            try simp at hc8
            refine AW_skip ?_
            refine AW_id ?_
            refine AW_x rfl rfl fun K hK => ?_
            simp (disch := omega) [wrap64, gE, tP, e, e0, e2, e3, eqB_self, DtCatalog.cells, DtCmd.cells, mvCatalog, hml]
            repeat' first | (exfalso; omega) | (refine ⟨fun _ => ?_, fun _ => ?_⟩) | (refine ⟨by omega, ?_⟩) | (intro _)
            all_goals (refine hK _ ?_; clear hK K)
            all_goals
             refine AW_x rfl rfl fun K hK => ?_
             simp (disch := omega) [wrap64, gE, tP, e, e0, e2, e3, eqB_self, DtCatalog.cells, DtCmd.cells, mvCatalog, hml]
             repeat' first | (exfalso; omega) | (refine XKd_x [592] true [] (markCatalog c 1 (by omega) (by omega)) ?_ ?_ ?_; (focus (simp [List.range_succ, nmC]; done)); (focus (simp (disch := omega) [wrap64, gE, tP, e, e0, e2, e3, eqB_self, DtCatalog.cells, DtCmd.cells, mvCatalog, hml, take_map_n]; done)); simp (disch := omega) [wrap64, gE, tP, e, e0, e2, e3, eqB_self, DtCatalog.cells, DtCmd.cells, mvCatalog, hml]) | (refine XKd_x [688] true [] (markCatalog (catC c m) 1 (by omega) (by omega)) ?_ ?_ ?_; (focus (simp [List.range_succ, nmC]; done)); (focus (simp (disch := omega) [wrap64, gE, tP, e, e0, e2, e3, eqB_self, DtCatalog.cells, DtCmd.cells, mvCatalog, hml, take_map_n]; done)); simp (disch := omega) [wrap64, gE, tP, e, e0, e2, e3, eqB_self, DtCatalog.cells, DtCmd.cells, mvCatalog, hml]) | (refine ⟨by omega, ?_⟩) | (intro _)
             refine hK _ ?_; clear hK K
             refine AW_x rfl rfl fun K hK => ?_
             simp (disch := omega) [wrap64, gE, tP, e, e0, e2, e3, eqB_self, DtCatalog.cells, DtCmd.cells, mvCatalog, hml]
             repeat' first | (exfalso; omega) | (refine XKd_x [624] true [] (markCmd m (1 + cvCatalog c) (by omega) (by omega)) ?_ ?_ ?_; (focus (simp [List.range_succ, nmC]; done)); (focus (simp (disch := omega) [wrap64, gE, tP, e, e0, e2, e3, eqB_self, DtCatalog.cells, DtCmd.cells, mvCatalog, hml, take_map_n]; done)); simp (disch := omega) [wrap64, gE, tP, e, e0, e2, e3, eqB_self, DtCatalog.cells, DtCmd.cells, mvCatalog, hml]) | (refine ⟨by omega, ?_⟩) | (intro _)
             refine hK _ ?_; clear hK K
             refine AW_seq ?_
             refine AW_x rfl rfl fun K hK => ?_
             simp (disch := omega) [wrap64, gE, tP, e, e0, e2, e3, eqB_self, DtCatalog.cells, DtCmd.cells, mvCatalog, hml]
             repeat' first | (exfalso; omega) | (refine XKd_v (am2s_cons (am2_agg rfl) (am2s_cons (am2_agg rfl) am2s_nil)) (eqCatalog c c (by omega)) rfl ?_; simp (disch := omega) [wrap64, gE, tP, e, e0, e2, e3, eqB_self, DtCatalog.cells, DtCmd.cells, mvCatalog, hml]) | (refine XKd_p (eqCatalog c c (by omega)) (by rfl) ?_ ?_; (focus (simp (disch := omega) [wrap64, gE, tP, e, e0, e2, e3, eqB_self, DtCatalog.cells, DtCmd.cells, mvCatalog, hml, take_map_n]; done)); simp (disch := omega) [wrap64, gE, tP, e, e0, e2, e3, eqB_self, DtCatalog.cells, DtCmd.cells, mvCatalog, hml]) | (refine XKd_v (am2s_cons (am2_agg rfl) (am2s_cons (am2_agg rfl) am2s_nil)) (eqCatalog (catC c m) (catC c m) (by omega)) rfl ?_; simp (disch := omega) [wrap64, gE, tP, e, e0, e2, e3, eqB_self, DtCatalog.cells, DtCmd.cells, mvCatalog, hml]) | (refine XKd_p (eqCatalog (catC c m) (catC c m) (by omega)) (by rfl) ?_ ?_; (focus (simp (disch := omega) [wrap64, gE, tP, e, e0, e2, e3, eqB_self, DtCatalog.cells, DtCmd.cells, mvCatalog, hml, take_map_n]; done)); simp (disch := omega) [wrap64, gE, tP, e, e0, e2, e3, eqB_self, DtCatalog.cells, DtCmd.cells, mvCatalog, hml]) | (refine ⟨fun _ => ?_, fun _ => ?_⟩) | (refine ⟨by omega, ?_⟩) | (intro _)
             all_goals (refine hK _ ?_; clear hK K)
             all_goals
              refine AW_cond rfl (fun hc9 => ?_) (fun hc9 => ?_)
              · try simp at hc9
                all_goals
                 refine AW_x rfl rfl fun K hK => ?_
                 simp (disch := omega) [wrap64, gE, tP, e, e0, e2, e3, eqB_self, DtCatalog.cells, DtCmd.cells, mvCatalog, hml]
                 repeat' first | (exfalso; omega) | (refine ⟨fun _ => ?_, fun _ => ?_⟩) | (refine ⟨by omega, ?_⟩) | (intro _)
                 all_goals (refine hK _ ?_; clear hK K)
                 all_goals
                  refine AW_ret (end_x [] [] (by simp [List.range_succ, lk_cons, lk_nil, upd_app]) (by simp) ?_)
                  simp (disch := omega) [wrap64, gE, tP, e, e0, e2, e3, eqB_self, DtCatalog.cells, DtCmd.cells, mvCatalog, hml]
                  all_goals skip
              try simp at hc9
              refine AW_skip ?_
              refine AW_id ?_
              refine AW_x rfl rfl fun K hK => ?_
              simp (disch := omega) [wrap64, gE, tP, e, e0, e2, e3, eqB_self, DtCatalog.cells, DtCmd.cells, mvCatalog, hml]
              repeat' first | (exfalso; omega) | (refine ⟨fun _ => ?_, fun _ => ?_⟩) | (refine ⟨by omega, ?_⟩) | (intro _)
              all_goals (refine hK _ ?_; clear hK K)
              all_goals
               refine AW_x rfl rfl fun K hK => ?_
               simp (disch := omega) [wrap64, gE, tP, e, e0, e2, e3, eqB_self, DtCatalog.cells, DtCmd.cells, mvCatalog, hml]
               repeat' first | (exfalso; omega) | (refine XKd_x [592] true [] (markCatalog c 1 (by omega) (by omega)) ?_ ?_ ?_; (focus (simp [List.range_succ, nmC]; done)); (focus (simp (disch := omega) [wrap64, gE, tP, e, e0, e2, e3, eqB_self, DtCatalog.cells, DtCmd.cells, mvCatalog, hml, take_map_n]; done)); simp (disch := omega) [wrap64, gE, tP, e, e0, e2, e3, eqB_self, DtCatalog.cells, DtCmd.cells, mvCatalog, hml]) | (refine XKd_x [688] true [] (markCatalog (catC c m) 1 (by omega) (by omega)) ?_ ?_ ?_; (focus (simp [List.range_succ, nmC]; done)); (focus (simp (disch := omega) [wrap64, gE, tP, e, e0, e2, e3, eqB_self, DtCatalog.cells, DtCmd.cells, mvCatalog, hml, take_map_n]; done)); simp (disch := omega) [wrap64, gE, tP, e, e0, e2, e3, eqB_self, DtCatalog.cells, DtCmd.cells, mvCatalog, hml]) | (refine ⟨by omega, ?_⟩) | (intro _)
               refine hK _ ?_; clear hK K
               refine AW_x rfl rfl fun K hK => ?_
               simp (disch := omega) [wrap64, gE, tP, e, e0, e2, e3, eqB_self, DtCatalog.cells, DtCmd.cells, mvCatalog, hml]
               repeat' first | (refine ⟨by omega, ?_⟩) | (intro _)
               refine hK _ ?_; clear hK K
               refine AW_x rfl rfl fun K hK => ?_
               simp (disch := omega) [wrap64, gE, tP, e, e0, e2, e3, eqB_self, DtCatalog.cells, DtCmd.cells, mvCatalog, hml]
               repeat' first | (exfalso; omega) | (refine XKd_v (am2s_cons (am2_agg rfl) (am2s_cons am2_g am2s_nil)) (heldCatalog (catC c m) 1 (by omega) (by omega)) rfl ?_; simp (disch := omega) [wrap64, gE, tP, e, e0, e2, e3, eqB_self, DtCatalog.cells, DtCmd.cells, mvCatalog, hml]) | (refine XKd_p (heldCatalog (catC c m) 1 (by omega) (by omega)) (by rfl) ?_ ?_; (focus (simp (disch := omega) [wrap64, gE, tP, e, e0, e2, e3, eqB_self, DtCatalog.cells, DtCmd.cells, mvCatalog, hml, take_map_n]; done)); simp (disch := omega) [wrap64, gE, tP, e, e0, e2, e3, eqB_self, DtCatalog.cells, DtCmd.cells, mvCatalog, hml]) | (refine ⟨by omega, ?_⟩) | (intro _)
               refine hK _ ?_; clear hK K
               refine AW_seq ?_
               refine AW_x rfl rfl fun K hK => ?_
               simp (disch := omega) [wrap64, gE, tP, e, e0, e2, e3, eqB_self, DtCatalog.cells, DtCmd.cells, mvCatalog, hml]
               repeat' first | (refine ⟨by omega, ?_⟩) | (intro _)
               refine hK _ ?_; clear hK K
               refine AW_cond rfl (fun hc10 => ?_) (fun hc10 => ?_)
               · try simp at hc10
                 all_goals
                  refine AW_x rfl rfl fun K hK => ?_
                  simp (disch := omega) [wrap64, gE, tP, e, e0, e2, e3, eqB_self, DtCatalog.cells, DtCmd.cells, mvCatalog, hml]
                  repeat' first | (exfalso; omega) | (refine ⟨fun _ => ?_, fun _ => ?_⟩) | (refine ⟨by omega, ?_⟩) | (intro _)
                  all_goals (refine hK _ ?_; clear hK K)
                  all_goals
                   refine AW_ret (end_x [] [] (by simp [List.range_succ, lk_cons, lk_nil, upd_app]) (by simp) ?_)
                   simp (disch := omega) [wrap64, gE, tP, e, e0, e2, e3, eqB_self, DtCatalog.cells, DtCmd.cells, mvCatalog, hml]
                   all_goals skip
               try simp at hc10
               refine AW_skip ?_
               refine AW_id ?_
               refine AW_seq ?_
               refine AW_x rfl rfl fun K hK => ?_
               simp (disch := omega) [wrap64, gE, tP, e, e0, e2, e3, eqB_self, DtCatalog.cells, DtCmd.cells, mvCatalog, hml]
               repeat' first | (exfalso; omega) | (refine ⟨fun _ => ?_, fun _ => ?_⟩) | (refine ⟨by omega, ?_⟩) | (intro _)
               all_goals (refine hK _ ?_; clear hK K)
               all_goals
                refine AW_cond rfl (fun hc11 => ?_) (fun hc11 => ?_)
                · try simp at hc11
                  all_goals
                   refine AW_x rfl rfl fun K hK => ?_
                   simp (disch := omega) [wrap64, gE, tP, e, e0, e2, e3, eqB_self, DtCatalog.cells, DtCmd.cells, mvCatalog, hml]
                   repeat' first | (exfalso; omega) | (refine ⟨fun _ => ?_, fun _ => ?_⟩) | (refine ⟨by omega, ?_⟩) | (intro _)
                   all_goals (refine hK _ ?_; clear hK K)
                   all_goals
                    refine AW_ret (end_x [] [] (by simp [List.range_succ, lk_cons, lk_nil, upd_app]) (by simp) ?_)
                    simp (disch := omega) [wrap64, gE, tP, e, e0, e2, e3, eqB_self, DtCatalog.cells, DtCmd.cells, mvCatalog, hml]
                    all_goals skip
                try simp at hc11
                refine AW_skip ?_
                refine AW_id ?_
                refine AW_d rfl mix (by kernel_rfl) (by kernel_rfl) fun K hK => ?_
                simp (disch := omega) [wrap64, gE, tP, e, e0, e2, e3, eqB_self, DtCatalog.cells, DtCmd.cells, mvCatalog, hml]
                repeat' first | (exfalso; omega) | (refine DKd_y [] true [] (toCatalogX c (by omega)) ?_ (fun st' hst => ?_) ?_; (focus (simp [List.range_succ, nmC]; done)); (focus (simp (disch := omega) [wrap64, gE, tP, e, e0, e2, e3, eqB_self, DtCatalog.cells, DtCmd.cells, mvCatalog, hml, nmC, List.range_succ] at hst; simp (disch := omega) [wrap64, gE, tP, e, e0, e2, e3, eqB_self, DtCatalog.cells, DtCmd.cells, mvCatalog, hml, hst, take_map_n, nmC, List.range_succ]; done)); simp (disch := omega) [wrap64, gE, tP, e, e0, e2, e3, eqB_self, DtCatalog.cells, DtCmd.cells, mvCatalog, hml]) | (refine DKd_y [] true [] (toCmdX m (by omega)) ?_ (fun st' hst => ?_) ?_; (focus (simp [List.range_succ, nmC]; done)); (focus (simp (disch := omega) [wrap64, gE, tP, e, e0, e2, e3, eqB_self, DtCatalog.cells, DtCmd.cells, mvCatalog, hml, nmC, List.range_succ] at hst; simp (disch := omega) [wrap64, gE, tP, e, e0, e2, e3, eqB_self, DtCatalog.cells, DtCmd.cells, mvCatalog, hml, hst, take_map_n, nmC, List.range_succ]; done)); simp (disch := omega) [wrap64, gE, tP, e, e0, e2, e3, eqB_self, DtCatalog.cells, DtCmd.cells, mvCatalog, hml]) | (refine DKd_y [] true [] (implCatC c m (by omega) (by omega)) ?_ (fun st' hst => ?_) ?_; (focus (simp [List.range_succ, nmC]; done)); (focus (simp (disch := omega) [wrap64, gE, tP, e, e0, e2, e3, eqB_self, DtCatalog.cells, DtCmd.cells, mvCatalog, hml, nmC, List.range_succ] at hst; simp (disch := omega) [wrap64, gE, tP, e, e0, e2, e3, eqB_self, DtCatalog.cells, DtCmd.cells, mvCatalog, hml, hst, take_map_n, nmC, List.range_succ]; done)); simp (disch := omega) [wrap64, gE, tP, e, e0, e2, e3, eqB_self, DtCatalog.cells, DtCmd.cells, mvCatalog, hml]) | (refine ⟨fun _ => ?_, fun _ => ?_⟩) | (refine ⟨by omega, ?_⟩) | (intro _)
                all_goals (refine hK _ _ (by kernel_rfl) ?_; clear hK K)
                all_goals
                 refine AW_seq ?_
                 refine AW_x rfl rfl fun K hK => ?_
                 simp (disch := omega) [wrap64, gE, tP, e, e0, e2, e3, eqB_self, DtCatalog.cells, DtCmd.cells, mvCatalog, hml]
                 repeat' first | (exfalso; omega) | (refine XKd_v (am2s_cons (am2_agg rfl) (am2s_cons (am2_agg rfl) am2s_nil)) (eqCatalog c c (by omega)) rfl ?_; simp (disch := omega) [wrap64, gE, tP, e, e0, e2, e3, eqB_self, DtCatalog.cells, DtCmd.cells, mvCatalog, hml]) | (refine XKd_p (eqCatalog c c (by omega)) (by rfl) ?_ ?_; (focus (simp (disch := omega) [wrap64, gE, tP, e, e0, e2, e3, eqB_self, DtCatalog.cells, DtCmd.cells, mvCatalog, hml, take_map_n]; done)); simp (disch := omega) [wrap64, gE, tP, e, e0, e2, e3, eqB_self, DtCatalog.cells, DtCmd.cells, mvCatalog, hml]) | (refine XKd_v (am2s_cons (am2_agg rfl) (am2s_cons (am2_agg rfl) am2s_nil)) (eqCatalog (catC c m) (catC c m) (by omega)) rfl ?_; simp (disch := omega) [wrap64, gE, tP, e, e0, e2, e3, eqB_self, DtCatalog.cells, DtCmd.cells, mvCatalog, hml]) | (refine XKd_p (eqCatalog (catC c m) (catC c m) (by omega)) (by rfl) ?_ ?_; (focus (simp (disch := omega) [wrap64, gE, tP, e, e0, e2, e3, eqB_self, DtCatalog.cells, DtCmd.cells, mvCatalog, hml, take_map_n]; done)); simp (disch := omega) [wrap64, gE, tP, e, e0, e2, e3, eqB_self, DtCatalog.cells, DtCmd.cells, mvCatalog, hml]) | (refine ⟨fun _ => ?_, fun _ => ?_⟩) | (refine ⟨by omega, ?_⟩) | (intro _)
                 all_goals (refine hK _ ?_; clear hK K)
                 all_goals
                  refine AW_cond rfl (fun hc12 => ?_) (fun hc12 => ?_)
                  · try simp at hc12
                    all_goals
                     refine AW_x rfl rfl fun K hK => ?_
                     simp (disch := omega) [wrap64, gE, tP, e, e0, e2, e3, eqB_self, DtCatalog.cells, DtCmd.cells, mvCatalog, hml]
                     repeat' first | (exfalso; omega) | (refine ⟨fun _ => ?_, fun _ => ?_⟩) | (refine ⟨by omega, ?_⟩) | (intro _)
                     all_goals (refine hK _ ?_; clear hK K)
                     all_goals
                      refine AW_ret (end_x [] [] (by simp [List.range_succ, lk_cons, lk_nil, upd_app]) (by simp) ?_)
                      simp (disch := omega) [wrap64, gE, tP, e, e0, e2, e3, eqB_self, DtCatalog.cells, DtCmd.cells, mvCatalog, hml]
                      all_goals skip
                  try simp at hc12
                  refine AW_skip ?_
                  refine AW_id ?_
                  refine AW_x rfl rfl fun K hK => ?_
                  simp (disch := omega) [wrap64, gE, tP, e, e0, e2, e3, eqB_self, DtCatalog.cells, DtCmd.cells, mvCatalog, hml]
                  repeat' first | (exfalso; omega) | (refine ⟨fun _ => ?_, fun _ => ?_⟩) | (refine ⟨by omega, ?_⟩) | (intro _)
                  all_goals (refine hK _ ?_; clear hK K)
                  all_goals
                   refine AW_x rfl rfl fun K hK => ?_
                   simp (disch := omega) [wrap64, gE, tP, e, e0, e2, e3, eqB_self, DtCatalog.cells, DtCmd.cells, mvCatalog, hml]
                   repeat' first | (exfalso; omega) | (refine XKd_v (am2s_cons (am2_agg rfl) (am2s_cons am2_g am2s_nil)) (heldCatalog (catC c m) 1 (by omega) (by omega)) rfl ?_; simp (disch := omega) [wrap64, gE, tP, e, e0, e2, e3, eqB_self, DtCatalog.cells, DtCmd.cells, mvCatalog, hml]) | (refine XKd_p (heldCatalog (catC c m) 1 (by omega) (by omega)) (by rfl) ?_ ?_; (focus (simp (disch := omega) [wrap64, gE, tP, e, e0, e2, e3, eqB_self, DtCatalog.cells, DtCmd.cells, mvCatalog, hml, take_map_n]; done)); simp (disch := omega) [wrap64, gE, tP, e, e0, e2, e3, eqB_self, DtCatalog.cells, DtCmd.cells, mvCatalog, hml]) | (refine ⟨by omega, ?_⟩) | (intro _)
                   refine hK _ ?_; clear hK K
                   refine AW_seq ?_
                   refine AW_x rfl rfl fun K hK => ?_
                   simp (disch := omega) [wrap64, gE, tP, e, e0, e2, e3, eqB_self, DtCatalog.cells, DtCmd.cells, mvCatalog, hml]
                   repeat' first | (refine ⟨by omega, ?_⟩) | (intro _)
                   refine hK _ ?_; clear hK K
                   refine AW_cond rfl (fun hc13 => ?_) (fun hc13 => ?_)
                   · try simp at hc13
                     all_goals
                      refine AW_x rfl rfl fun K hK => ?_
                      simp (disch := omega) [wrap64, gE, tP, e, e0, e2, e3, eqB_self, DtCatalog.cells, DtCmd.cells, mvCatalog, hml]
                      repeat' first | (exfalso; omega) | (refine ⟨fun _ => ?_, fun _ => ?_⟩) | (refine ⟨by omega, ?_⟩) | (intro _)
                      all_goals (refine hK _ ?_; clear hK K)
                      all_goals
                       refine AW_ret (end_x [] [] (by simp [List.range_succ, lk_cons, lk_nil, upd_app]) (by simp) ?_)
                       simp (disch := omega) [wrap64, gE, tP, e, e0, e2, e3, eqB_self, DtCatalog.cells, DtCmd.cells, mvCatalog, hml]
                       all_goals skip
                   try simp at hc13
                   refine AW_skip ?_
                   refine AW_id ?_
                   refine AW_seq ?_
                   refine AW_x rfl rfl fun K hK => ?_
                   simp (disch := omega) [wrap64, gE, tP, e, e0, e2, e3, eqB_self, DtCatalog.cells, DtCmd.cells, mvCatalog, hml]
                   repeat' first | (exfalso; omega) | (refine ⟨fun _ => ?_, fun _ => ?_⟩) | (refine ⟨by omega, ?_⟩) | (intro _)
                   all_goals (refine hK _ ?_; clear hK K)
                   all_goals
                    refine AW_cond rfl (fun hc14 => ?_) (fun hc14 => ?_)
                    · try simp at hc14
                      all_goals
                       refine AW_x rfl rfl fun K hK => ?_
                       simp (disch := omega) [wrap64, gE, tP, e, e0, e2, e3, eqB_self, DtCatalog.cells, DtCmd.cells, mvCatalog, hml]
                       repeat' first | (exfalso; omega) | (refine ⟨fun _ => ?_, fun _ => ?_⟩) | (refine ⟨by omega, ?_⟩) | (intro _)
                       all_goals (refine hK _ ?_; clear hK K)
                       all_goals
                        refine AW_ret (end_x [] [] (by simp [List.range_succ, lk_cons, lk_nil, upd_app]) (by simp) ?_)
                        simp (disch := omega) [wrap64, gE, tP, e, e0, e2, e3, eqB_self, DtCatalog.cells, DtCmd.cells, mvCatalog, hml]
                        all_goals skip
                    try simp at hc14
                    refine AW_skip ?_
                    refine AW_id ?_
                    refine AW_x rfl rfl fun K hK => ?_
                    simp (disch := omega) [wrap64, gE, tP, e, e0, e2, e3, eqB_self, DtCatalog.cells, DtCmd.cells, mvCatalog, hml]
                    repeat' first | (exfalso; omega) | (refine ⟨fun _ => ?_, fun _ => ?_⟩) | (refine ⟨by omega, ?_⟩) | (intro _)
                    all_goals (refine hK _ ?_; clear hK K)
                    all_goals
                     refine AW_ret (end_x [] [] (by simp [List.range_succ, lk_cons, lk_nil, upd_app]) (by simp) ?_)
                     simp (disch := omega) [wrap64, gE, tP, e, e0, e2, e3, eqB_self, DtCatalog.cells, DtCmd.cells, mvCatalog, hml]
                     all_goals skip
theorem lawCatDo (c : DtCatalog) (hw : DtCatalog.wf c) (m : DtCmd) (hwm : DtCmd.wf m) : PCall Try.prog 3 [.agg (DtCatalog.cells c), .agg (DtCmd.cells m)] (.g (.bool (true))) := pcall_scal (lawCatDoX c hw m hwm)
end Go.Proofs.Ytmheohnbkaoipaa.Vs
