import Derived.Test.YtmheohnbkaoipaaSPlQ
open Go Go.Proofs Go.Proofs.Ytmheohnbkaoipaa.Vs
namespace Go.Proofs.Ytmheohnbkaoipaa.Vs
set_option linter.all false
set_option linter.unusedSimpArgs false
set_option linter.unusedVariables false
set_option maxRecDepth 100000
set_option maxHeartbeats 4000000
theorem eqStringL (xs ys : List (List UInt8)) (hn : xs.length ≤ 1048576) : PCall Try.prog 23 [.sl 1 (xs.map cS), .sl 1 (ys.map cS)] (.g (.bool (eqB xs ys))) := by
  refine gcall_of_walk Try.func23 (by rfl) (by rfl) (by rw [Try.ntmps23]; exact Nat.le_of_ble_eq_true rfl) rfl (by decide) ?_
  rw [Try.ntmps23]
  refine AW_k [(0, _), (1, _)] ⟨rfl, rfl, trivial⟩ ?_
  refine AW_r rfl rfl fun K hK => ?_
  simp (disch := omega)
  repeat' first | (refine ⟨by omega, ?_⟩) | (intro _)
  refine hK _ ?_; clear hK K
  refine AW_seq ?_
  refine AW_r rfl rfl fun K hK => ?_
  simp (disch := omega)
  repeat' first | (refine ⟨by omega, ?_⟩) | (intro _)
  refine hK _ ?_; clear hK K
  refine AW_cond rfl (fun hc1 => ?_) (fun hc1 => ?_)
  · try simp [decB_true, decB_false, eqB_true, eqB_false] at hc1
    all_goals
     refine AW_r rfl rfl fun K hK => ?_
     simp (disch := omega)
     repeat' first | (exfalso; omega) | (refine ⟨fun _ => ?_, fun _ => ?_⟩) | (refine ⟨by omega, ?_⟩) | (intro _)
     all_goals (refine hK _ ?_; clear hK K)
     all_goals
      refine AW_ret (end_s ?_)
      simp (disch := omega)
      all_goals first | (exact eqB_of heq) | (refine eqB_ne fun heq => ?_; subst heq; simp_all [eqB_true, eqB_false, eqB_self]; done) | (refine (eqB_ne fun heq => ?_).symm; subst heq; simp_all [eqB_true, eqB_false, eqB_self]; done) | trace_state
  try simp [decB_true, decB_false, eqB_true, eqB_false] at hc1
  refine AW_skip ?_
  refine AW_id ?_
  refine AW_seq ?_
  refine AW_r rfl rfl fun K hK => ?_
  simp (disch := omega)
  repeat' first | (exfalso; omega) | (refine ⟨fun _ => ?_, fun _ => ?_⟩) | (refine ⟨by omega, ?_⟩) | (intro _)
  all_goals (refine hK _ ?_; clear hK K)
  all_goals
   refine AW_block ?_
   refine AW_loopS (fun mM sS => ∃ (i : Nat), mM = xs.length - i ∧ (i ≤ xs.length ∧ ∀ j, j < i → xs[j]? = ys[j]?) ∧ sS = { env := lkE [(0, .sl 1 (xs.map cS)), (1, .sl 1 (ys.map cS)), (5, (.g (.int .i64 ((i : Nat)))))], ob := formOb [] [] }) ?_ ?_
   · refine ⟨_, LeS.kp [(0, .sl 1 (xs.map cS)), (1, .sl 1 (ys.map cS)), (5, (.g (.int .i64 (((0) : Nat)))))] (by simp [KpE, upd_app, lkE_app, lk_cons]; try rfl), _, 0, rfl, ?_, rfl⟩
     · simp
   · rintro mM sS ⟨i, rfl, ⟨hi, hpre⟩, rfl⟩
     refine AW_seq ?_
     refine AW_r rfl rfl fun K hK => ?_
     simp (disch := omega) [cS]
     repeat' first | (refine ⟨by omega, ?_⟩) | (intro _)
     refine hK _ ?_; clear hK K
     refine AW_cond rfl (fun hc2 => ?_) (fun hc2 => ?_)
     · try simp [decB_true, decB_false, eqB_true, eqB_false] at hc2
       all_goals
        have h7 : i < ys.length := by omega
        refine AW_skip ?_
        refine AW_id ?_
        refine AW_seq ?_
        refine AW_block ?_
        refine AW_q rfl mix (by kernel_rfl) rfl fun K hK => ?_
        simp (disch := omega) [cS]
        repeat' first | (exfalso; omega) | (refine ⟨fun _ => ?_, fun _ => ?_⟩) | (refine ⟨by omega, ?_⟩) | (intro _)
        all_goals (refine hK _ ?_; clear hK K)
        all_goals
         refine AW_cond rfl (fun hc3 => ?_) (fun hc3 => ?_)
         · try simp [decB_true, decB_false, eqB_true, eqB_false] at hc3
           all_goals
            refine AW_r rfl rfl fun K hK => ?_
            simp (disch := omega) [cS]
            repeat' first | (exfalso; omega) | (refine ⟨fun _ => ?_, fun _ => ?_⟩) | (refine ⟨by omega, ?_⟩) | (intro _)
            all_goals (refine hK _ ?_; clear hK K)
            all_goals
             refine AW_ret (end_s ?_)
             simp (disch := omega) [cS]
             all_goals first | (exact eqB_of heq) | (refine eqB_ne fun heq => ?_; subst heq; simp_all [eqB_true, eqB_false, eqB_self]; done) | (refine (eqB_ne fun heq => ?_).symm; subst heq; simp_all [eqB_true, eqB_false, eqB_self]; done) | trace_state
         try simp [decB_true, decB_false, eqB_true, eqB_false] at hc3
         refine AW_skip ?_
         refine AW_id ?_
         refine AW_re rfl rfl fun K hK => ?_
         simp (disch := omega) [cS]
         repeat' first | (exfalso; omega) | (refine ⟨fun _ => ?_, fun _ => ?_⟩) | (refine ⟨by omega, ?_⟩) | (intro _)
         all_goals (refine hK _ ?_; clear hK K)
         all_goals
          refine ⟨_, LeS.kp [(0, .sl 1 (xs.map cS)), (1, .sl 1 (ys.map cS)), (5, (.g (.int .i64 (((i + 1) : Nat)))))] (by simp [KpE, upd_app, lkE_app, lk_cons]; try rfl), _, ?_, i + 1, rfl, ?_, rfl⟩
          · omega
          · refine ⟨by omega, fun j hj => ?_⟩
            by_cases hji : j = i
            · subst hji; simp_all [eqB_true, eqB_false]
            · exact hpre j (by omega)
     try simp [decB_true, decB_false, eqB_true, eqB_false] at hc2
     have hi2 : i = xs.length := by omega
     subst hi2
     have heq : xs = ys := List.ext_getElem? fun j => by
       by_cases hj : j < xs.length
       · exact hpre j hj
       · rw [List.getElem?_eq_none (by omega), List.getElem?_eq_none (by omega)]
     refine AW_exit ?_
     refine AW_id ?_
     refine AW_r rfl rfl fun K hK => ?_
     simp (disch := omega) [cS]
     repeat' first | (exfalso; omega) | (refine ⟨fun _ => ?_, fun _ => ?_⟩) | (refine ⟨by omega, ?_⟩) | (intro _)
     all_goals (refine hK _ ?_; clear hK K)
     all_goals
      refine AW_ret (end_s ?_)
      simp (disch := omega) [cS]
      all_goals first | (exact eqB_of heq) | (refine eqB_ne fun heq => ?_; subst heq; simp_all [eqB_true, eqB_false, eqB_self]; done) | (refine (eqB_ne fun heq => ?_).symm; subst heq; simp_all [eqB_true, eqB_false, eqB_self]; done) | trace_state
attribute [local simp] eqB_self DtCatalog.cells mvCatalog List.range_succ
theorem lawCatPlayX (l : List DtCmd) (hw : wfS DtCmd.wf l) : XCall Try.prog 4 [.sl 8 (l.map DtCmd.cells)] [] (.g (.bool (true))) [] [] := by
  have hq := szS_nonneg DtCmd.sz_nonneg l
  by_cases h : (1048576 : Int) - szS DtCmd.sz l < 0
  · have e : szR 1048576 (szS DtCmd.sz l) = -1 := by unfold szR; rw [if_pos h]
    refine xcall_of_walk Try.func4 (by rfl) (by rfl) (by rw [Try.ntmps4]; exact Nat.le_of_ble_eq_true rfl) rfl (by simp) rfl rfl ?_
    rw [Try.ntmps4]
    refine AW_x0   ?_
    refine AW_k [(0, _)] ⟨rfl, trivial⟩ ?_
    refine AW_x rfl rfl fun K hK => ?_
    simp (disch := omega) [e]
    repeat' first | (refine ⟨by omega, ?_⟩) | (intro _)
    refine hK _ ?_; clear hK K
    refine AW_x rfl rfl fun K hK => ?_
    simp (disch := omega) [e]
    repeat' first | (refine ⟨by omega, ?_⟩) | (intro _)
    refine hK _ ?_; clear hK K
    refine AW_x rfl rfl fun K hK => ?_
    simp (disch := omega) [e]
    repeat' first | (exfalso; omega) | (refine XKd_v (am2s_cons am2_sl (am2s_cons am2_g am2s_nil)) (szCmdS _ _ (by omega) hw) rfl ?_; simp (disch := omega) [e]) | (refine XKd_p (szCmdS _ _ (by omega) hw) (by rfl) ?_ ?_; (focus (simp (disch := omega) [e, take_map_n]; done)); simp (disch := omega) [e]) | (refine ⟨by omega, ?_⟩) | (intro _)
    refine hK _ ?_; clear hK K
    refine AW_seq ?_
    refine AW_x rfl rfl fun K hK => ?_
    simp (disch := omega) [e]
    repeat' first | (refine ⟨by omega, ?_⟩) | (intro _)
    refine hK _ ?_; clear hK K
    refine AW_cond rfl (fun hc4 => ?_) (fun hc4 => ?_)
    · try simp [decB_true, decB_false, eqB_true, eqB_false] at hc4
      all_goals
       refine AW_x rfl rfl fun K hK => ?_
       simp (disch := omega) [e]
       repeat' first | (exfalso; omega) | (refine ⟨fun _ => ?_, fun _ => ?_⟩) | (refine ⟨by omega, ?_⟩) | (intro _)
       all_goals (refine hK _ ?_; clear hK K)
       all_goals
        refine AW_ret (end_x [] [] (by simp [List.range_succ, lk_cons, lk_nil, upd_app]) (by simp) ?_)
        simp (disch := omega) [e]
        all_goals skip
    try simp [decB_true, decB_false, eqB_true, eqB_false] at hc4
  · have e : szR 1048576 (szS DtCmd.sz l) = 1048576 - szS DtCmd.sz l := by unfold szR; rw [if_neg h]
    have e0 : (0 : Int) ≤ 1048576 - szS DtCmd.sz l := by omega
    have hsl : szS DtCmd.sz l ≤ 1048576 := by omega
    have hn : l.length ≤ 1048576 := by have := len_szS DtCmd.sz_nonneg l; omega
    have hcs := playC_sz l
    have hcv2 := cntCatalog_sz (playC l)
    have hcn2 := cvCatalog_nn (playC l)
    have hcc2 : cvCatalog (playC l) = cntCatalog (playC l) := rfl
    have hcm := cnt_sz cntCmd_sz l
    have hcmn := cntS_nn cntCmd_nn l
    have hrl := playR_len l
    have hml2 : (mkL mT (1 + cvCatalog (playC l)) l.length).length = l.length := mkL_len _ _ _
    have hml : (mkS mkCSet cntCSet 1 (playC l).fSets).length = (playC l).fSets.length := mkS_len _ _ _ _
    refine xcall_of_walk Try.func4 (by rfl) (by rfl) (by rw [Try.ntmps4]; exact Nat.le_of_ble_eq_true rfl) rfl (by simp) rfl rfl ?_
    rw [Try.ntmps4]
    refine AW_x0   ?_
    refine AW_k [(0, _)] ⟨rfl, trivial⟩ ?_
    refine AW_x rfl rfl fun K hK => ?_
    simp (disch := omega) [e, e0, hml, hml2, hrl]
    repeat' first | (exfalso; omega) | (refine ⟨fun _ => ?_, fun _ => ?_⟩) | (refine ⟨by omega, ?_⟩) | (intro _)
    all_goals (refine hK _ ?_; clear hK K)
    all_goals
     refine AW_x rfl rfl fun K hK => ?_
     simp (disch := omega) [e, e0, hml, hml2, hrl]
     repeat' first | (refine ⟨by omega, ?_⟩) | (intro _)
     refine hK _ ?_; clear hK K
     refine AW_x rfl rfl fun K hK => ?_
     simp (disch := omega) [e, e0, hml, hml2, hrl]
     repeat' first | (exfalso; omega) | (refine XKd_v (am2s_cons am2_sl (am2s_cons am2_g am2s_nil)) (szCmdS _ _ (by omega) hw) rfl ?_; simp (disch := omega) [e, e0, hml, hml2, hrl]) | (refine XKd_p (szCmdS _ _ (by omega) hw) (by rfl) ?_ ?_; (focus (simp (disch := omega) [e, e0, hml, hml2, hrl, take_map_n]; done)); simp (disch := omega) [e, e0, hml, hml2, hrl]) | (refine ⟨by omega, ?_⟩) | (intro _)
     refine hK _ ?_; clear hK K
     refine AW_seq ?_
     refine AW_x rfl rfl fun K hK => ?_
     simp (disch := omega) [e, e0, hml, hml2, hrl]
     repeat' first | (refine ⟨by omega, ?_⟩) | (intro _)
     refine hK _ ?_; clear hK K
     refine AW_cond rfl (fun hc5 => ?_) (fun hc5 => ?_)
     · try simp [decB_true, decB_false, eqB_true, eqB_false] at hc5
       all_goals
        refine AW_x rfl rfl fun K hK => ?_
        simp (disch := omega) [e, e0, hml, hml2, hrl]
        repeat' first | (exfalso; omega) | (refine ⟨fun _ => ?_, fun _ => ?_⟩) | (refine ⟨by omega, ?_⟩) | (intro _)
        all_goals (refine hK _ ?_; clear hK K)
        all_goals
         refine AW_ret (end_x [] [] (by simp [List.range_succ, lk_cons, lk_nil, upd_app]) (by simp) ?_)
         simp (disch := omega) [e, e0, hml, hml2, hrl]
         all_goals skip
     try simp [decB_true, decB_false, eqB_true, eqB_false] at hc5
     refine AW_skip ?_
     refine AW_id ?_
     refine AW_x rfl rfl fun K hK => ?_
     simp (disch := omega) [e, e0, hml, hml2, hrl]
     repeat' first | (exfalso; omega) | (refine XKd_x [] true [] (toCmdSX l (by omega)) ?_ ?_ ?_; (focus (simp [List.range_succ, nmC]; done)); (focus (simp (disch := omega) [e, e0, hml, hml2, hrl, take_map_n]; done)); simp (disch := omega) [e, e0, hml, hml2, hrl]) | (refine XKd_x [] true [] (specPlay l hsl hn) ?_ ?_ ?_; (focus (simp [List.range_succ, nmC]; done)); (focus (simp (disch := omega) [e, e0, hml, hml2, hrl, take_map_n]; done)); simp (disch := omega) [e, e0, hml, hml2, hrl]) | (refine ⟨fun _ => ?_, fun _ => ?_⟩) | (refine ⟨by omega, ?_⟩) | (intro _)
     all_goals (refine hK _ ?_; clear hK K)
     all_goals
      refine AW_x rfl rfl fun K hK => ?_
      simp (disch := omega) [e, e0, hml, hml2, hrl]
      repeat' first | (exfalso; omega) | (refine XKd_x [] true [] (toCmdSX l (by omega)) ?_ ?_ ?_; (focus (simp [List.range_succ, nmC]; done)); (focus (simp (disch := omega) [e, e0, hml, hml2, hrl, take_map_n]; done)); simp (disch := omega) [e, e0, hml, hml2, hrl]) | (refine ⟨by omega, ?_⟩) | (intro _)
      refine hK _ ?_; clear hK K
      refine AW_x rfl rfl fun K hK => ?_
      simp (disch := omega) [e, e0, hml, hml2, hrl]
      repeat' first | (exfalso; omega) | (refine XKd_x [] true [] (implPlay l hsl hn) ?_ ?_ ?_; (focus (simp [List.range_succ, nmC]; done)); (focus (simp (disch := omega) [e, e0, hml, hml2, hrl, take_map_n]; done)); simp (disch := omega) [e, e0, hml, hml2, hrl]) | (refine ⟨by omega, ?_⟩) | (intro _)
      refine hK _ ?_; clear hK K
      refine AW_seq ?_
      refine AW_x rfl rfl fun K hK => ?_
      simp (disch := omega) [e, e0, hml, hml2, hrl]
      repeat' first | (exfalso; omega) | (refine XKd_v (am2s_cons (am2_agg rfl) (am2s_cons (am2_agg rfl) am2s_nil)) (eqCatalog (playC l) (playC l) (by omega)) rfl ?_; simp (disch := omega) [e, e0, hml, hml2, hrl]) | (refine XKd_p (eqCatalog (playC l) (playC l) (by omega)) (by rfl) ?_ ?_; (focus (simp (disch := omega) [e, e0, hml, hml2, hrl, take_map_n]; done)); simp (disch := omega) [e, e0, hml, hml2, hrl]) | (refine XKd_v (am2s_cons am2_sl (am2s_cons am2_sl am2s_nil)) (eqStringL (playR l) (playR l) (by omega)) rfl ?_; simp (disch := omega) [e, e0, hml, hml2, hrl]) | (refine XKd_p (eqStringL (playR l) (playR l) (by omega)) (by rfl) ?_ ?_; (focus (simp (disch := omega) [e, e0, hml, hml2, hrl, take_map_n]; done)); simp (disch := omega) [e, e0, hml, hml2, hrl]) | (refine ⟨fun _ => ?_, fun _ => ?_⟩) | (refine ⟨by omega, ?_⟩) | (intro _)
      all_goals (refine hK _ ?_; clear hK K)
      all_goals
       refine AW_cond rfl (fun hc6 => ?_) (fun hc6 => ?_)
       · try simp [decB_true, decB_false, eqB_true, eqB_false] at hc6
         all_goals
          refine AW_x rfl rfl fun K hK => ?_
          simp (disch := omega) [e, e0, hml, hml2, hrl]
          repeat' first | (exfalso; omega) | (refine ⟨fun _ => ?_, fun _ => ?_⟩) | (refine ⟨by omega, ?_⟩) | (intro _)
          all_goals (refine hK _ ?_; clear hK K)
          all_goals
           refine AW_ret (end_x [] [] (by simp [List.range_succ, lk_cons, lk_nil, upd_app]) (by simp) ?_)
           simp (disch := omega) [e, e0, hml, hml2, hrl]
           all_goals skip
       try simp [decB_true, decB_false, eqB_true, eqB_false] at hc6
       refine AW_skip ?_
       refine AW_id ?_
       refine AW_seq ?_
       refine AW_x rfl rfl fun K hK => ?_
       simp (disch := omega) [e, e0, hml, hml2, hrl]
       repeat' first | (exfalso; omega) | (refine XKd_x [] true [] (toCmdSX l (by omega)) ?_ ?_ ?_; (focus (simp [List.range_succ, nmC]; done)); (focus (simp (disch := omega) [e, e0, hml, hml2, hrl, take_map_n]; done)); simp (disch := omega) [e, e0, hml, hml2, hrl]) | (refine XKd_v (am2s_cons am2_sl (am2s_cons am2_sl am2s_nil)) (eqCmdS l l (by omega)) rfl ?_; simp (disch := omega) [e, e0, hml, hml2, hrl]) | (refine XKd_p (eqCmdS l l (by omega)) (by rfl) ?_ ?_; (focus (simp (disch := omega) [e, e0, hml, hml2, hrl, take_map_n]; done)); simp (disch := omega) [e, e0, hml, hml2, hrl]) | (refine ⟨fun _ => ?_, fun _ => ?_⟩) | (refine ⟨by omega, ?_⟩) | (intro _)
       all_goals (refine hK _ ?_; clear hK K)
       all_goals
        refine AW_cond rfl (fun hc7 => ?_) (fun hc7 => ?_)
        · try simp [decB_true, decB_false, eqB_true, eqB_false] at hc7
          all_goals
           refine AW_x rfl rfl fun K hK => ?_
           simp (disch := omega) [e, e0, hml, hml2, hrl]
           repeat' first | (exfalso; omega) | (refine ⟨fun _ => ?_, fun _ => ?_⟩) | (refine ⟨by omega, ?_⟩) | (intro _)
           all_goals (refine hK _ ?_; clear hK K)
           all_goals
            refine AW_ret (end_x [] [] (by simp [List.range_succ, lk_cons, lk_nil, upd_app]) (by simp) ?_)
            simp (disch := omega) [e, e0, hml, hml2, hrl]
            all_goals skip
        try simp [decB_true, decB_false, eqB_true, eqB_false] at hc7
        refine AW_skip ?_
        refine AW_id ?_
        refine AW_x rfl rfl fun K hK => ?_
        simp (disch := omega) [e, e0, hml, hml2, hrl]
        repeat' first | (exfalso; omega) | (refine ⟨fun _ => ?_, fun _ => ?_⟩) | (refine ⟨by omega, ?_⟩) | (intro _)
        all_goals (refine hK _ ?_; clear hK K)
        all_goals
         refine AW_x rfl rfl fun K hK => ?_
         simp (disch := omega) [e, e0, hml, hml2, hrl]
         repeat' first | (exfalso; omega) | (refine XKd_x [432] true [] (markCmdS l 1 (by omega) (by omega)) ?_ ?_ ?_; (focus (simp [List.range_succ, nmC]; done)); (focus (simp (disch := omega) [e, e0, hml, hml2, hrl, take_map_n]; done)); simp (disch := omega) [e, e0, hml, hml2, hrl]) | (refine ⟨by omega, ?_⟩) | (intro _)
         refine hK _ ?_; clear hK K
         refine AW_seq ?_
         refine AW_x rfl rfl fun K hK => ?_
         simp (disch := omega) [e, e0, hml, hml2, hrl]
         repeat' first | (exfalso; omega) | (refine XKd_v (am2s_cons (am2_agg rfl) (am2s_cons (am2_agg rfl) am2s_nil)) (eqCatalog (playC l) (playC l) (by omega)) rfl ?_; simp (disch := omega) [e, e0, hml, hml2, hrl]) | (refine XKd_p (eqCatalog (playC l) (playC l) (by omega)) (by rfl) ?_ ?_; (focus (simp (disch := omega) [e, e0, hml, hml2, hrl, take_map_n]; done)); simp (disch := omega) [e, e0, hml, hml2, hrl]) | (refine XKd_v (am2s_cons am2_sl (am2s_cons am2_sl am2s_nil)) (eqStringL (playR l) (playR l) (by omega)) rfl ?_; simp (disch := omega) [e, e0, hml, hml2, hrl]) | (refine XKd_p (eqStringL (playR l) (playR l) (by omega)) (by rfl) ?_ ?_; (focus (simp (disch := omega) [e, e0, hml, hml2, hrl, take_map_n]; done)); simp (disch := omega) [e, e0, hml, hml2, hrl]) | (refine ⟨fun _ => ?_, fun _ => ?_⟩) | (refine ⟨by omega, ?_⟩) | (intro _)
         all_goals (refine hK _ ?_; clear hK K)
         all_goals
          refine AW_cond rfl (fun hc8 => ?_) (fun hc8 => ?_)
          · try simp [decB_true, decB_false, eqB_true, eqB_false] at hc8
            all_goals
             refine AW_x rfl rfl fun K hK => ?_
             simp (disch := omega) [e, e0, hml, hml2, hrl]
             repeat' first | (exfalso; omega) | (refine ⟨fun _ => ?_, fun _ => ?_⟩) | (refine ⟨by omega, ?_⟩) | (intro _)
             all_goals (refine hK _ ?_; clear hK K)
             all_goals
              refine AW_ret (end_x [] [] (by simp [List.range_succ, lk_cons, lk_nil, upd_app]) (by simp) ?_)
              simp (disch := omega) [e, e0, hml, hml2, hrl]
              all_goals skip
          try simp [decB_true, decB_false, eqB_true, eqB_false] at hc8
          refine AW_skip ?_
          refine AW_id ?_
          refine AW_x rfl rfl fun K hK => ?_
          simp (disch := omega) [e, e0, hml, hml2, hrl]
          repeat' first | (exfalso; omega) | (refine ⟨fun _ => ?_, fun _ => ?_⟩) | (refine ⟨by omega, ?_⟩) | (intro _)
          all_goals (refine hK _ ?_; clear hK K)
          all_goals
           refine AW_x rfl rfl fun K hK => ?_
           simp (disch := omega) [e, e0, hml, hml2, hrl]
           repeat' first | (exfalso; omega) | (refine XKd_x [480] true [] (markCatalog (playC l) 1 (by omega) (by omega)) ?_ ?_ ?_; (focus (simp [List.range_succ, nmC]; done)); (focus (simp (disch := omega) [e, e0, hml, hml2, hrl, take_map_n]; done)); simp (disch := omega) [e, e0, hml, hml2, hrl]) | (refine ⟨by omega, ?_⟩) | (intro _)
           refine hK _ ?_; clear hK K
           refine AW_x rfl rfl fun K hK => ?_
           simp (disch := omega) [e, e0, hml, hml2, hrl]
           repeat' first | (exfalso; omega) | (refine XKd_x [481] true [] (markStringS (playR l) (1 + cvCatalog (playC l)) (by omega) (by omega)) ?_ ?_ ?_; (focus (simp [List.range_succ, nmC]; done)); (focus (simp (disch := omega) [e, e0, hml, hml2, hrl, take_map_n]; done)); simp (disch := omega) [e, e0, hml, hml2, hrl]) | (refine ⟨by omega, ?_⟩) | (intro _)
           refine hK _ ?_; clear hK K
           refine AW_x rfl rfl fun K hK => ?_
           simp (disch := omega) [e, e0, hml, hml2, hrl]
           repeat' first | (refine ⟨by omega, ?_⟩) | (intro _)
           refine hK _ ?_; clear hK K
           refine AW_x rfl rfl fun K hK => ?_
           simp (disch := omega) [e, e0, hml, hml2, hrl]
           repeat' first | (exfalso; omega) | (refine XKd_v (am2s_cons (am2_agg rfl) (am2s_cons am2_g am2s_nil)) (heldCatalog (playC l) 1 (by omega) (by omega)) rfl ?_; simp (disch := omega) [e, e0, hml, hml2, hrl]) | (refine XKd_p (heldCatalog (playC l) 1 (by omega) (by omega)) (by rfl) ?_ ?_; (focus (simp (disch := omega) [e, e0, hml, hml2, hrl, take_map_n]; done)); simp (disch := omega) [e, e0, hml, hml2, hrl]) | (refine ⟨by omega, ?_⟩) | (intro _)
           refine hK _ ?_; clear hK K
           refine AW_seq ?_
           refine AW_x rfl rfl fun K hK => ?_
           simp (disch := omega) [e, e0, hml, hml2, hrl]
           repeat' first | (refine ⟨by omega, ?_⟩) | (intro _)
           refine hK _ ?_; clear hK K
           refine AW_cond rfl (fun hc9 => ?_) (fun hc9 => ?_)
           · try simp [decB_true, decB_false, eqB_true, eqB_false] at hc9
             all_goals
              refine AW_x rfl rfl fun K hK => ?_
              simp (disch := omega) [e, e0, hml, hml2, hrl]
              repeat' first | (exfalso; omega) | (refine ⟨fun _ => ?_, fun _ => ?_⟩) | (refine ⟨by omega, ?_⟩) | (intro _)
              all_goals (refine hK _ ?_; clear hK K)
              all_goals
               refine AW_ret (end_x [] [] (by simp [List.range_succ, lk_cons, lk_nil, upd_app]) (by simp) ?_)
               simp (disch := omega) [e, e0, hml, hml2, hrl]
               all_goals skip
           try simp [decB_true, decB_false, eqB_true, eqB_false] at hc9
           refine AW_skip ?_
           refine AW_id ?_
           refine AW_x rfl rfl fun K hK => ?_
           simp (disch := omega) [e, e0, hml, hml2, hrl]
           repeat' first | (exfalso; omega) | (refine XKd_v (am2s_cons am2_sl (am2s_cons am2_g am2s_nil)) (heldStringS l.length (1 + cvCatalog (playC l)) (by omega) (by omega)) rfl ?_; simp (disch := omega) [e, e0, hml, hml2, hrl]) | (refine XKd_p (heldStringS l.length (1 + cvCatalog (playC l)) (by omega) (by omega)) (by rfl) ?_ ?_; (focus (simp (disch := omega) [e, e0, hml, hml2, hrl, take_map_n]; done)); simp (disch := omega) [e, e0, hml, hml2, hrl]) | (refine ⟨fun _ => ?_, fun _ => ?_⟩) | (refine ⟨by omega, ?_⟩) | (intro _)
           all_goals (refine hK _ ?_; clear hK K)
           all_goals
            refine AW_seq ?_
            refine AW_x rfl rfl fun K hK => ?_
            simp (disch := omega) [e, e0, hml, hml2, hrl]
            repeat' first | (refine ⟨by omega, ?_⟩) | (intro _)
            refine hK _ ?_; clear hK K
            refine AW_cond rfl (fun hc10 => ?_) (fun hc10 => ?_)
            · try simp [decB_true, decB_false, eqB_true, eqB_false] at hc10
              all_goals
               refine AW_x rfl rfl fun K hK => ?_
               simp (disch := omega) [e, e0, hml, hml2, hrl]
               repeat' first | (exfalso; omega) | (refine ⟨fun _ => ?_, fun _ => ?_⟩) | (refine ⟨by omega, ?_⟩) | (intro _)
               all_goals (refine hK _ ?_; clear hK K)
               all_goals
                refine AW_ret (end_x [] [] (by simp [List.range_succ, lk_cons, lk_nil, upd_app]) (by simp) ?_)
                simp (disch := omega) [e, e0, hml, hml2, hrl]
                all_goals skip
            try simp [decB_true, decB_false, eqB_true, eqB_false] at hc10
            refine AW_skip ?_
            refine AW_id ?_
            refine AW_seq ?_
            refine AW_x rfl rfl fun K hK => ?_
            simp (disch := omega) [e, e0, hml, hml2, hrl]
            repeat' first | (exfalso; omega) | (refine ⟨fun _ => ?_, fun _ => ?_⟩) | (refine ⟨by omega, ?_⟩) | (intro _)
            all_goals (refine hK _ ?_; clear hK K)
            all_goals
             refine AW_cond rfl (fun hc11 => ?_) (fun hc11 => ?_)
             · try simp [decB_true, decB_false, eqB_true, eqB_false] at hc11
               all_goals
                refine AW_x rfl rfl fun K hK => ?_
                simp (disch := omega) [e, e0, hml, hml2, hrl]
                repeat' first | (exfalso; omega) | (refine ⟨fun _ => ?_, fun _ => ?_⟩) | (refine ⟨by omega, ?_⟩) | (intro _)
                all_goals (refine hK _ ?_; clear hK K)
                all_goals
                 refine AW_ret (end_x [] [] (by simp [List.range_succ, lk_cons, lk_nil, upd_app]) (by simp) ?_)
                 simp (disch := omega) [e, e0, hml, hml2, hrl]
                 all_goals skip
             try simp [decB_true, decB_false, eqB_true, eqB_false] at hc11
             refine AW_skip ?_
             refine AW_id ?_
             refine AW_x rfl rfl fun K hK => ?_
             simp (disch := omega) [e, e0, hml, hml2, hrl]
             repeat' first | (exfalso; omega) | (refine XKd_x [] true [] (toCmdSX l (by omega)) ?_ ?_ ?_; (focus (simp [List.range_succ, nmC]; done)); (focus (simp (disch := omega) [e, e0, hml, hml2, hrl, take_map_n]; done)); simp (disch := omega) [e, e0, hml, hml2, hrl]) | (refine XKd_x [] true [] (implPlay l hsl hn) ?_ ?_ ?_; (focus (simp [List.range_succ, nmC]; done)); (focus (simp (disch := omega) [e, e0, hml, hml2, hrl, take_map_n]; done)); simp (disch := omega) [e, e0, hml, hml2, hrl]) | (refine ⟨fun _ => ?_, fun _ => ?_⟩) | (refine ⟨by omega, ?_⟩) | (intro _)
             all_goals (refine hK _ ?_; clear hK K)
             all_goals
              refine AW_seq ?_
              refine AW_x rfl rfl fun K hK => ?_
              simp (disch := omega) [e, e0, hml, hml2, hrl]
              repeat' first | (exfalso; omega) | (refine XKd_v (am2s_cons (am2_agg rfl) (am2s_cons (am2_agg rfl) am2s_nil)) (eqCatalog (playC l) (playC l) (by omega)) rfl ?_; simp (disch := omega) [e, e0, hml, hml2, hrl]) | (refine XKd_p (eqCatalog (playC l) (playC l) (by omega)) (by rfl) ?_ ?_; (focus (simp (disch := omega) [e, e0, hml, hml2, hrl, take_map_n]; done)); simp (disch := omega) [e, e0, hml, hml2, hrl]) | (refine XKd_v (am2s_cons am2_sl (am2s_cons am2_sl am2s_nil)) (eqStringL (playR l) (playR l) (by omega)) rfl ?_; simp (disch := omega) [e, e0, hml, hml2, hrl]) | (refine XKd_p (eqStringL (playR l) (playR l) (by omega)) (by rfl) ?_ ?_; (focus (simp (disch := omega) [e, e0, hml, hml2, hrl, take_map_n]; done)); simp (disch := omega) [e, e0, hml, hml2, hrl]) | (refine ⟨fun _ => ?_, fun _ => ?_⟩) | (refine ⟨by omega, ?_⟩) | (intro _)
              all_goals (refine hK _ ?_; clear hK K)
              all_goals
               refine AW_cond rfl (fun hc12 => ?_) (fun hc12 => ?_)
               · try simp [decB_true, decB_false, eqB_true, eqB_false] at hc12
                 all_goals
                  refine AW_x rfl rfl fun K hK => ?_
                  simp (disch := omega) [e, e0, hml, hml2, hrl]
                  repeat' first | (exfalso; omega) | (refine ⟨fun _ => ?_, fun _ => ?_⟩) | (refine ⟨by omega, ?_⟩) | (intro _)
                  all_goals (refine hK _ ?_; clear hK K)
                  all_goals
                   refine AW_ret (end_x [] [] (by simp [List.range_succ, lk_cons, lk_nil, upd_app]) (by simp) ?_)
                   simp (disch := omega) [e, e0, hml, hml2, hrl]
                   all_goals skip
               try simp [decB_true, decB_false, eqB_true, eqB_false] at hc12
               refine AW_skip ?_
               refine AW_id ?_
               refine AW_x rfl rfl fun K hK => ?_
               simp (disch := omega) [e, e0, hml, hml2, hrl]
               repeat' first | (exfalso; omega) | (refine ⟨fun _ => ?_, fun _ => ?_⟩) | (refine ⟨by omega, ?_⟩) | (intro _)
               all_goals (refine hK _ ?_; clear hK K)
               all_goals
                refine AW_x rfl rfl fun K hK => ?_
                simp (disch := omega) [e, e0, hml, hml2, hrl]
                repeat' first | (exfalso; omega) | (refine XKd_v (am2s_cons (am2_agg rfl) (am2s_cons am2_g am2s_nil)) (heldCatalog (playC l) 1 (by omega) (by omega)) rfl ?_; simp (disch := omega) [e, e0, hml, hml2, hrl]) | (refine XKd_p (heldCatalog (playC l) 1 (by omega) (by omega)) (by rfl) ?_ ?_; (focus (simp (disch := omega) [e, e0, hml, hml2, hrl, take_map_n]; done)); simp (disch := omega) [e, e0, hml, hml2, hrl]) | (refine ⟨by omega, ?_⟩) | (intro _)
                refine hK _ ?_; clear hK K
                refine AW_seq ?_
                refine AW_x rfl rfl fun K hK => ?_
                simp (disch := omega) [e, e0, hml, hml2, hrl]
                repeat' first | (refine ⟨by omega, ?_⟩) | (intro _)
                refine hK _ ?_; clear hK K
                refine AW_cond rfl (fun hc13 => ?_) (fun hc13 => ?_)
                · try simp [decB_true, decB_false, eqB_true, eqB_false] at hc13
                  all_goals
                   refine AW_x rfl rfl fun K hK => ?_
                   simp (disch := omega) [e, e0, hml, hml2, hrl]
                   repeat' first | (exfalso; omega) | (refine ⟨fun _ => ?_, fun _ => ?_⟩) | (refine ⟨by omega, ?_⟩) | (intro _)
                   all_goals (refine hK _ ?_; clear hK K)
                   all_goals
                    refine AW_ret (end_x [] [] (by simp [List.range_succ, lk_cons, lk_nil, upd_app]) (by simp) ?_)
                    simp (disch := omega) [e, e0, hml, hml2, hrl]
                    all_goals skip
                try simp [decB_true, decB_false, eqB_true, eqB_false] at hc13
                refine AW_skip ?_
                refine AW_id ?_
                refine AW_x rfl rfl fun K hK => ?_
                simp (disch := omega) [e, e0, hml, hml2, hrl]
                repeat' first | (exfalso; omega) | (refine XKd_v (am2s_cons am2_sl (am2s_cons am2_g am2s_nil)) (heldStringS l.length (1 + cvCatalog (playC l)) (by omega) (by omega)) rfl ?_; simp (disch := omega) [e, e0, hml, hml2, hrl]) | (refine XKd_p (heldStringS l.length (1 + cvCatalog (playC l)) (by omega) (by omega)) (by rfl) ?_ ?_; (focus (simp (disch := omega) [e, e0, hml, hml2, hrl, take_map_n]; done)); simp (disch := omega) [e, e0, hml, hml2, hrl]) | (refine ⟨fun _ => ?_, fun _ => ?_⟩) | (refine ⟨by omega, ?_⟩) | (intro _)
                all_goals (refine hK _ ?_; clear hK K)
                all_goals
                 refine AW_seq ?_
                 refine AW_x rfl rfl fun K hK => ?_
                 simp (disch := omega) [e, e0, hml, hml2, hrl]
                 repeat' first | (refine ⟨by omega, ?_⟩) | (intro _)
                 refine hK _ ?_; clear hK K
                 refine AW_cond rfl (fun hc14 => ?_) (fun hc14 => ?_)
                 · try simp [decB_true, decB_false, eqB_true, eqB_false] at hc14
                   all_goals
                    refine AW_x rfl rfl fun K hK => ?_
                    simp (disch := omega) [e, e0, hml, hml2, hrl]
                    repeat' first | (exfalso; omega) | (refine ⟨fun _ => ?_, fun _ => ?_⟩) | (refine ⟨by omega, ?_⟩) | (intro _)
                    all_goals (refine hK _ ?_; clear hK K)
                    all_goals
                     refine AW_ret (end_x [] [] (by simp [List.range_succ, lk_cons, lk_nil, upd_app]) (by simp) ?_)
                     simp (disch := omega) [e, e0, hml, hml2, hrl]
                     all_goals skip
                 try simp [decB_true, decB_false, eqB_true, eqB_false] at hc14
                 refine AW_skip ?_
                 refine AW_id ?_
                 refine AW_seq ?_
                 refine AW_x rfl rfl fun K hK => ?_
                 simp (disch := omega) [e, e0, hml, hml2, hrl]
                 repeat' first | (exfalso; omega) | (refine ⟨fun _ => ?_, fun _ => ?_⟩) | (refine ⟨by omega, ?_⟩) | (intro _)
                 all_goals (refine hK _ ?_; clear hK K)
                 all_goals
                  refine AW_cond rfl (fun hc15 => ?_) (fun hc15 => ?_)
                  · try simp [decB_true, decB_false, eqB_true, eqB_false] at hc15
                    all_goals
                     refine AW_x rfl rfl fun K hK => ?_
                     simp (disch := omega) [e, e0, hml, hml2, hrl]
                     repeat' first | (exfalso; omega) | (refine ⟨fun _ => ?_, fun _ => ?_⟩) | (refine ⟨by omega, ?_⟩) | (intro _)
                     all_goals (refine hK _ ?_; clear hK K)
                     all_goals
                      refine AW_ret (end_x [] [] (by simp [List.range_succ, lk_cons, lk_nil, upd_app]) (by simp) ?_)
                      simp (disch := omega) [e, e0, hml, hml2, hrl]
                      all_goals skip
                  try simp [decB_true, decB_false, eqB_true, eqB_false] at hc15
                  refine AW_skip ?_
                  refine AW_id ?_
                  refine AW_x rfl rfl fun K hK => ?_
                  simp (disch := omega) [e, e0, hml, hml2, hrl]
                  repeat' first | (exfalso; omega) | (refine ⟨fun _ => ?_, fun _ => ?_⟩) | (refine ⟨by omega, ?_⟩) | (intro _)
                  all_goals (refine hK _ ?_; clear hK K)
                  all_goals
                   refine AW_ret (end_x [] [] (by simp [List.range_succ, lk_cons, lk_nil, upd_app]) (by simp) ?_)
                   simp (disch := omega) [e, e0, hml, hml2, hrl]
                   all_goals skip
theorem lawCatPlay (l : List DtCmd) (hw : wfS DtCmd.wf l) : PCall Try.prog 4 [.sl 8 (l.map DtCmd.cells)] (.g (.bool (true))) := pcall_scal (lawCatPlayX l hw)
end Go.Proofs.Ytmheohnbkaoipaa.Vs
