import Derived.Test.YtpaccfeiaekacaaSK7
import Derived.Test.YtpaccfeiaekacaaSM4
open Go Go.Proofs Go.Proofs.Ytpaccfeiaekacaa.Vs
namespace Go.Proofs.Ytpaccfeiaekacaa.Vs
set_option linter.unusedVariables false
set_option linter.unusedSimpArgs false
set_option linter.unusedSectionVars false
set_option linter.unnecessarySimpa false
set_option linter.all false
set_option linter.unusedSimpArgs false
set_option linter.unusedVariables false
set_option maxRecDepth 100000
theorem kp_len (l : List Int) (r : DtRule) : ∀ (m : Nat) (day days ofd : Int) (out : List Bool), (kp l r m day days ofd out).length = out.length
  | 0, _, _, _, _ => rfl
  | m + 1, day, days, ofd, out => by
    unfold kp
    split <;> rw [kp_len l r m] <;> simp
theorem keepL_len (l : List Int) (r : DtRule) : (keepL l r).length ≤ l.length := by
  cases h : decB (KOk l r) with
  | true => rw [keepL_t h, kp_len]; simp
  | false => rw [keepL_f h]; simp
theorem implKeepP (l : List Int) (r : DtRule) (hl : l.length ≤ 1048576) : PCall Try.prog 11 [.sl 1 (l.map cI), .agg (DtRule.cells r)] (.sl 1 ((keepL l r).map cB)) :=
  pcall_row (implKeep l r hl) (by simp)
theorem lawKeepX (l : List Int) (r : DtRule) : XCall Try.prog 3 [.sl 1 (l.map cI), .agg (DtRule.cells r)] [] (.g (.bool (true))) [] [] := by
  have hkl := keepL_len l r
  refine xcall_of_walk Try.func3 (by rfl) (by rfl) (by rw [Try.ntmps3]; exact Nat.le_of_ble_eq_true rfl) rfl (by simp) rfl rfl ?_
  rw [Try.ntmps3]
  refine AW_x0   ?_
  refine AW_k [(0, _), (1, _)] ⟨rfl, rfl, trivial⟩ ?_
  refine AW_x rfl rfl fun K hK => ?_
  simp (disch := omega) [wrap64, List.getElem?_eq_getElem, toNat_pred, DtRule.cells, eqB_self, mkL_len, take_mkL]
  repeat' first | (exfalso; omega) | (refine ⟨fun _ => ?_, fun _ => ?_⟩) | (refine ⟨by omega, ?_⟩) | (intro _)
  all_goals (refine hK _ ?_; clear hK K)
  all_goals
    refine AW_seq ?_
    refine AW_x rfl rfl fun K hK => ?_
    simp (disch := omega) [wrap64, List.getElem?_eq_getElem, toNat_pred, DtRule.cells, eqB_self, mkL_len, take_mkL]
    repeat' first | (exfalso; omega) | (refine ⟨fun _ => ?_, fun _ => ?_⟩) | (refine ⟨by omega, ?_⟩) | (intro _)
    all_goals (refine hK _ ?_; clear hK K)
    all_goals
      refine AW_cond rfl (fun hc1 => ?_) (fun hc1 => ?_)
      · try simp at hc1
        all_goals
          refine AW_x rfl rfl fun K hK => ?_
          simp (disch := omega) [wrap64, List.getElem?_eq_getElem, toNat_pred, DtRule.cells, eqB_self, mkL_len, take_mkL]
          repeat' first | (exfalso; omega) | (refine ⟨fun _ => ?_, fun _ => ?_⟩) | (refine ⟨by omega, ?_⟩) | (intro _)
          all_goals (refine hK _ ?_; clear hK K)
          all_goals
            refine AW_ret (end_x [] [] (by simp [List.range_succ, lk_cons, lk_nil, upd_app]) (by simp) ?_)
            simp (disch := omega) [wrap64, List.getElem?_eq_getElem, toNat_pred, DtRule.cells, eqB_self, mkL_len, take_mkL]
            all_goals skip
      · try simp at hc1
        all_goals
          refine AW_skip ?_
          refine AW_id ?_
          refine AW_q rfl mix (by kernel_rfl) rfl fun K hK => ?_
          simp (disch := omega) [wrap64, List.getElem?_eq_getElem, toNat_pred, DtRule.cells, eqB_self, mkL_len, take_mkL]
          repeat' first | (exfalso; omega) | (refine CKd_v (am2s_cons am2_sl am2s_nil) (toIntS _ (by omega)) rfl ?_; simp (disch := omega) [wrap64, List.getElem?_eq_getElem, toNat_pred, DtRule.cells, eqB_self, mkL_len, take_mkL]) | (refine CKd_v (am2s_cons (am2_agg rfl) am2s_nil) (toRule _) rfl ?_; simp (disch := omega) [wrap64, List.getElem?_eq_getElem, toNat_pred, DtRule.cells, eqB_self, mkL_len, take_mkL]) | (refine CKd_v (am2s_cons am2_sl (am2s_cons (am2_agg rfl) am2s_nil)) (specKeep l r (by omega)) rfl ?_; simp (disch := omega) [wrap64, List.getElem?_eq_getElem, toNat_pred, DtRule.cells, eqB_self, mkL_len, take_mkL]) | (refine ⟨fun _ => ?_, fun _ => ?_⟩) | (refine ⟨by omega, ?_⟩) | (intro _)
          all_goals (refine hK _ ?_; clear hK K)
          all_goals
            refine AW_x rfl rfl fun K hK => ?_
            simp (disch := omega) [wrap64, List.getElem?_eq_getElem, toNat_pred, DtRule.cells, eqB_self, mkL_len, take_mkL]
            repeat' first | (exfalso; omega) | (refine XKd_x [] true [] (toIntSX l (by omega)) (by simp [List.range_succ, nmC]) (by simp (disch := omega) [wrap64, List.getElem?_eq_getElem, toNat_pred, DtRule.cells, eqB_self, mkL_len, take_mkL, take_map_n]) ?_; simp (disch := omega) [wrap64, List.getElem?_eq_getElem, toNat_pred, DtRule.cells, eqB_self, mkL_len, take_mkL]) | (refine XKd_v (am2s_cons am2_sl am2s_nil) (toIntS _ (by omega)) rfl ?_; simp (disch := omega) [wrap64, List.getElem?_eq_getElem, toNat_pred, DtRule.cells, eqB_self, mkL_len, take_mkL]) | (refine XKd_p (toIntS _ (by omega)) (by rfl) (by simp (disch := omega) [wrap64, List.getElem?_eq_getElem, toNat_pred, DtRule.cells, eqB_self, mkL_len, take_mkL, take_map_n]) ?_; simp (disch := omega) [wrap64, List.getElem?_eq_getElem, toNat_pred, DtRule.cells, eqB_self, mkL_len, take_mkL]) | (refine ⟨fun _ => ?_, fun _ => ?_⟩) | (refine ⟨by omega, ?_⟩) | (intro _)
            all_goals (refine hK _ ?_; clear hK K)
            all_goals
              refine AW_x rfl rfl fun K hK => ?_
              simp (disch := omega) [wrap64, List.getElem?_eq_getElem, toNat_pred, DtRule.cells, eqB_self, mkL_len, take_mkL]
              repeat' first | (exfalso; omega) | (refine XKd_v (am2s_cons (am2_agg rfl) am2s_nil) (toRule _) rfl ?_; simp (disch := omega) [wrap64, List.getElem?_eq_getElem, toNat_pred, DtRule.cells, eqB_self, mkL_len, take_mkL]) | (refine XKd_p (toRule _) (by rfl) (by simp (disch := omega) [wrap64, List.getElem?_eq_getElem, toNat_pred, DtRule.cells, eqB_self, mkL_len, take_mkL, take_map_n]) ?_; simp (disch := omega) [wrap64, List.getElem?_eq_getElem, toNat_pred, DtRule.cells, eqB_self, mkL_len, take_mkL]) | (refine XKd_x [] true [] (implKeep l r (by omega)) (by simp [List.range_succ, nmC]) (by simp (disch := omega) [wrap64, List.getElem?_eq_getElem, toNat_pred, DtRule.cells, eqB_self, mkL_len, take_mkL, take_map_n]) ?_; simp (disch := omega) [wrap64, List.getElem?_eq_getElem, toNat_pred, DtRule.cells, eqB_self, mkL_len, take_mkL]) | (refine XKd_v (am2s_cons am2_sl (am2s_cons (am2_agg rfl) am2s_nil)) (implKeepP l r (by omega)) rfl ?_; simp (disch := omega) [wrap64, List.getElem?_eq_getElem, toNat_pred, DtRule.cells, eqB_self, mkL_len, take_mkL]) | (refine XKd_p (implKeepP l r (by omega)) (by rfl) (by simp (disch := omega) [wrap64, List.getElem?_eq_getElem, toNat_pred, DtRule.cells, eqB_self, mkL_len, take_mkL, take_map_n]) ?_; simp (disch := omega) [wrap64, List.getElem?_eq_getElem, toNat_pred, DtRule.cells, eqB_self, mkL_len, take_mkL]) | (refine ⟨fun _ => ?_, fun _ => ?_⟩) | (refine ⟨by omega, ?_⟩) | (intro _)
              all_goals (refine hK _ ?_; clear hK K)
              all_goals
                refine AW_seq ?_
                refine AW_x rfl rfl fun K hK => ?_
                simp (disch := omega) [wrap64, List.getElem?_eq_getElem, toNat_pred, DtRule.cells, eqB_self, mkL_len, take_mkL]
                repeat' first | (exfalso; omega) | (refine XKd_v (am2s_cons am2_sl (am2s_cons am2_sl am2s_nil)) (eqBoolS (keepL l r) (keepL l r) (by omega)) rfl ?_; simp (disch := omega) [wrap64, List.getElem?_eq_getElem, toNat_pred, DtRule.cells, eqB_self, mkL_len, take_mkL]) | (refine XKd_p (eqBoolS (keepL l r) (keepL l r) (by omega)) (by rfl) (by simp (disch := omega) [wrap64, List.getElem?_eq_getElem, toNat_pred, DtRule.cells, eqB_self, mkL_len, take_mkL, take_map_n]) ?_; simp (disch := omega) [wrap64, List.getElem?_eq_getElem, toNat_pred, DtRule.cells, eqB_self, mkL_len, take_mkL]) | (refine ⟨fun _ => ?_, fun _ => ?_⟩) | (refine ⟨by omega, ?_⟩) | (intro _)
                all_goals (refine hK _ ?_; clear hK K)
                all_goals
                  refine AW_cond rfl (fun hc2 => ?_) (fun hc2 => ?_)
                  · try simp at hc2
                    all_goals
                      refine AW_x rfl rfl fun K hK => ?_
                      simp (disch := omega) [wrap64, List.getElem?_eq_getElem, toNat_pred, DtRule.cells, eqB_self, mkL_len, take_mkL]
                      repeat' first | (exfalso; omega) | (refine ⟨fun _ => ?_, fun _ => ?_⟩) | (refine ⟨by omega, ?_⟩) | (intro _)
                      all_goals (refine hK _ ?_; clear hK K)
                      all_goals
                        refine AW_ret (end_x [] [] (by simp [List.range_succ, lk_cons, lk_nil, upd_app]) (by simp) ?_)
                        simp (disch := omega) [wrap64, List.getElem?_eq_getElem, toNat_pred, DtRule.cells, eqB_self, mkL_len, take_mkL]
                        all_goals skip
                  · try simp at hc2
                    all_goals
                      refine AW_skip ?_
                      refine AW_id ?_
                      refine AW_seq ?_
                      refine AW_x rfl rfl fun K hK => ?_
                      simp (disch := omega) [wrap64, List.getElem?_eq_getElem, toNat_pred, DtRule.cells, eqB_self, mkL_len, take_mkL]
                      repeat' first | (exfalso; omega) | (refine XKd_x [] true [] (toIntSX l (by omega)) (by simp [List.range_succ, nmC]) (by simp (disch := omega) [wrap64, List.getElem?_eq_getElem, toNat_pred, DtRule.cells, eqB_self, mkL_len, take_mkL, take_map_n]) ?_; simp (disch := omega) [wrap64, List.getElem?_eq_getElem, toNat_pred, DtRule.cells, eqB_self, mkL_len, take_mkL]) | (refine XKd_v (am2s_cons am2_sl am2s_nil) (toIntS _ (by omega)) rfl ?_; simp (disch := omega) [wrap64, List.getElem?_eq_getElem, toNat_pred, DtRule.cells, eqB_self, mkL_len, take_mkL]) | (refine XKd_p (toIntS _ (by omega)) (by rfl) (by simp (disch := omega) [wrap64, List.getElem?_eq_getElem, toNat_pred, DtRule.cells, eqB_self, mkL_len, take_mkL, take_map_n]) ?_; simp (disch := omega) [wrap64, List.getElem?_eq_getElem, toNat_pred, DtRule.cells, eqB_self, mkL_len, take_mkL]) | (refine XKd_v (am2s_cons am2_sl (am2s_cons am2_sl am2s_nil)) (eqIntS l l (by omega)) rfl ?_; simp (disch := omega) [wrap64, List.getElem?_eq_getElem, toNat_pred, DtRule.cells, eqB_self, mkL_len, take_mkL]) | (refine XKd_p (eqIntS l l (by omega)) (by rfl) (by simp (disch := omega) [wrap64, List.getElem?_eq_getElem, toNat_pred, DtRule.cells, eqB_self, mkL_len, take_mkL, take_map_n]) ?_; simp (disch := omega) [wrap64, List.getElem?_eq_getElem, toNat_pred, DtRule.cells, eqB_self, mkL_len, take_mkL]) | (refine ⟨fun _ => ?_, fun _ => ?_⟩) | (refine ⟨by omega, ?_⟩) | (intro _)
                      all_goals (refine hK _ ?_; clear hK K)
                      all_goals
                        refine AW_cond rfl (fun hc3 => ?_) (fun hc3 => ?_)
                        · try simp at hc3
                          all_goals
                            refine AW_x rfl rfl fun K hK => ?_
                            simp (disch := omega) [wrap64, List.getElem?_eq_getElem, toNat_pred, DtRule.cells, eqB_self, mkL_len, take_mkL]
                            repeat' first | (exfalso; omega) | (refine ⟨fun _ => ?_, fun _ => ?_⟩) | (refine ⟨by omega, ?_⟩) | (intro _)
                            all_goals (refine hK _ ?_; clear hK K)
                            all_goals
                              refine AW_ret (end_x [] [] (by simp [List.range_succ, lk_cons, lk_nil, upd_app]) (by simp) ?_)
                              simp (disch := omega) [wrap64, List.getElem?_eq_getElem, toNat_pred, DtRule.cells, eqB_self, mkL_len, take_mkL]
                              all_goals skip
                        · try simp at hc3
                          all_goals
                            refine AW_skip ?_
                            refine AW_id ?_
                            refine AW_x rfl rfl fun K hK => ?_
                            simp (disch := omega) [wrap64, List.getElem?_eq_getElem, toNat_pred, DtRule.cells, eqB_self, mkL_len, take_mkL]
                            repeat' first | (exfalso; omega) | (refine ⟨fun _ => ?_, fun _ => ?_⟩) | (refine ⟨by omega, ?_⟩) | (intro _)
                            all_goals (refine hK _ ?_; clear hK K)
                            all_goals
                              refine AW_x rfl rfl fun K hK => ?_
                              simp (disch := omega) [wrap64, List.getElem?_eq_getElem, toNat_pred, DtRule.cells, eqB_self, mkL_len, take_mkL]
                              repeat' first | (exfalso; omega) | (refine XKd_x [352] true [] (markIntS l 1 (by omega) (by omega)) (by simp [List.range_succ, nmC]) (by simp (disch := omega) [wrap64, List.getElem?_eq_getElem, toNat_pred, DtRule.cells, eqB_self, mkL_len, take_mkL, take_map_n]) ?_; simp (disch := omega) [wrap64, List.getElem?_eq_getElem, toNat_pred, DtRule.cells, eqB_self, mkL_len, take_mkL]) | (refine ⟨fun _ => ?_, fun _ => ?_⟩) | (refine ⟨by omega, ?_⟩) | (intro _)
                              all_goals (refine hK _ ?_; clear hK K)
                              all_goals
                                refine AW_seq ?_
                                refine AW_x rfl rfl fun K hK => ?_
                                simp (disch := omega) [wrap64, List.getElem?_eq_getElem, toNat_pred, DtRule.cells, eqB_self, mkL_len, take_mkL]
                                repeat' first | (exfalso; omega) | (refine XKd_v (am2s_cons am2_sl (am2s_cons am2_sl am2s_nil)) (eqBoolS (keepL l r) (keepL l r) (by omega)) rfl ?_; simp (disch := omega) [wrap64, List.getElem?_eq_getElem, toNat_pred, DtRule.cells, eqB_self, mkL_len, take_mkL]) | (refine XKd_p (eqBoolS (keepL l r) (keepL l r) (by omega)) (by rfl) (by simp (disch := omega) [wrap64, List.getElem?_eq_getElem, toNat_pred, DtRule.cells, eqB_self, mkL_len, take_mkL, take_map_n]) ?_; simp (disch := omega) [wrap64, List.getElem?_eq_getElem, toNat_pred, DtRule.cells, eqB_self, mkL_len, take_mkL]) | (refine ⟨fun _ => ?_, fun _ => ?_⟩) | (refine ⟨by omega, ?_⟩) | (intro _)
                                all_goals (refine hK _ ?_; clear hK K)
                                all_goals
                                  refine AW_cond rfl (fun hc4 => ?_) (fun hc4 => ?_)
                                  · try simp at hc4
                                    all_goals
                                      refine AW_x rfl rfl fun K hK => ?_
                                      simp (disch := omega) [wrap64, List.getElem?_eq_getElem, toNat_pred, DtRule.cells, eqB_self, mkL_len, take_mkL]
                                      repeat' first | (exfalso; omega) | (refine ⟨fun _ => ?_, fun _ => ?_⟩) | (refine ⟨by omega, ?_⟩) | (intro _)
                                      all_goals (refine hK _ ?_; clear hK K)
                                      all_goals
                                        refine AW_ret (end_x [] [] (by simp [List.range_succ, lk_cons, lk_nil, upd_app]) (by simp) ?_)
                                        simp (disch := omega) [wrap64, List.getElem?_eq_getElem, toNat_pred, DtRule.cells, eqB_self, mkL_len, take_mkL]
                                        all_goals skip
                                  · try simp at hc4
                                    all_goals
                                      refine AW_skip ?_
                                      refine AW_id ?_
                                      refine AW_x rfl rfl fun K hK => ?_
                                      simp (disch := omega) [wrap64, List.getElem?_eq_getElem, toNat_pred, DtRule.cells, eqB_self, mkL_len, take_mkL]
                                      repeat' first | (exfalso; omega) | (refine ⟨fun _ => ?_, fun _ => ?_⟩) | (refine ⟨by omega, ?_⟩) | (intro _)
                                      all_goals (refine hK _ ?_; clear hK K)
                                      all_goals
                                        refine AW_x rfl rfl fun K hK => ?_
                                        simp (disch := omega) [wrap64, List.getElem?_eq_getElem, toNat_pred, DtRule.cells, eqB_self, mkL_len, take_mkL]
                                        repeat' first | (exfalso; omega) | (refine XKd_x [416] true [] (markBoolS (keepL l r) 1 (by omega) (by omega)) (by simp [List.range_succ, nmC]) (by simp (disch := omega) [wrap64, List.getElem?_eq_getElem, toNat_pred, DtRule.cells, eqB_self, mkL_len, take_mkL, take_map_n]) ?_; simp (disch := omega) [wrap64, List.getElem?_eq_getElem, toNat_pred, DtRule.cells, eqB_self, mkL_len, take_mkL]) | (refine ⟨fun _ => ?_, fun _ => ?_⟩) | (refine ⟨by omega, ?_⟩) | (intro _)
                                        all_goals (refine hK _ ?_; clear hK K)
                                        all_goals
                                          refine AW_x rfl rfl fun K hK => ?_
                                          simp (disch := omega) [wrap64, List.getElem?_eq_getElem, toNat_pred, DtRule.cells, eqB_self, mkL_len, take_mkL]
                                          repeat' first | (exfalso; omega) | (refine ⟨fun _ => ?_, fun _ => ?_⟩) | (refine ⟨by omega, ?_⟩) | (intro _)
                                          all_goals (refine hK _ ?_; clear hK K)
                                          all_goals
                                            refine AW_x rfl rfl fun K hK => ?_
                                            simp (disch := omega) [wrap64, List.getElem?_eq_getElem, toNat_pred, DtRule.cells, eqB_self, mkL_len, take_mkL]
                                            repeat' first | (exfalso; omega) | (refine XKd_v (am2s_cons am2_sl (am2s_cons am2_g am2s_nil)) (heldBoolS (keepL l r).length 1 (by omega) (by omega)) rfl ?_; simp (disch := omega) [wrap64, List.getElem?_eq_getElem, toNat_pred, DtRule.cells, eqB_self, mkL_len, take_mkL]) | (refine XKd_p (heldBoolS (keepL l r).length 1 (by omega) (by omega)) (by rfl) (by simp (disch := omega) [wrap64, List.getElem?_eq_getElem, toNat_pred, DtRule.cells, eqB_self, mkL_len, take_mkL, take_map_n]) ?_; simp (disch := omega) [wrap64, List.getElem?_eq_getElem, toNat_pred, DtRule.cells, eqB_self, mkL_len, take_mkL]) | (refine ⟨fun _ => ?_, fun _ => ?_⟩) | (refine ⟨by omega, ?_⟩) | (intro _)
                                            all_goals (refine hK _ ?_; clear hK K)
                                            all_goals
                                              refine AW_seq ?_
                                              refine AW_x rfl rfl fun K hK => ?_
                                              simp (disch := omega) [wrap64, List.getElem?_eq_getElem, toNat_pred, DtRule.cells, eqB_self, mkL_len, take_mkL]
                                              repeat' first | (exfalso; omega) | (refine ⟨fun _ => ?_, fun _ => ?_⟩) | (refine ⟨by omega, ?_⟩) | (intro _)
                                              all_goals (refine hK _ ?_; clear hK K)
                                              all_goals
                                                refine AW_cond rfl (fun hc5 => ?_) (fun hc5 => ?_)
                                                · try simp at hc5
                                                  all_goals
                                                    refine AW_x rfl rfl fun K hK => ?_
                                                    simp (disch := omega) [wrap64, List.getElem?_eq_getElem, toNat_pred, DtRule.cells, eqB_self, mkL_len, take_mkL]
                                                    repeat' first | (exfalso; omega) | (refine ⟨fun _ => ?_, fun _ => ?_⟩) | (refine ⟨by omega, ?_⟩) | (intro _)
                                                    all_goals (refine hK _ ?_; clear hK K)
                                                    all_goals
                                                      refine AW_ret (end_x [] [] (by simp [List.range_succ, lk_cons, lk_nil, upd_app]) (by simp) ?_)
                                                      simp (disch := omega) [wrap64, List.getElem?_eq_getElem, toNat_pred, DtRule.cells, eqB_self, mkL_len, take_mkL]
                                                      all_goals skip
                                                · try simp at hc5
                                                  all_goals
                                                    refine AW_skip ?_
                                                    refine AW_id ?_
                                                    refine AW_seq ?_
                                                    refine AW_x rfl rfl fun K hK => ?_
                                                    simp (disch := omega) [wrap64, List.getElem?_eq_getElem, toNat_pred, DtRule.cells, eqB_self, mkL_len, take_mkL]
                                                    repeat' first | (exfalso; omega) | (refine ⟨fun _ => ?_, fun _ => ?_⟩) | (refine ⟨by omega, ?_⟩) | (intro _)
                                                    all_goals (refine hK _ ?_; clear hK K)
                                                    all_goals
                                                      refine AW_cond rfl (fun hc6 => ?_) (fun hc6 => ?_)
                                                      · try simp at hc6
                                                        all_goals
                                                          refine AW_x rfl rfl fun K hK => ?_
                                                          simp (disch := omega) [wrap64, List.getElem?_eq_getElem, toNat_pred, DtRule.cells, eqB_self, mkL_len, take_mkL]
                                                          repeat' first | (exfalso; omega) | (refine ⟨fun _ => ?_, fun _ => ?_⟩) | (refine ⟨by omega, ?_⟩) | (intro _)
                                                          all_goals (refine hK _ ?_; clear hK K)
                                                          all_goals
                                                            refine AW_ret (end_x [] [] (by simp [List.range_succ, lk_cons, lk_nil, upd_app]) (by simp) ?_)
                                                            simp (disch := omega) [wrap64, List.getElem?_eq_getElem, toNat_pred, DtRule.cells, eqB_self, mkL_len, take_mkL]
                                                            all_goals skip
                                                      · try simp at hc6
                                                        all_goals
                                                          refine AW_skip ?_
                                                          refine AW_id ?_
                                                          refine AW_q rfl mix (by kernel_rfl) rfl fun K hK => ?_
                                                          simp (disch := omega) [wrap64, List.getElem?_eq_getElem, toNat_pred, DtRule.cells, eqB_self, mkL_len, take_mkL]
                                                          repeat' first | (exfalso; omega) | (refine CKd_v (am2s_cons am2_sl am2s_nil) (toIntS _ (by omega)) rfl ?_; simp (disch := omega) [wrap64, List.getElem?_eq_getElem, toNat_pred, DtRule.cells, eqB_self, mkL_len, take_mkL]) | (refine CKd_v (am2s_cons (am2_agg rfl) am2s_nil) (toRule _) rfl ?_; simp (disch := omega) [wrap64, List.getElem?_eq_getElem, toNat_pred, DtRule.cells, eqB_self, mkL_len, take_mkL]) | (refine CKd_v (am2s_cons am2_sl (am2s_cons (am2_agg rfl) am2s_nil)) (implKeepP l r (by omega)) rfl ?_; simp (disch := omega) [wrap64, List.getElem?_eq_getElem, toNat_pred, DtRule.cells, eqB_self, mkL_len, take_mkL]) | (refine ⟨fun _ => ?_, fun _ => ?_⟩) | (refine ⟨by omega, ?_⟩) | (intro _)
                                                          all_goals (refine hK _ ?_; clear hK K)
                                                          all_goals
                                                            refine AW_seq ?_
                                                            refine AW_x rfl rfl fun K hK => ?_
                                                            simp (disch := omega) [wrap64, List.getElem?_eq_getElem, toNat_pred, DtRule.cells, eqB_self, mkL_len, take_mkL]
                                                            repeat' first | (exfalso; omega) | (refine XKd_v (am2s_cons am2_sl (am2s_cons am2_sl am2s_nil)) (eqBoolS (keepL l r) (keepL l r) (by omega)) rfl ?_; simp (disch := omega) [wrap64, List.getElem?_eq_getElem, toNat_pred, DtRule.cells, eqB_self, mkL_len, take_mkL]) | (refine XKd_p (eqBoolS (keepL l r) (keepL l r) (by omega)) (by rfl) (by simp (disch := omega) [wrap64, List.getElem?_eq_getElem, toNat_pred, DtRule.cells, eqB_self, mkL_len, take_mkL, take_map_n]) ?_; simp (disch := omega) [wrap64, List.getElem?_eq_getElem, toNat_pred, DtRule.cells, eqB_self, mkL_len, take_mkL]) | (refine ⟨fun _ => ?_, fun _ => ?_⟩) | (refine ⟨by omega, ?_⟩) | (intro _)
                                                            all_goals (refine hK _ ?_; clear hK K)
                                                            all_goals
                                                              refine AW_cond rfl (fun hc7 => ?_) (fun hc7 => ?_)
                                                              · try simp at hc7
                                                                all_goals
                                                                  refine AW_x rfl rfl fun K hK => ?_
                                                                  simp (disch := omega) [wrap64, List.getElem?_eq_getElem, toNat_pred, DtRule.cells, eqB_self, mkL_len, take_mkL]
                                                                  repeat' first | (exfalso; omega) | (refine ⟨fun _ => ?_, fun _ => ?_⟩) | (refine ⟨by omega, ?_⟩) | (intro _)
                                                                  all_goals (refine hK _ ?_; clear hK K)
                                                                  all_goals
                                                                    refine AW_ret (end_x [] [] (by simp [List.range_succ, lk_cons, lk_nil, upd_app]) (by simp) ?_)
                                                                    simp (disch := omega) [wrap64, List.getElem?_eq_getElem, toNat_pred, DtRule.cells, eqB_self, mkL_len, take_mkL]
                                                                    all_goals skip
                                                              · try simp at hc7
                                                                all_goals
                                                                  refine AW_skip ?_
                                                                  refine AW_id ?_
                                                                  refine AW_x rfl rfl fun K hK => ?_
                                                                  simp (disch := omega) [wrap64, List.getElem?_eq_getElem, toNat_pred, DtRule.cells, eqB_self, mkL_len, take_mkL]
                                                                  repeat' first | (exfalso; omega) | (refine ⟨fun _ => ?_, fun _ => ?_⟩) | (refine ⟨by omega, ?_⟩) | (intro _)
                                                                  all_goals (refine hK _ ?_; clear hK K)
                                                                  all_goals
                                                                    refine AW_x rfl rfl fun K hK => ?_
                                                                    simp (disch := omega) [wrap64, List.getElem?_eq_getElem, toNat_pred, DtRule.cells, eqB_self, mkL_len, take_mkL]
                                                                    repeat' first | (exfalso; omega) | (refine XKd_v (am2s_cons am2_sl (am2s_cons am2_g am2s_nil)) (heldBoolS (keepL l r).length 1 (by omega) (by omega)) rfl ?_; simp (disch := omega) [wrap64, List.getElem?_eq_getElem, toNat_pred, DtRule.cells, eqB_self, mkL_len, take_mkL]) | (refine XKd_p (heldBoolS (keepL l r).length 1 (by omega) (by omega)) (by rfl) (by simp (disch := omega) [wrap64, List.getElem?_eq_getElem, toNat_pred, DtRule.cells, eqB_self, mkL_len, take_mkL, take_map_n]) ?_; simp (disch := omega) [wrap64, List.getElem?_eq_getElem, toNat_pred, DtRule.cells, eqB_self, mkL_len, take_mkL]) | (refine ⟨fun _ => ?_, fun _ => ?_⟩) | (refine ⟨by omega, ?_⟩) | (intro _)
                                                                    all_goals (refine hK _ ?_; clear hK K)
                                                                    all_goals
                                                                      refine AW_seq ?_
                                                                      refine AW_x rfl rfl fun K hK => ?_
                                                                      simp (disch := omega) [wrap64, List.getElem?_eq_getElem, toNat_pred, DtRule.cells, eqB_self, mkL_len, take_mkL]
                                                                      repeat' first | (exfalso; omega) | (refine ⟨fun _ => ?_, fun _ => ?_⟩) | (refine ⟨by omega, ?_⟩) | (intro _)
                                                                      all_goals (refine hK _ ?_; clear hK K)
                                                                      all_goals
                                                                        refine AW_cond rfl (fun hc8 => ?_) (fun hc8 => ?_)
                                                                        · try simp at hc8
                                                                          all_goals
                                                                            refine AW_x rfl rfl fun K hK => ?_
                                                                            simp (disch := omega) [wrap64, List.getElem?_eq_getElem, toNat_pred, DtRule.cells, eqB_self, mkL_len, take_mkL]
                                                                            repeat' first | (exfalso; omega) | (refine ⟨fun _ => ?_, fun _ => ?_⟩) | (refine ⟨by omega, ?_⟩) | (intro _)
                                                                            all_goals (refine hK _ ?_; clear hK K)
                                                                            all_goals
                                                                              refine AW_ret (end_x [] [] (by simp [List.range_succ, lk_cons, lk_nil, upd_app]) (by simp) ?_)
                                                                              simp (disch := omega) [wrap64, List.getElem?_eq_getElem, toNat_pred, DtRule.cells, eqB_self, mkL_len, take_mkL]
                                                                              all_goals skip
                                                                        · try simp at hc8
                                                                          all_goals
                                                                            refine AW_skip ?_
                                                                            refine AW_id ?_
                                                                            refine AW_seq ?_
                                                                            refine AW_x rfl rfl fun K hK => ?_
                                                                            simp (disch := omega) [wrap64, List.getElem?_eq_getElem, toNat_pred, DtRule.cells, eqB_self, mkL_len, take_mkL]
                                                                            repeat' first | (exfalso; omega) | (refine ⟨fun _ => ?_, fun _ => ?_⟩) | (refine ⟨by omega, ?_⟩) | (intro _)
                                                                            all_goals (refine hK _ ?_; clear hK K)
                                                                            all_goals
                                                                              refine AW_cond rfl (fun hc9 => ?_) (fun hc9 => ?_)
                                                                              · try simp at hc9
                                                                                all_goals
                                                                                  refine AW_x rfl rfl fun K hK => ?_
                                                                                  simp (disch := omega) [wrap64, List.getElem?_eq_getElem, toNat_pred, DtRule.cells, eqB_self, mkL_len, take_mkL]
                                                                                  repeat' first | (exfalso; omega) | (refine ⟨fun _ => ?_, fun _ => ?_⟩) | (refine ⟨by omega, ?_⟩) | (intro _)
                                                                                  all_goals (refine hK _ ?_; clear hK K)
                                                                                  all_goals
                                                                                    refine AW_ret (end_x [] [] (by simp [List.range_succ, lk_cons, lk_nil, upd_app]) (by simp) ?_)
                                                                                    simp (disch := omega) [wrap64, List.getElem?_eq_getElem, toNat_pred, DtRule.cells, eqB_self, mkL_len, take_mkL]
                                                                                    all_goals skip
                                                                              · try simp at hc9
                                                                                all_goals
                                                                                  refine AW_skip ?_
                                                                                  refine AW_id ?_
                                                                                  refine AW_x rfl rfl fun K hK => ?_
                                                                                  simp (disch := omega) [wrap64, List.getElem?_eq_getElem, toNat_pred, DtRule.cells, eqB_self, mkL_len, take_mkL]
                                                                                  repeat' first | (exfalso; omega) | (refine ⟨fun _ => ?_, fun _ => ?_⟩) | (refine ⟨by omega, ?_⟩) | (intro _)
                                                                                  all_goals (refine hK _ ?_; clear hK K)
                                                                                  all_goals
                                                                                    refine AW_ret (end_x [] [] (by simp [List.range_succ, lk_cons, lk_nil, upd_app]) (by simp) ?_)
                                                                                    simp (disch := omega) [wrap64, List.getElem?_eq_getElem, toNat_pred, DtRule.cells, eqB_self, mkL_len, take_mkL]
                                                                                    all_goals skip
theorem lawKeep (l : List Int) (hl : wfS wfI l) (r : DtRule) (hr : DtRule.wf r) : PCall Try.prog 3 [.sl 1 (l.map cI), .agg (DtRule.cells r)] (.g (.bool (true))) := pcall_scal (lawKeepX l r)
end Go.Proofs.Ytpaccfeiaekacaa.Vs
