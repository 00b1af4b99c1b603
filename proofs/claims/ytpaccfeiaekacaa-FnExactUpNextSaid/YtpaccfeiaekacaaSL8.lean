import Derived.Test.YtpaccfeiaekacaaSE8
open Go Go.Proofs Go.Proofs.Ytpaccfeiaekacaa.Vs
namespace Go.Proofs.Ytpaccfeiaekacaa.Vs
set_option linter.unusedVariables false
set_option linter.unusedSimpArgs false
set_option linter.unusedSectionVars false
set_option linter.unnecessarySimpa false
set_option linter.all false
set_option linter.unusedSimpArgs false
set_option linter.unusedVariables false
set_option maxRecDepth 100000
theorem nextU_sz (u : DtUps) (hs : DtUps.sz u ≤ 1048576) : DtUps.sz (nextU u) ≤ 1048576 := by
  by_cases h : UpsOkP u
  · by_cases k : u.fEpoch < 1000
    · rw [(nextU_t h k).1]; exact hs
    · rw [(nextU_e h (by omega)).1]; exact hs
  · rw [(nextU_f h).1]; simp [DtUps.sz, szS, sumZ_nil]
theorem lawNextX (u : DtUps) (hw : DtUps.wf u) : XCall Try.prog 6 [.agg (DtUps.cells u)] [] (.g (.bool (true))) [] [] := by
  have hq := DtUps.sz_nonneg u
  by_cases h : (1048576 : Int) - DtUps.sz u < 0
  · have e : szR 1048576 (DtUps.sz u) = -1 := by unfold szR; rw [if_pos h]
    refine xcall_of_walk Try.func6 (by rfl) (by rfl) (by rw [Try.ntmps6]; exact Nat.le_of_ble_eq_true rfl) rfl (by simp) rfl rfl ?_
    rw [Try.ntmps6]
    refine AW_x0   ?_
    refine AW_k [(0, _)] ⟨rfl, trivial⟩ ?_
    refine AW_x rfl rfl fun K hK => ?_
    simp (disch := omega) [wrap64, List.getElem?_eq_getElem, toNat_pred, e, DtUps.cells]
    repeat' first | (exfalso; omega) | (refine ⟨fun _ => ?_, fun _ => ?_⟩) | (refine ⟨by omega, ?_⟩) | (intro _)
    all_goals (refine hK _ ?_; clear hK K)
    all_goals
      refine AW_x rfl rfl fun K hK => ?_
      simp (disch := omega) [wrap64, List.getElem?_eq_getElem, toNat_pred, e, DtUps.cells]
      repeat' first | (exfalso; omega) | (refine ⟨fun _ => ?_, fun _ => ?_⟩) | (refine ⟨by omega, ?_⟩) | (intro _)
      all_goals (refine hK _ ?_; clear hK K)
      all_goals
        refine AW_x rfl rfl fun K hK => ?_
        simp (disch := omega) [wrap64, List.getElem?_eq_getElem, toNat_pred, e, DtUps.cells]
        repeat' first | (exfalso; omega) | (refine XKd_v (am2s_cons (am2_agg rfl) (am2s_cons am2_g am2s_nil)) (szUps _ _ (by omega) hw) rfl ?_; simp (disch := omega) [wrap64, List.getElem?_eq_getElem, toNat_pred, e, DtUps.cells]) | (refine XKd_p (szUps _ _ (by omega) hw) (by rfl) ?_ ?_; (focus (simp (disch := omega) [wrap64, List.getElem?_eq_getElem, toNat_pred, e, DtUps.cells, take_map_n]; done)); simp (disch := omega) [wrap64, List.getElem?_eq_getElem, toNat_pred, e, DtUps.cells]) | (refine ⟨fun _ => ?_, fun _ => ?_⟩) | (refine ⟨by omega, ?_⟩) | (intro _)
        all_goals (refine hK _ ?_; clear hK K)
        all_goals
          refine AW_seq ?_
          refine AW_x rfl rfl fun K hK => ?_
          simp (disch := omega) [wrap64, List.getElem?_eq_getElem, toNat_pred, e, DtUps.cells]
          repeat' first | (exfalso; omega) | (refine ⟨fun _ => ?_, fun _ => ?_⟩) | (refine ⟨by omega, ?_⟩) | (intro _)
          all_goals (refine hK _ ?_; clear hK K)
          all_goals
            refine AW_cond rfl (fun hc1 => ?_) (fun hc1 => ?_)
            · try simp at hc1
              all_goals
                refine AW_x rfl rfl fun K hK => ?_
                simp (disch := omega) [wrap64, List.getElem?_eq_getElem, toNat_pred, e, DtUps.cells]
                repeat' first | (exfalso; omega) | (refine ⟨fun _ => ?_, fun _ => ?_⟩) | (refine ⟨by omega, ?_⟩) | (intro _)
                all_goals (refine hK _ ?_; clear hK K)
                all_goals
                  refine AW_ret (end_x [] [] (by simp [List.range_succ, lk_cons, lk_nil, upd_app]) (by simp) ?_)
                  simp (disch := omega) [wrap64, List.getElem?_eq_getElem, toNat_pred, e, DtUps.cells]
                  all_goals skip
            · try simp at hc1
              all_goals
                refine AW_skip ?_
                refine AW_id ?_
                refine AW_x rfl rfl fun K hK => ?_
                simp (disch := omega) [wrap64, List.getElem?_eq_getElem, toNat_pred, e, DtUps.cells]
                repeat' first | (exfalso; omega) | (refine ⟨fun _ => ?_, fun _ => ?_⟩) | (refine ⟨by omega, ?_⟩) | (intro _)
                all_goals (refine hK _ ?_; clear hK K)
                all_goals
                  refine AW_x rfl rfl fun K hK => ?_
                  simp (disch := omega) [wrap64, List.getElem?_eq_getElem, toNat_pred, e, DtUps.cells]
                  repeat' first | (exfalso; omega) | (refine ⟨fun _ => ?_, fun _ => ?_⟩) | (refine ⟨by omega, ?_⟩) | (intro _)
                  all_goals (refine hK _ ?_; clear hK K)
                  all_goals
                    refine AW_x rfl rfl fun K hK => ?_
                    simp (disch := omega) [wrap64, List.getElem?_eq_getElem, toNat_pred, e, DtUps.cells]
                    repeat' first | (exfalso; omega) | (refine ⟨fun _ => ?_, fun _ => ?_⟩) | (refine ⟨by omega, ?_⟩) | (intro _)
                    all_goals (refine hK _ ?_; clear hK K)
                    all_goals
                      refine AW_seq ?_
                      refine AW_x rfl rfl fun K hK => ?_
                      simp (disch := omega) [wrap64, List.getElem?_eq_getElem, toNat_pred, e, DtUps.cells]
                      repeat' first | (exfalso; omega) | (refine ⟨fun _ => ?_, fun _ => ?_⟩) | (refine ⟨by omega, ?_⟩) | (intro _)
                      all_goals (refine hK _ ?_; clear hK K)
                      all_goals
                        refine AW_cond rfl (fun hc2 => ?_) (fun hc2 => ?_)
                        · try simp at hc2
                          all_goals
                            refine AW_x rfl rfl fun K hK => ?_
                            simp (disch := omega) [wrap64, List.getElem?_eq_getElem, toNat_pred, e, DtUps.cells]
                            repeat' first | (exfalso; omega) | (refine ⟨fun _ => ?_, fun _ => ?_⟩) | (refine ⟨by omega, ?_⟩) | (intro _)
                            all_goals (refine hK _ ?_; clear hK K)
                            all_goals
                              refine AW_ret (end_x [] [] (by simp [List.range_succ, lk_cons, lk_nil, upd_app]) (by simp) ?_)
                              simp (disch := omega) [wrap64, List.getElem?_eq_getElem, toNat_pred, e, DtUps.cells]
                              all_goals skip
                        · try simp at hc2
                          all_goals
                            refine AW_skip ?_
                            refine AW_id ?_
                            refine AW_seq ?_
                            refine AW_d rfl mix (by kernel_rfl) (by kernel_rfl) fun K hK => ?_
                            simp (disch := omega) [wrap64, List.getElem?_eq_getElem, toNat_pred, e, DtUps.cells]
                            repeat' first | (exfalso; omega) | (refine ⟨fun _ => ?_, fun _ => ?_⟩) | (refine ⟨by omega, ?_⟩) | (intro _)
                            all_goals (refine hK _ _ (by kernel_rfl) ?_; clear hK K)
                            all_goals
                              refine AW_cond rfl (fun hc3 => ?_) (fun hc3 => ?_)
                              · try simp at hc3
                                all_goals
                                  refine AW_x rfl rfl fun K hK => ?_
                                  simp (disch := omega) [wrap64, List.getElem?_eq_getElem, toNat_pred, e, DtUps.cells]
                                  repeat' first | (exfalso; omega) | (refine ⟨fun _ => ?_, fun _ => ?_⟩) | (refine ⟨by omega, ?_⟩) | (intro _)
                                  all_goals (refine hK _ ?_; clear hK K)
                                  all_goals
                                    refine AW_ret (end_x [] [] (by simp [List.range_succ, lk_cons, lk_nil, upd_app]) (by simp) ?_)
                                    simp (disch := omega) [wrap64, List.getElem?_eq_getElem, toNat_pred, e, DtUps.cells]
                                    all_goals skip
                              · try simp at hc3
                                all_goals
                                  refine AW_skip ?_
                                  refine AW_id ?_
                                  refine AW_x rfl rfl fun K hK => ?_
                                  simp (disch := omega) [wrap64, List.getElem?_eq_getElem, toNat_pred, e, DtUps.cells]
                                  repeat' first | (exfalso; omega) | (refine ⟨fun _ => ?_, fun _ => ?_⟩) | (refine ⟨by omega, ?_⟩) | (intro _)
                                  all_goals (refine hK _ ?_; clear hK K)
                                  all_goals
                                    refine AW_x rfl rfl fun K hK => ?_
                                    simp (disch := omega) [wrap64, List.getElem?_eq_getElem, toNat_pred, e, DtUps.cells]
                                    repeat' first | (exfalso; omega) | (refine ⟨fun _ => ?_, fun _ => ?_⟩) | (refine ⟨by omega, ?_⟩) | (intro _)
                                    all_goals (refine hK _ ?_; clear hK K)
                                    all_goals
                                      refine AW_seq ?_
                                      refine AW_x rfl rfl fun K hK => ?_
                                      simp (disch := omega) [wrap64, List.getElem?_eq_getElem, toNat_pred, e, DtUps.cells]
                                      repeat' first | (exfalso; omega) | (refine ⟨fun _ => ?_, fun _ => ?_⟩) | (refine ⟨by omega, ?_⟩) | (intro _)
                                      all_goals (refine hK _ ?_; clear hK K)
                                      all_goals
                                        refine AW_cond rfl (fun hc4 => ?_) (fun hc4 => ?_)
                                        · try simp at hc4
                                          all_goals
                                            refine AW_x rfl rfl fun K hK => ?_
                                            simp (disch := omega) [wrap64, List.getElem?_eq_getElem, toNat_pred, e, DtUps.cells]
                                            repeat' first | (exfalso; omega) | (refine ⟨fun _ => ?_, fun _ => ?_⟩) | (refine ⟨by omega, ?_⟩) | (intro _)
                                            all_goals (refine hK _ ?_; clear hK K)
                                            all_goals
                                              refine AW_ret (end_x [] [] (by simp [List.range_succ, lk_cons, lk_nil, upd_app]) (by simp) ?_)
                                              simp (disch := omega) [wrap64, List.getElem?_eq_getElem, toNat_pred, e, DtUps.cells]
                                              all_goals skip
                                        · try simp at hc4
                                          all_goals
                                            refine AW_skip ?_
                                            refine AW_id ?_
                                            refine AW_x rfl rfl fun K hK => ?_
                                            simp (disch := omega) [wrap64, List.getElem?_eq_getElem, toNat_pred, e, DtUps.cells]
                                            repeat' first | (exfalso; omega) | (refine ⟨fun _ => ?_, fun _ => ?_⟩) | (refine ⟨by omega, ?_⟩) | (intro _)
                                            all_goals (refine hK _ ?_; clear hK K)
                                            all_goals
                                              refine AW_x rfl rfl fun K hK => ?_
                                              simp (disch := omega) [wrap64, List.getElem?_eq_getElem, toNat_pred, e, DtUps.cells]
                                              repeat' first | (exfalso; omega) | (refine ⟨fun _ => ?_, fun _ => ?_⟩) | (refine ⟨by omega, ?_⟩) | (intro _)
                                              all_goals (refine hK _ ?_; clear hK K)
                                              all_goals
                                                refine AW_x rfl rfl fun K hK => ?_
                                                simp (disch := omega) [wrap64, List.getElem?_eq_getElem, toNat_pred, e, DtUps.cells]
                                                repeat' first | (exfalso; omega) | (refine ⟨fun _ => ?_, fun _ => ?_⟩) | (refine ⟨by omega, ?_⟩) | (intro _)
                                                all_goals (refine hK _ ?_; clear hK K)
                                                all_goals
                                                  refine AW_x rfl rfl fun K hK => ?_
                                                  simp (disch := omega) [wrap64, List.getElem?_eq_getElem, toNat_pred, e, DtUps.cells]
                                                  repeat' first | (exfalso; omega) | (refine ⟨fun _ => ?_, fun _ => ?_⟩) | (refine ⟨by omega, ?_⟩) | (intro _)
                                                  all_goals (refine hK _ ?_; clear hK K)
                                                  all_goals
                                                    refine AW_seq ?_
                                                    refine AW_x rfl rfl fun K hK => ?_
                                                    simp (disch := omega) [wrap64, List.getElem?_eq_getElem, toNat_pred, e, DtUps.cells]
                                                    repeat' first | (exfalso; omega) | (refine ⟨fun _ => ?_, fun _ => ?_⟩) | (refine ⟨by omega, ?_⟩) | (intro _)
                                                    all_goals (refine hK _ ?_; clear hK K)
                                                    all_goals
                                                      refine AW_cond rfl (fun hc5 => ?_) (fun hc5 => ?_)
                                                      · try simp at hc5
                                                        all_goals
                                                          refine AW_x rfl rfl fun K hK => ?_
                                                          simp (disch := omega) [wrap64, List.getElem?_eq_getElem, toNat_pred, e, DtUps.cells]
                                                          repeat' first | (exfalso; omega) | (refine ⟨fun _ => ?_, fun _ => ?_⟩) | (refine ⟨by omega, ?_⟩) | (intro _)
                                                          all_goals (refine hK _ ?_; clear hK K)
                                                          all_goals
                                                            refine AW_ret (end_x [] [] (by simp [List.range_succ, lk_cons, lk_nil, upd_app]) (by simp) ?_)
                                                            simp (disch := omega) [wrap64, List.getElem?_eq_getElem, toNat_pred, e, DtUps.cells]
                                                            all_goals skip
                                                      · try simp at hc5
                                                        all_goals
                                                          refine AW_skip ?_
                                                          refine AW_id ?_
                                                          refine AW_seq ?_
                                                          refine AW_x rfl rfl fun K hK => ?_
                                                          simp (disch := omega) [wrap64, List.getElem?_eq_getElem, toNat_pred, e, DtUps.cells]
                                                          repeat' first | (exfalso; omega) | (refine ⟨fun _ => ?_, fun _ => ?_⟩) | (refine ⟨by omega, ?_⟩) | (intro _)
                                                          all_goals (refine hK _ ?_; clear hK K)
                                                          all_goals
                                                            refine AW_cond rfl (fun hc6 => ?_) (fun hc6 => ?_)
                                                            · try simp at hc6
                                                              all_goals
                                                                refine AW_x rfl rfl fun K hK => ?_
                                                                simp (disch := omega) [wrap64, List.getElem?_eq_getElem, toNat_pred, e, DtUps.cells]
                                                                repeat' first | (exfalso; omega) | (refine ⟨fun _ => ?_, fun _ => ?_⟩) | (refine ⟨by omega, ?_⟩) | (intro _)
                                                                all_goals (refine hK _ ?_; clear hK K)
                                                                all_goals
                                                                  refine AW_ret (end_x [] [] (by simp [List.range_succ, lk_cons, lk_nil, upd_app]) (by simp) ?_)
                                                                  simp (disch := omega) [wrap64, List.getElem?_eq_getElem, toNat_pred, e, DtUps.cells]
                                                                  all_goals skip
                                                            · try simp at hc6
                                                              all_goals
                                                                refine AW_skip ?_
                                                                refine AW_id ?_
                                                                refine AW_x rfl rfl fun K hK => ?_
                                                                simp (disch := omega) [wrap64, List.getElem?_eq_getElem, toNat_pred, e, DtUps.cells]
                                                                repeat' first | (exfalso; omega) | (refine ⟨fun _ => ?_, fun _ => ?_⟩) | (refine ⟨by omega, ?_⟩) | (intro _)
                                                                all_goals (refine hK _ ?_; clear hK K)
                                                                all_goals
                                                                  refine AW_seq ?_
                                                                  refine AW_x rfl rfl fun K hK => ?_
                                                                  simp (disch := omega) [wrap64, List.getElem?_eq_getElem, toNat_pred, e, DtUps.cells]
                                                                  repeat' first | (exfalso; omega) | (refine ⟨fun _ => ?_, fun _ => ?_⟩) | (refine ⟨by omega, ?_⟩) | (intro _)
                                                                  all_goals (refine hK _ ?_; clear hK K)
                                                                  all_goals
                                                                    refine AW_cond rfl (fun hc7 => ?_) (fun hc7 => ?_)
                                                                    · try simp at hc7
                                                                      all_goals
                                                                        refine AW_x rfl rfl fun K hK => ?_
                                                                        simp (disch := omega) [wrap64, List.getElem?_eq_getElem, toNat_pred, e, DtUps.cells]
                                                                        repeat' first | (exfalso; omega) | (refine ⟨fun _ => ?_, fun _ => ?_⟩) | (refine ⟨by omega, ?_⟩) | (intro _)
                                                                        all_goals (refine hK _ ?_; clear hK K)
                                                                        all_goals
                                                                          refine AW_ret (end_x [] [] (by simp [List.range_succ, lk_cons, lk_nil, upd_app]) (by simp) ?_)
                                                                          simp (disch := omega) [wrap64, List.getElem?_eq_getElem, toNat_pred, e, DtUps.cells]
                                                                          all_goals skip
                                                                    · try simp at hc7
                                                                      all_goals
                                                                        refine AW_skip ?_
                                                                        refine AW_id ?_
                                                                        refine AW_x rfl rfl fun K hK => ?_
                                                                        simp (disch := omega) [wrap64, List.getElem?_eq_getElem, toNat_pred, e, DtUps.cells]
                                                                        repeat' first | (exfalso; omega) | (refine ⟨fun _ => ?_, fun _ => ?_⟩) | (refine ⟨by omega, ?_⟩) | (intro _)
                                                                        all_goals (refine hK _ ?_; clear hK K)
                                                                        all_goals
                                                                          refine AW_x rfl rfl fun K hK => ?_
                                                                          simp (disch := omega) [wrap64, List.getElem?_eq_getElem, toNat_pred, e, DtUps.cells]
                                                                          repeat' first | (exfalso; omega) | (refine ⟨fun _ => ?_, fun _ => ?_⟩) | (refine ⟨by omega, ?_⟩) | (intro _)
                                                                          all_goals (refine hK _ ?_; clear hK K)
                                                                          all_goals
                                                                            refine AW_seq ?_
                                                                            refine AW_x rfl rfl fun K hK => ?_
                                                                            simp (disch := omega) [wrap64, List.getElem?_eq_getElem, toNat_pred, e, DtUps.cells]
                                                                            repeat' first | (exfalso; omega) | (refine ⟨fun _ => ?_, fun _ => ?_⟩) | (refine ⟨by omega, ?_⟩) | (intro _)
                                                                            all_goals (refine hK _ ?_; clear hK K)
                                                                            all_goals
                                                                              refine AW_cond rfl (fun hc8 => ?_) (fun hc8 => ?_)
                                                                              · try simp at hc8
                                                                                all_goals
                                                                                  refine AW_x rfl rfl fun K hK => ?_
                                                                                  simp (disch := omega) [wrap64, List.getElem?_eq_getElem, toNat_pred, e, DtUps.cells]
                                                                                  repeat' first | (exfalso; omega) | (refine ⟨fun _ => ?_, fun _ => ?_⟩) | (refine ⟨by omega, ?_⟩) | (intro _)
                                                                                  all_goals (refine hK _ ?_; clear hK K)
                                                                                  all_goals
                                                                                    refine AW_ret (end_x [] [] (by simp [List.range_succ, lk_cons, lk_nil, upd_app]) (by simp) ?_)
                                                                                    simp (disch := omega) [wrap64, List.getElem?_eq_getElem, toNat_pred, e, DtUps.cells]
                                                                                    all_goals skip
                                                                              · try simp at hc8
                                                                                all_goals
                                                                                  refine AW_skip ?_
                                                                                  refine AW_id ?_
                                                                                  refine AW_seq ?_
                                                                                  refine AW_x rfl rfl fun K hK => ?_
                                                                                  simp (disch := omega) [wrap64, List.getElem?_eq_getElem, toNat_pred, e, DtUps.cells]
                                                                                  repeat' first | (exfalso; omega) | (refine ⟨fun _ => ?_, fun _ => ?_⟩) | (refine ⟨by omega, ?_⟩) | (intro _)
                                                                                  all_goals (refine hK _ ?_; clear hK K)
                                                                                  all_goals
                                                                                    refine AW_cond rfl (fun hc9 => ?_) (fun hc9 => ?_)
                                                                                    · try simp at hc9
                                                                                      all_goals
                                                                                        refine AW_x rfl rfl fun K hK => ?_
                                                                                        simp (disch := omega) [wrap64, List.getElem?_eq_getElem, toNat_pred, e, DtUps.cells]
                                                                                        repeat' first | (exfalso; omega) | (refine ⟨fun _ => ?_, fun _ => ?_⟩) | (refine ⟨by omega, ?_⟩) | (intro _)
                                                                                        all_goals (refine hK _ ?_; clear hK K)
                                                                                        all_goals
                                                                                          refine AW_ret (end_x [] [] (by simp [List.range_succ, lk_cons, lk_nil, upd_app]) (by simp) ?_)
                                                                                          simp (disch := omega) [wrap64, List.getElem?_eq_getElem, toNat_pred, e, DtUps.cells]
                                                                                          all_goals skip
                                                                                    · try simp at hc9
                                                                                      all_goals
                                                                                        refine AW_skip ?_
                                                                                        refine AW_id ?_
                                                                                        refine AW_x rfl rfl fun K hK => ?_
                                                                                        simp (disch := omega) [wrap64, List.getElem?_eq_getElem, toNat_pred, e, DtUps.cells]
                                                                                        repeat' first | (exfalso; omega) | (refine ⟨fun _ => ?_, fun _ => ?_⟩) | (refine ⟨by omega, ?_⟩) | (intro _)
                                                                                        all_goals (refine hK _ ?_; clear hK K)
                                                                                        all_goals
                                                                                          refine AW_ret (end_x [] [] (by simp [List.range_succ, lk_cons, lk_nil, upd_app]) (by simp) ?_)
                                                                                          simp (disch := omega) [wrap64, List.getElem?_eq_getElem, toNat_pred, e, DtUps.cells]
                                                                                          all_goals skip
  · have e : szR 1048576 (DtUps.sz u) = 1048576 - DtUps.sz u := by unfold szR; rw [if_neg h]
    have e2 : (0 : Int) ≤ 1048576 - DtUps.sz u := by omega
    have hns := nextU_sz u (by omega)
    have hcv := cntUps_sz u
    have hcn := cvUps_nn u
    have hcc : cvUps u + 1 = cntUps u := by unfold cvUps cntUps; omega
    have hcv2 := cntUps_sz (nextU u)
    have hcn2 := cvUps_nn (nextU u)
    have hcc2 : cvUps (nextU u) + 1 = cntUps (nextU u) := by unfold cvUps cntUps; omega
    have hml : (mkS mkUp cntUp 1 (nextU u).fList).length = (nextU u).fList.length := mkS_len _ _ _ _
    refine xcall_of_walk Try.func6 (by rfl) (by rfl) (by rw [Try.ntmps6]; exact Nat.le_of_ble_eq_true rfl) rfl (by simp) rfl rfl ?_
    rw [Try.ntmps6]
    refine AW_x0   ?_
    refine AW_k [(0, _)] ⟨rfl, trivial⟩ ?_
    refine AW_x rfl rfl fun K hK => ?_
    simp (disch := omega) [wrap64, List.getElem?_eq_getElem, toNat_pred, e, e2, eqB_self, DtUps.cells, mvUps, hml]
    repeat' first | (exfalso; omega) | (refine ⟨fun _ => ?_, fun _ => ?_⟩) | (refine ⟨by omega, ?_⟩) | (intro _)
    all_goals (refine hK _ ?_; clear hK K)
    all_goals
      refine AW_x rfl rfl fun K hK => ?_
      simp (disch := omega) [wrap64, List.getElem?_eq_getElem, toNat_pred, e, e2, eqB_self, DtUps.cells, mvUps, hml]
      repeat' first | (exfalso; omega) | (refine ⟨fun _ => ?_, fun _ => ?_⟩) | (refine ⟨by omega, ?_⟩) | (intro _)
      all_goals (refine hK _ ?_; clear hK K)
      all_goals
        refine AW_x rfl rfl fun K hK => ?_
        simp (disch := omega) [wrap64, List.getElem?_eq_getElem, toNat_pred, e, e2, eqB_self, DtUps.cells, mvUps, hml]
        repeat' first | (exfalso; omega) | (refine XKd_v (am2s_cons (am2_agg rfl) (am2s_cons am2_g am2s_nil)) (szUps _ _ (by omega) hw) rfl ?_; simp (disch := omega) [wrap64, List.getElem?_eq_getElem, toNat_pred, e, e2, eqB_self, DtUps.cells, mvUps, hml]) | (refine XKd_p (szUps _ _ (by omega) hw) (by rfl) ?_ ?_; (focus (simp (disch := omega) [wrap64, List.getElem?_eq_getElem, toNat_pred, e, e2, eqB_self, DtUps.cells, mvUps, hml, take_map_n]; done)); simp (disch := omega) [wrap64, List.getElem?_eq_getElem, toNat_pred, e, e2, eqB_self, DtUps.cells, mvUps, hml]) | (refine ⟨fun _ => ?_, fun _ => ?_⟩) | (refine ⟨by omega, ?_⟩) | (intro _)
        all_goals (refine hK _ ?_; clear hK K)
        all_goals
          refine AW_seq ?_
          refine AW_x rfl rfl fun K hK => ?_
          simp (disch := omega) [wrap64, List.getElem?_eq_getElem, toNat_pred, e, e2, eqB_self, DtUps.cells, mvUps, hml]
          repeat' first | (exfalso; omega) | (refine ⟨fun _ => ?_, fun _ => ?_⟩) | (refine ⟨by omega, ?_⟩) | (intro _)
          all_goals (refine hK _ ?_; clear hK K)
          all_goals
            refine AW_cond rfl (fun hc10 => ?_) (fun hc10 => ?_)
            · try simp at hc10
              all_goals
                refine AW_x rfl rfl fun K hK => ?_
                simp (disch := omega) [wrap64, List.getElem?_eq_getElem, toNat_pred, e, e2, eqB_self, DtUps.cells, mvUps, hml]
                repeat' first | (exfalso; omega) | (refine ⟨fun _ => ?_, fun _ => ?_⟩) | (refine ⟨by omega, ?_⟩) | (intro _)
                all_goals (refine hK _ ?_; clear hK K)
                all_goals
                  refine AW_ret (end_x [] [] (by simp [List.range_succ, lk_cons, lk_nil, upd_app]) (by simp) ?_)
                  simp (disch := omega) [wrap64, List.getElem?_eq_getElem, toNat_pred, e, e2, eqB_self, DtUps.cells, mvUps, hml]
                  all_goals skip
            · try simp at hc10
              all_goals
                refine AW_skip ?_
                refine AW_id ?_
                refine AW_x rfl rfl fun K hK => ?_
                simp (disch := omega) [wrap64, List.getElem?_eq_getElem, toNat_pred, e, e2, eqB_self, DtUps.cells, mvUps, hml]
                repeat' first | (exfalso; omega) | (refine XKd_x [] true [] (toUpsX u (by omega)) ?_ ?_ ?_; (focus (simp [List.range_succ, nmC]; done)); (focus (simp (disch := omega) [wrap64, List.getElem?_eq_getElem, toNat_pred, e, e2, eqB_self, DtUps.cells, mvUps, hml, take_map_n]; done)); simp (disch := omega) [wrap64, List.getElem?_eq_getElem, toNat_pred, e, e2, eqB_self, DtUps.cells, mvUps, hml]) | (refine XKd_x [] true [] (specNextX u (by omega)) ?_ ?_ ?_; (focus (simp [List.range_succ, nmC]; done)); (focus (simp (disch := omega) [wrap64, List.getElem?_eq_getElem, toNat_pred, e, e2, eqB_self, DtUps.cells, mvUps, hml, take_map_n]; done)); simp (disch := omega) [wrap64, List.getElem?_eq_getElem, toNat_pred, e, e2, eqB_self, DtUps.cells, mvUps, hml]) | (refine ⟨fun _ => ?_, fun _ => ?_⟩) | (refine ⟨by omega, ?_⟩) | (intro _)
                all_goals (refine hK _ ?_; clear hK K)
                all_goals
                  refine AW_x rfl rfl fun K hK => ?_
                  simp (disch := omega) [wrap64, List.getElem?_eq_getElem, toNat_pred, e, e2, eqB_self, DtUps.cells, mvUps, hml]
                  repeat' first | (exfalso; omega) | (refine XKd_x [] true [] (toUpsX u (by omega)) ?_ ?_ ?_; (focus (simp [List.range_succ, nmC]; done)); (focus (simp (disch := omega) [wrap64, List.getElem?_eq_getElem, toNat_pred, e, e2, eqB_self, DtUps.cells, mvUps, hml, take_map_n]; done)); simp (disch := omega) [wrap64, List.getElem?_eq_getElem, toNat_pred, e, e2, eqB_self, DtUps.cells, mvUps, hml]) | (refine ⟨fun _ => ?_, fun _ => ?_⟩) | (refine ⟨by omega, ?_⟩) | (intro _)
                  all_goals (refine hK _ ?_; clear hK K)
                  all_goals
                    refine AW_x rfl rfl fun K hK => ?_
                    simp (disch := omega) [wrap64, List.getElem?_eq_getElem, toNat_pred, e, e2, eqB_self, DtUps.cells, mvUps, hml]
                    repeat' first | (exfalso; omega) | (refine XKd_x [] true [] (implNextX u (by omega)) ?_ ?_ ?_; (focus (simp [List.range_succ, nmC]; done)); (focus (simp (disch := omega) [wrap64, List.getElem?_eq_getElem, toNat_pred, e, e2, eqB_self, DtUps.cells, mvUps, hml, take_map_n]; done)); simp (disch := omega) [wrap64, List.getElem?_eq_getElem, toNat_pred, e, e2, eqB_self, DtUps.cells, mvUps, hml]) | (refine ⟨fun _ => ?_, fun _ => ?_⟩) | (refine ⟨by omega, ?_⟩) | (intro _)
                    all_goals (refine hK _ ?_; clear hK K)
                    all_goals
                      refine AW_seq ?_
                      refine AW_x rfl rfl fun K hK => ?_
                      simp (disch := omega) [wrap64, List.getElem?_eq_getElem, toNat_pred, e, e2, eqB_self, DtUps.cells, mvUps, hml]
                      repeat' first | (exfalso; omega) | (refine XKd_v (am2s_cons (am2_agg rfl) (am2s_cons (am2_agg rfl) am2s_nil)) (eqUps u u (by omega)) rfl ?_; simp (disch := omega) [wrap64, List.getElem?_eq_getElem, toNat_pred, e, e2, eqB_self, DtUps.cells, mvUps, hml]) | (refine XKd_p (eqUps u u (by omega)) (by rfl) ?_ ?_; (focus (simp (disch := omega) [wrap64, List.getElem?_eq_getElem, toNat_pred, e, e2, eqB_self, DtUps.cells, mvUps, hml, take_map_n]; done)); simp (disch := omega) [wrap64, List.getElem?_eq_getElem, toNat_pred, e, e2, eqB_self, DtUps.cells, mvUps, hml]) | (refine XKd_v (am2s_cons (am2_agg rfl) (am2s_cons (am2_agg rfl) am2s_nil)) (eqUps (nextU u) (nextU u) (by omega)) rfl ?_; simp (disch := omega) [wrap64, List.getElem?_eq_getElem, toNat_pred, e, e2, eqB_self, DtUps.cells, mvUps, hml]) | (refine XKd_p (eqUps (nextU u) (nextU u) (by omega)) (by rfl) ?_ ?_; (focus (simp (disch := omega) [wrap64, List.getElem?_eq_getElem, toNat_pred, e, e2, eqB_self, DtUps.cells, mvUps, hml, take_map_n]; done)); simp (disch := omega) [wrap64, List.getElem?_eq_getElem, toNat_pred, e, e2, eqB_self, DtUps.cells, mvUps, hml]) | (refine ⟨fun _ => ?_, fun _ => ?_⟩) | (refine ⟨by omega, ?_⟩) | (intro _)
                      all_goals (refine hK _ ?_; clear hK K)
                      all_goals
                        refine AW_cond rfl (fun hc11 => ?_) (fun hc11 => ?_)
                        · try simp at hc11
                          all_goals
                            refine AW_x rfl rfl fun K hK => ?_
                            simp (disch := omega) [wrap64, List.getElem?_eq_getElem, toNat_pred, e, e2, eqB_self, DtUps.cells, mvUps, hml]
                            repeat' first | (exfalso; omega) | (refine ⟨fun _ => ?_, fun _ => ?_⟩) | (refine ⟨by omega, ?_⟩) | (intro _)
                            all_goals (refine hK _ ?_; clear hK K)
                            all_goals
                              refine AW_ret (end_x [] [] (by simp [List.range_succ, lk_cons, lk_nil, upd_app]) (by simp) ?_)
                              simp (disch := omega) [wrap64, List.getElem?_eq_getElem, toNat_pred, e, e2, eqB_self, DtUps.cells, mvUps, hml]
                              all_goals skip
                        · try simp at hc11
                          all_goals
                            refine AW_skip ?_
                            refine AW_id ?_
                            refine AW_seq ?_
                            refine AW_d rfl mix (by kernel_rfl) (by kernel_rfl) fun K hK => ?_
                            simp (disch := omega) [wrap64, List.getElem?_eq_getElem, toNat_pred, e, e2, eqB_self, DtUps.cells, mvUps, hml]
                            repeat' first | (exfalso; omega) | (refine DKd_y [] true [] (toUpsX u (by omega)) ?_ (fun st' hst => ?_) ?_; (focus (simp [List.range_succ, nmC]; done)); (focus (simp (disch := omega) [wrap64, List.getElem?_eq_getElem, toNat_pred, e, e2, eqB_self, DtUps.cells, mvUps, hml, nmC, List.range_succ] at hst; simp (disch := omega) [wrap64, List.getElem?_eq_getElem, toNat_pred, e, e2, eqB_self, DtUps.cells, mvUps, hml, hst, take_map_n, nmC, List.range_succ]; done)); simp (disch := omega) [wrap64, List.getElem?_eq_getElem, toNat_pred, e, e2, eqB_self, DtUps.cells, mvUps, hml]) | (refine DKd_v (fun st' => (am2s_cons (am2_agg rfl) (am2s_cons (am2_agg rfl) am2s_nil))) (eqUps u u (by omega)) rfl ?_; simp (disch := omega) [wrap64, List.getElem?_eq_getElem, toNat_pred, e, e2, eqB_self, DtUps.cells, mvUps, hml]) | (refine DKd_p (eqUps u u (by omega)) (by rfl) (fun st' hst => ?_) ?_; (focus (simp (disch := omega) [wrap64, List.getElem?_eq_getElem, toNat_pred, e, e2, eqB_self, DtUps.cells, mvUps, hml] at hst; simp (disch := omega) [wrap64, List.getElem?_eq_getElem, toNat_pred, e, e2, eqB_self, DtUps.cells, mvUps, hml, hst, take_map_n]; done)); simp (disch := omega) [wrap64, List.getElem?_eq_getElem, toNat_pred, e, e2, eqB_self, DtUps.cells, mvUps, hml]) | (refine DKd_v (fun st' => (am2s_cons (am2_agg rfl) (am2s_cons (am2_agg rfl) am2s_nil))) (eqUps (nextU u) (nextU u) (by omega)) rfl ?_; simp (disch := omega) [wrap64, List.getElem?_eq_getElem, toNat_pred, e, e2, eqB_self, DtUps.cells, mvUps, hml]) | (refine DKd_p (eqUps (nextU u) (nextU u) (by omega)) (by rfl) (fun st' hst => ?_) ?_; (focus (simp (disch := omega) [wrap64, List.getElem?_eq_getElem, toNat_pred, e, e2, eqB_self, DtUps.cells, mvUps, hml] at hst; simp (disch := omega) [wrap64, List.getElem?_eq_getElem, toNat_pred, e, e2, eqB_self, DtUps.cells, mvUps, hml, hst, take_map_n]; done)); simp (disch := omega) [wrap64, List.getElem?_eq_getElem, toNat_pred, e, e2, eqB_self, DtUps.cells, mvUps, hml]) | (refine ⟨fun _ => ?_, fun _ => ?_⟩) | (refine ⟨by omega, ?_⟩) | (intro _)
                            all_goals (refine hK _ _ (by kernel_rfl) ?_; clear hK K)
                            all_goals
                              refine AW_cond rfl (fun hc12 => ?_) (fun hc12 => ?_)
                              · try simp at hc12
                                all_goals
                                  refine AW_x rfl rfl fun K hK => ?_
                                  simp (disch := omega) [wrap64, List.getElem?_eq_getElem, toNat_pred, e, e2, eqB_self, DtUps.cells, mvUps, hml]
                                  repeat' first | (exfalso; omega) | (refine ⟨fun _ => ?_, fun _ => ?_⟩) | (refine ⟨by omega, ?_⟩) | (intro _)
                                  all_goals (refine hK _ ?_; clear hK K)
                                  all_goals
                                    refine AW_ret (end_x [] [] (by simp [List.range_succ, lk_cons, lk_nil, upd_app]) (by simp) ?_)
                                    simp (disch := omega) [wrap64, List.getElem?_eq_getElem, toNat_pred, e, e2, eqB_self, DtUps.cells, mvUps, hml]
                                    all_goals skip
                              · try simp at hc12
                                all_goals
                                  refine AW_skip ?_
                                  refine AW_id ?_
                                  refine AW_x rfl rfl fun K hK => ?_
                                  simp (disch := omega) [wrap64, List.getElem?_eq_getElem, toNat_pred, e, e2, eqB_self, DtUps.cells, mvUps, hml]
                                  repeat' first | (exfalso; omega) | (refine ⟨fun _ => ?_, fun _ => ?_⟩) | (refine ⟨by omega, ?_⟩) | (intro _)
                                  all_goals (refine hK _ ?_; clear hK K)
                                  all_goals
                                    refine AW_x rfl rfl fun K hK => ?_
                                    simp (disch := omega) [wrap64, List.getElem?_eq_getElem, toNat_pred, e, e2, eqB_self, DtUps.cells, mvUps, hml]
                                    repeat' first | (exfalso; omega) | (refine XKd_x [432] true [] (markUps u 1 (by omega) (by omega)) ?_ ?_ ?_; (focus (simp [List.range_succ, nmC]; done)); (focus (simp (disch := omega) [wrap64, List.getElem?_eq_getElem, toNat_pred, e, e2, eqB_self, DtUps.cells, mvUps, hml, take_map_n]; done)); simp (disch := omega) [wrap64, List.getElem?_eq_getElem, toNat_pred, e, e2, eqB_self, DtUps.cells, mvUps, hml]) | (refine XKd_x [480] true [] (markUps (nextU u) 1 (by omega) (by omega)) ?_ ?_ ?_; (focus (simp [List.range_succ, nmC]; done)); (focus (simp (disch := omega) [wrap64, List.getElem?_eq_getElem, toNat_pred, e, e2, eqB_self, DtUps.cells, mvUps, hml, take_map_n]; done)); simp (disch := omega) [wrap64, List.getElem?_eq_getElem, toNat_pred, e, e2, eqB_self, DtUps.cells, mvUps, hml]) | (refine ⟨fun _ => ?_, fun _ => ?_⟩) | (refine ⟨by omega, ?_⟩) | (intro _)
                                    all_goals (refine hK _ ?_; clear hK K)
                                    all_goals
                                      refine AW_seq ?_
                                      refine AW_x rfl rfl fun K hK => ?_
                                      simp (disch := omega) [wrap64, List.getElem?_eq_getElem, toNat_pred, e, e2, eqB_self, DtUps.cells, mvUps, hml]
                                      repeat' first | (exfalso; omega) | (refine XKd_v (am2s_cons (am2_agg rfl) (am2s_cons (am2_agg rfl) am2s_nil)) (eqUps u u (by omega)) rfl ?_; simp (disch := omega) [wrap64, List.getElem?_eq_getElem, toNat_pred, e, e2, eqB_self, DtUps.cells, mvUps, hml]) | (refine XKd_p (eqUps u u (by omega)) (by rfl) ?_ ?_; (focus (simp (disch := omega) [wrap64, List.getElem?_eq_getElem, toNat_pred, e, e2, eqB_self, DtUps.cells, mvUps, hml, take_map_n]; done)); simp (disch := omega) [wrap64, List.getElem?_eq_getElem, toNat_pred, e, e2, eqB_self, DtUps.cells, mvUps, hml]) | (refine XKd_v (am2s_cons (am2_agg rfl) (am2s_cons (am2_agg rfl) am2s_nil)) (eqUps (nextU u) (nextU u) (by omega)) rfl ?_; simp (disch := omega) [wrap64, List.getElem?_eq_getElem, toNat_pred, e, e2, eqB_self, DtUps.cells, mvUps, hml]) | (refine XKd_p (eqUps (nextU u) (nextU u) (by omega)) (by rfl) ?_ ?_; (focus (simp (disch := omega) [wrap64, List.getElem?_eq_getElem, toNat_pred, e, e2, eqB_self, DtUps.cells, mvUps, hml, take_map_n]; done)); simp (disch := omega) [wrap64, List.getElem?_eq_getElem, toNat_pred, e, e2, eqB_self, DtUps.cells, mvUps, hml]) | (refine ⟨fun _ => ?_, fun _ => ?_⟩) | (refine ⟨by omega, ?_⟩) | (intro _)
                                      all_goals (refine hK _ ?_; clear hK K)
                                      all_goals
                                        refine AW_cond rfl (fun hc13 => ?_) (fun hc13 => ?_)
                                        · try simp at hc13
                                          all_goals
                                            refine AW_x rfl rfl fun K hK => ?_
                                            simp (disch := omega) [wrap64, List.getElem?_eq_getElem, toNat_pred, e, e2, eqB_self, DtUps.cells, mvUps, hml]
                                            repeat' first | (exfalso; omega) | (refine ⟨fun _ => ?_, fun _ => ?_⟩) | (refine ⟨by omega, ?_⟩) | (intro _)
                                            all_goals (refine hK _ ?_; clear hK K)
                                            all_goals
                                              refine AW_ret (end_x [] [] (by simp [List.range_succ, lk_cons, lk_nil, upd_app]) (by simp) ?_)
                                              simp (disch := omega) [wrap64, List.getElem?_eq_getElem, toNat_pred, e, e2, eqB_self, DtUps.cells, mvUps, hml]
                                              all_goals skip
                                        · try simp at hc13
                                          all_goals
                                            refine AW_skip ?_
                                            refine AW_id ?_
                                            refine AW_x rfl rfl fun K hK => ?_
                                            simp (disch := omega) [wrap64, List.getElem?_eq_getElem, toNat_pred, e, e2, eqB_self, DtUps.cells, mvUps, hml]
                                            repeat' first | (exfalso; omega) | (refine ⟨fun _ => ?_, fun _ => ?_⟩) | (refine ⟨by omega, ?_⟩) | (intro _)
                                            all_goals (refine hK _ ?_; clear hK K)
                                            all_goals
                                              refine AW_x rfl rfl fun K hK => ?_
                                              simp (disch := omega) [wrap64, List.getElem?_eq_getElem, toNat_pred, e, e2, eqB_self, DtUps.cells, mvUps, hml]
                                              repeat' first | (exfalso; omega) | (refine XKd_x [432] true [] (markUps u 1 (by omega) (by omega)) ?_ ?_ ?_; (focus (simp [List.range_succ, nmC]; done)); (focus (simp (disch := omega) [wrap64, List.getElem?_eq_getElem, toNat_pred, e, e2, eqB_self, DtUps.cells, mvUps, hml, take_map_n]; done)); simp (disch := omega) [wrap64, List.getElem?_eq_getElem, toNat_pred, e, e2, eqB_self, DtUps.cells, mvUps, hml]) | (refine XKd_x [480] true [] (markUps (nextU u) 1 (by omega) (by omega)) ?_ ?_ ?_; (focus (simp [List.range_succ, nmC]; done)); (focus (simp (disch := omega) [wrap64, List.getElem?_eq_getElem, toNat_pred, e, e2, eqB_self, DtUps.cells, mvUps, hml, take_map_n]; done)); simp (disch := omega) [wrap64, List.getElem?_eq_getElem, toNat_pred, e, e2, eqB_self, DtUps.cells, mvUps, hml]) | (refine ⟨fun _ => ?_, fun _ => ?_⟩) | (refine ⟨by omega, ?_⟩) | (intro _)
                                              all_goals (refine hK _ ?_; clear hK K)
                                              all_goals
                                                refine AW_x rfl rfl fun K hK => ?_
                                                simp (disch := omega) [wrap64, List.getElem?_eq_getElem, toNat_pred, e, e2, eqB_self, DtUps.cells, mvUps, hml]
                                                repeat' first | (exfalso; omega) | (refine ⟨fun _ => ?_, fun _ => ?_⟩) | (refine ⟨by omega, ?_⟩) | (intro _)
                                                all_goals (refine hK _ ?_; clear hK K)
                                                all_goals
                                                  refine AW_x rfl rfl fun K hK => ?_
                                                  simp (disch := omega) [wrap64, List.getElem?_eq_getElem, toNat_pred, e, e2, eqB_self, DtUps.cells, mvUps, hml]
                                                  repeat' first | (exfalso; omega) | (refine XKd_v (am2s_cons (am2_agg rfl) (am2s_cons am2_g am2s_nil)) (heldUps (nextU u) 1 (by omega) (by omega)) rfl ?_; simp (disch := omega) [wrap64, List.getElem?_eq_getElem, toNat_pred, e, e2, eqB_self, DtUps.cells, mvUps, hml]) | (refine XKd_p (heldUps (nextU u) 1 (by omega) (by omega)) (by rfl) ?_ ?_; (focus (simp (disch := omega) [wrap64, List.getElem?_eq_getElem, toNat_pred, e, e2, eqB_self, DtUps.cells, mvUps, hml, take_map_n]; done)); simp (disch := omega) [wrap64, List.getElem?_eq_getElem, toNat_pred, e, e2, eqB_self, DtUps.cells, mvUps, hml]) | (refine ⟨fun _ => ?_, fun _ => ?_⟩) | (refine ⟨by omega, ?_⟩) | (intro _)
                                                  all_goals (refine hK _ ?_; clear hK K)
                                                  all_goals
                                                    refine AW_seq ?_
                                                    refine AW_x rfl rfl fun K hK => ?_
                                                    simp (disch := omega) [wrap64, List.getElem?_eq_getElem, toNat_pred, e, e2, eqB_self, DtUps.cells, mvUps, hml]
                                                    repeat' first | (exfalso; omega) | (refine ⟨fun _ => ?_, fun _ => ?_⟩) | (refine ⟨by omega, ?_⟩) | (intro _)
                                                    all_goals (refine hK _ ?_; clear hK K)
                                                    all_goals
                                                      refine AW_cond rfl (fun hc14 => ?_) (fun hc14 => ?_)
                                                      · try simp at hc14
                                                        all_goals
                                                          refine AW_x rfl rfl fun K hK => ?_
                                                          simp (disch := omega) [wrap64, List.getElem?_eq_getElem, toNat_pred, e, e2, eqB_self, DtUps.cells, mvUps, hml]
                                                          repeat' first | (exfalso; omega) | (refine ⟨fun _ => ?_, fun _ => ?_⟩) | (refine ⟨by omega, ?_⟩) | (intro _)
                                                          all_goals (refine hK _ ?_; clear hK K)
                                                          all_goals
                                                            refine AW_ret (end_x [] [] (by simp [List.range_succ, lk_cons, lk_nil, upd_app]) (by simp) ?_)
                                                            simp (disch := omega) [wrap64, List.getElem?_eq_getElem, toNat_pred, e, e2, eqB_self, DtUps.cells, mvUps, hml]
                                                            all_goals skip
                                                      · try simp at hc14
                                                        all_goals
                                                          refine AW_skip ?_
                                                          refine AW_id ?_
                                                          refine AW_seq ?_
                                                          refine AW_x rfl rfl fun K hK => ?_
                                                          simp (disch := omega) [wrap64, List.getElem?_eq_getElem, toNat_pred, e, e2, eqB_self, DtUps.cells, mvUps, hml]
                                                          repeat' first | (exfalso; omega) | (refine ⟨fun _ => ?_, fun _ => ?_⟩) | (refine ⟨by omega, ?_⟩) | (intro _)
                                                          all_goals (refine hK _ ?_; clear hK K)
                                                          all_goals
                                                            refine AW_cond rfl (fun hc15 => ?_) (fun hc15 => ?_)
                                                            · try simp at hc15
                                                              all_goals
                                                                refine AW_x rfl rfl fun K hK => ?_
                                                                simp (disch := omega) [wrap64, List.getElem?_eq_getElem, toNat_pred, e, e2, eqB_self, DtUps.cells, mvUps, hml]
                                                                repeat' first | (exfalso; omega) | (refine ⟨fun _ => ?_, fun _ => ?_⟩) | (refine ⟨by omega, ?_⟩) | (intro _)
                                                                all_goals (refine hK _ ?_; clear hK K)
                                                                all_goals
                                                                  refine AW_ret (end_x [] [] (by simp [List.range_succ, lk_cons, lk_nil, upd_app]) (by simp) ?_)
                                                                  simp (disch := omega) [wrap64, List.getElem?_eq_getElem, toNat_pred, e, e2, eqB_self, DtUps.cells, mvUps, hml]
                                                                  all_goals skip
                                                            · try simp at hc15
                                                              all_goals
                                                                refine AW_skip ?_
                                                                refine AW_id ?_
                                                                refine AW_x rfl rfl fun K hK => ?_
                                                                simp (disch := omega) [wrap64, List.getElem?_eq_getElem, toNat_pred, e, e2, eqB_self, DtUps.cells, mvUps, hml]
                                                                repeat' first | (exfalso; omega) | (refine XKd_x [] true [] (toUpsX u (by omega)) ?_ ?_ ?_; (focus (simp [List.range_succ, nmC]; done)); (focus (simp (disch := omega) [wrap64, List.getElem?_eq_getElem, toNat_pred, e, e2, eqB_self, DtUps.cells, mvUps, hml, take_map_n]; done)); simp (disch := omega) [wrap64, List.getElem?_eq_getElem, toNat_pred, e, e2, eqB_self, DtUps.cells, mvUps, hml]) | (refine XKd_x [] true [] (implNextX u (by omega)) ?_ ?_ ?_; (focus (simp [List.range_succ, nmC]; done)); (focus (simp (disch := omega) [wrap64, List.getElem?_eq_getElem, toNat_pred, e, e2, eqB_self, DtUps.cells, mvUps, hml, take_map_n]; done)); simp (disch := omega) [wrap64, List.getElem?_eq_getElem, toNat_pred, e, e2, eqB_self, DtUps.cells, mvUps, hml]) | (refine ⟨fun _ => ?_, fun _ => ?_⟩) | (refine ⟨by omega, ?_⟩) | (intro _)
                                                                all_goals (refine hK _ ?_; clear hK K)
                                                                all_goals
                                                                  refine AW_seq ?_
                                                                  refine AW_x rfl rfl fun K hK => ?_
                                                                  simp (disch := omega) [wrap64, List.getElem?_eq_getElem, toNat_pred, e, e2, eqB_self, DtUps.cells, mvUps, hml]
                                                                  repeat' first | (exfalso; omega) | (refine XKd_v (am2s_cons (am2_agg rfl) (am2s_cons (am2_agg rfl) am2s_nil)) (eqUps u u (by omega)) rfl ?_; simp (disch := omega) [wrap64, List.getElem?_eq_getElem, toNat_pred, e, e2, eqB_self, DtUps.cells, mvUps, hml]) | (refine XKd_p (eqUps u u (by omega)) (by rfl) ?_ ?_; (focus (simp (disch := omega) [wrap64, List.getElem?_eq_getElem, toNat_pred, e, e2, eqB_self, DtUps.cells, mvUps, hml, take_map_n]; done)); simp (disch := omega) [wrap64, List.getElem?_eq_getElem, toNat_pred, e, e2, eqB_self, DtUps.cells, mvUps, hml]) | (refine XKd_v (am2s_cons (am2_agg rfl) (am2s_cons (am2_agg rfl) am2s_nil)) (eqUps (nextU u) (nextU u) (by omega)) rfl ?_; simp (disch := omega) [wrap64, List.getElem?_eq_getElem, toNat_pred, e, e2, eqB_self, DtUps.cells, mvUps, hml]) | (refine XKd_p (eqUps (nextU u) (nextU u) (by omega)) (by rfl) ?_ ?_; (focus (simp (disch := omega) [wrap64, List.getElem?_eq_getElem, toNat_pred, e, e2, eqB_self, DtUps.cells, mvUps, hml, take_map_n]; done)); simp (disch := omega) [wrap64, List.getElem?_eq_getElem, toNat_pred, e, e2, eqB_self, DtUps.cells, mvUps, hml]) | (refine ⟨fun _ => ?_, fun _ => ?_⟩) | (refine ⟨by omega, ?_⟩) | (intro _)
                                                                  all_goals (refine hK _ ?_; clear hK K)
                                                                  all_goals
                                                                    refine AW_cond rfl (fun hc16 => ?_) (fun hc16 => ?_)
                                                                    · try simp at hc16
                                                                      all_goals
                                                                        refine AW_x rfl rfl fun K hK => ?_
                                                                        simp (disch := omega) [wrap64, List.getElem?_eq_getElem, toNat_pred, e, e2, eqB_self, DtUps.cells, mvUps, hml]
                                                                        repeat' first | (exfalso; omega) | (refine ⟨fun _ => ?_, fun _ => ?_⟩) | (refine ⟨by omega, ?_⟩) | (intro _)
                                                                        all_goals (refine hK _ ?_; clear hK K)
                                                                        all_goals
                                                                          refine AW_ret (end_x [] [] (by simp [List.range_succ, lk_cons, lk_nil, upd_app]) (by simp) ?_)
                                                                          simp (disch := omega) [wrap64, List.getElem?_eq_getElem, toNat_pred, e, e2, eqB_self, DtUps.cells, mvUps, hml]
                                                                          all_goals skip
                                                                    · try simp at hc16
                                                                      all_goals
                                                                        refine AW_skip ?_
                                                                        refine AW_id ?_
                                                                        refine AW_x rfl rfl fun K hK => ?_
                                                                        simp (disch := omega) [wrap64, List.getElem?_eq_getElem, toNat_pred, e, e2, eqB_self, DtUps.cells, mvUps, hml]
                                                                        repeat' first | (exfalso; omega) | (refine ⟨fun _ => ?_, fun _ => ?_⟩) | (refine ⟨by omega, ?_⟩) | (intro _)
                                                                        all_goals (refine hK _ ?_; clear hK K)
                                                                        all_goals
                                                                          refine AW_x rfl rfl fun K hK => ?_
                                                                          simp (disch := omega) [wrap64, List.getElem?_eq_getElem, toNat_pred, e, e2, eqB_self, DtUps.cells, mvUps, hml]
                                                                          repeat' first | (exfalso; omega) | (refine XKd_v (am2s_cons (am2_agg rfl) (am2s_cons am2_g am2s_nil)) (heldUps (nextU u) 1 (by omega) (by omega)) rfl ?_; simp (disch := omega) [wrap64, List.getElem?_eq_getElem, toNat_pred, e, e2, eqB_self, DtUps.cells, mvUps, hml]) | (refine XKd_p (heldUps (nextU u) 1 (by omega) (by omega)) (by rfl) ?_ ?_; (focus (simp (disch := omega) [wrap64, List.getElem?_eq_getElem, toNat_pred, e, e2, eqB_self, DtUps.cells, mvUps, hml, take_map_n]; done)); simp (disch := omega) [wrap64, List.getElem?_eq_getElem, toNat_pred, e, e2, eqB_self, DtUps.cells, mvUps, hml]) | (refine ⟨fun _ => ?_, fun _ => ?_⟩) | (refine ⟨by omega, ?_⟩) | (intro _)
                                                                          all_goals (refine hK _ ?_; clear hK K)
                                                                          all_goals
                                                                            refine AW_seq ?_
                                                                            refine AW_x rfl rfl fun K hK => ?_
                                                                            simp (disch := omega) [wrap64, List.getElem?_eq_getElem, toNat_pred, e, e2, eqB_self, DtUps.cells, mvUps, hml]
                                                                            repeat' first | (exfalso; omega) | (refine ⟨fun _ => ?_, fun _ => ?_⟩) | (refine ⟨by omega, ?_⟩) | (intro _)
                                                                            all_goals (refine hK _ ?_; clear hK K)
                                                                            all_goals
                                                                              refine AW_cond rfl (fun hc17 => ?_) (fun hc17 => ?_)
                                                                              · try simp at hc17
                                                                                all_goals
                                                                                  refine AW_x rfl rfl fun K hK => ?_
                                                                                  simp (disch := omega) [wrap64, List.getElem?_eq_getElem, toNat_pred, e, e2, eqB_self, DtUps.cells, mvUps, hml]
                                                                                  repeat' first | (exfalso; omega) | (refine ⟨fun _ => ?_, fun _ => ?_⟩) | (refine ⟨by omega, ?_⟩) | (intro _)
                                                                                  all_goals (refine hK _ ?_; clear hK K)
                                                                                  all_goals
                                                                                    refine AW_ret (end_x [] [] (by simp [List.range_succ, lk_cons, lk_nil, upd_app]) (by simp) ?_)
                                                                                    simp (disch := omega) [wrap64, List.getElem?_eq_getElem, toNat_pred, e, e2, eqB_self, DtUps.cells, mvUps, hml]
                                                                                    all_goals skip
                                                                              · try simp at hc17
                                                                                all_goals
                                                                                  refine AW_skip ?_
                                                                                  refine AW_id ?_
                                                                                  refine AW_seq ?_
                                                                                  refine AW_x rfl rfl fun K hK => ?_
                                                                                  simp (disch := omega) [wrap64, List.getElem?_eq_getElem, toNat_pred, e, e2, eqB_self, DtUps.cells, mvUps, hml]
                                                                                  repeat' first | (exfalso; omega) | (refine ⟨fun _ => ?_, fun _ => ?_⟩) | (refine ⟨by omega, ?_⟩) | (intro _)
                                                                                  all_goals (refine hK _ ?_; clear hK K)
                                                                                  all_goals
                                                                                    refine AW_cond rfl (fun hc18 => ?_) (fun hc18 => ?_)
                                                                                    · try simp at hc18
                                                                                      all_goals
                                                                                        refine AW_x rfl rfl fun K hK => ?_
                                                                                        simp (disch := omega) [wrap64, List.getElem?_eq_getElem, toNat_pred, e, e2, eqB_self, DtUps.cells, mvUps, hml]
                                                                                        repeat' first | (exfalso; omega) | (refine ⟨fun _ => ?_, fun _ => ?_⟩) | (refine ⟨by omega, ?_⟩) | (intro _)
                                                                                        all_goals (refine hK _ ?_; clear hK K)
                                                                                        all_goals
                                                                                          refine AW_ret (end_x [] [] (by simp [List.range_succ, lk_cons, lk_nil, upd_app]) (by simp) ?_)
                                                                                          simp (disch := omega) [wrap64, List.getElem?_eq_getElem, toNat_pred, e, e2, eqB_self, DtUps.cells, mvUps, hml]
                                                                                          all_goals skip
                                                                                    · try simp at hc18
                                                                                      all_goals
                                                                                        refine AW_skip ?_
                                                                                        refine AW_id ?_
                                                                                        refine AW_x rfl rfl fun K hK => ?_
                                                                                        simp (disch := omega) [wrap64, List.getElem?_eq_getElem, toNat_pred, e, e2, eqB_self, DtUps.cells, mvUps, hml]
                                                                                        repeat' first | (exfalso; omega) | (refine ⟨fun _ => ?_, fun _ => ?_⟩) | (refine ⟨by omega, ?_⟩) | (intro _)
                                                                                        all_goals (refine hK _ ?_; clear hK K)
                                                                                        all_goals
                                                                                          refine AW_ret (end_x [] [] (by simp [List.range_succ, lk_cons, lk_nil, upd_app]) (by simp) ?_)
                                                                                          simp (disch := omega) [wrap64, List.getElem?_eq_getElem, toNat_pred, e, e2, eqB_self, DtUps.cells, mvUps, hml]
                                                                                          all_goals skip
theorem lawUpNext (u : DtUps) (hw : DtUps.wf u) : PCall Try.prog 6 [.agg (DtUps.cells u)] (.g (.bool (true))) := pcall_scal (lawNextX u hw)
end Go.Proofs.Ytpaccfeiaekacaa.Vs
