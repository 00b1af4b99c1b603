import Derived.Test.YtmcekkllkfccjaaSQ1
open Go Go.Proofs Go.Proofs.Ytmcekkllkfccjaa.Vs
namespace Go.Proofs.Ytmcekkllkfccjaa.Vs
set_option linter.unusedVariables false
set_option linter.unusedSimpArgs false
set_option linter.unusedSectionVars false
set_option linter.unnecessarySimpa false
set_option linter.all false
set_option linter.unusedSimpArgs false
set_option linter.unusedVariables false
set_option maxRecDepth 100000
/-- What is drawn: some times, not many, and some rule. -/
def TimesP (l : List Int) (r : AV) (wos' fos : List OB) : Prop := ∃ (c : Cur) (xs : List Int) (ru : DtRule), xs.length ≤ 100 ∧ r = .tup [.arr 16 0 xs.length, .agg (DtRule.cells ru)] ∧ wos' = [.cells (curC l c)] ∧ fos = [.own 1 (xs.map cI)]
theorem l22Times (l : List Int) (hl : Code l) (c0 : Cur) : XCallE Try.prog 31 [.ptr 8 0] [.cells (curC l c0)] 1 (TimesP l) := by
  refine xcallE_of_walk Try.func31 (by rfl) (by rfl) (by rw [Try.ntmps31]; exact Nat.le_of_ble_eq_true rfl) (by simp) rfl ?_
  rw [Try.ntmps31]
  refine AW_x1 (.cells (curC l c0)) (by simp [cvO]) ?_
  refine AW_k [(0, _)] ⟨rfl, trivial⟩ ?_
  refine AW_x rfl rfl fun K hK => ?_
  simp (disch := omega) [wrap64, List.getElem?_eq_getElem, toNat_pred, cU, cI, DtRule.cells, take_map_n]
  repeat' first | (exfalso; omega) | (refine ⟨fun _ => ?_, fun _ => ?_⟩) | (refine ⟨by omega, ?_⟩) | (intro _)
  all_goals (refine hK _ ?_; clear hK K)
  all_goals
    refine AW_x rfl rfl fun K hK => ?_
    simp (disch := omega) [wrap64, List.getElem?_eq_getElem, toNat_pred, cU, cI, DtRule.cells, take_map_n]
    repeat' first | (exfalso; omega) | (refine ⟨fun _ => ?_, fun _ => ?_⟩) | (refine ⟨by omega, ?_⟩) | (intro _)
    all_goals (refine hK _ ?_; clear hK K)
    all_goals
      refine AW_x rfl rfl fun K hK => ?_
      simp (disch := omega) [wrap64, List.getElem?_eq_getElem, toNat_pred, cU, cI, DtRule.cells, take_map_n]
      repeat' first | (exfalso; omega) | (refine ⟨fun _ => ?_, fun _ => ?_⟩) | (refine ⟨by omega, ?_⟩) | (intro _)
      all_goals (refine hK _ ?_; clear hK K)
      all_goals
        refine AW_seq ?_
        refine AW_x rfl rfl fun K hK => ?_
        simp (disch := omega) [wrap64, List.getElem?_eq_getElem, toNat_pred, cU, cI, DtRule.cells, take_map_n]
        repeat' first | (exfalso; omega) | (refine XKd_cur (fun _ => xs_p (xs_g xs_z)) (l1Below l hl _ _) rfl rfl ?_; simp (disch := omega) [wrap64, List.getElem?_eq_getElem, toNat_pred, cU, cI, DtRule.cells, take_map_n]) | (refine ⟨fun _ => ?_, fun _ => ?_⟩) | (refine ⟨by omega, ?_⟩) | (intro _)
        all_goals (refine hK _ ?_; clear hK K)
        all_goals
          refine AW_block ?_
          refine AW_loopS (fun mM sS => ∃ (n t : Int) (xs : List Int) (c : Cur), mM = n.toNat ∧ (0 ≤ n ∧ n + xs.length ≤ 20 ∧ 0 ≤ t ∧ t ≤ 30 * xs.length) ∧ sS = { env := lkE [(0, .ptr 8 0), (3, .ptr 64 0), (4, .arr 160 0 xs.length), (5, (.g (.int .i64 (t)))), (6, (.g (.int .i64 (n))))], ob := lk [(8, .cells (curC l c)), (64, .cells [(.g (.int .i64 (0))), (.g (.int .i64 (0))), (.g (.int .i64 (0)))]), (160, .flat 1 (xs.map cI))] }) ?_ ?_
          · refine ⟨_, LeS.kx [(8, 8), (64, 64), (160, 160)] [(0, .ptr 8 0), (3, .ptr 64 0), (4, .arr 160 0 ([]).length), (5, (.g (.int .i64 ((0))))), (6, (.g (.int .i64 ((below l 14 c0)))))] [(8, .cells (curC l (belowS l 14 c0))), (64, .cells [(.g (.int .i64 (0))), (.g (.int .i64 (0))), (.g (.int .i64 (0)))]), (160, .flat 1 (([]).map cI))] (by simp [KpR, renV2, renV, upd_app, lkE_app, lk_cons, lk_nil, cI]; try (first | rfl | omega)) (by simp [KpOX, renO, plO, cvO, renV, pl1, lk_cons, lk_nil, upd_app, cI]; try (first | rfl | (simp [cI, List.take_of_length_le]; done))) (by rfl) (by simp) (by simp) (by rfl) (by simp [formsX, List.range_succ, lk_cons, lk_nil]), _, below l 14 c0, 0, [], belowS l 14 c0, rfl, ?_, rfl⟩
            · have := below_bd l 14 c0; simp; omega
          · rintro mM sS ⟨n, t, xs, c, rfl, ⟨h1, h2, h3, h4⟩, rfl⟩
            have hb := below_bd l 20 c
            refine AW_seq ?_
            refine AW_x rfl rfl fun K hK => ?_
            simp (disch := omega) [wrap64, List.getElem?_eq_getElem, toNat_pred, cU, cI, DtRule.cells, take_map_n]
            repeat' first | (exfalso; omega) | (refine ⟨fun _ => ?_, fun _ => ?_⟩) | (refine ⟨by omega, ?_⟩) | (intro _)
            all_goals (refine hK _ ?_; clear hK K)
            all_goals
              refine AW_cond rfl (fun hc1 => ?_) (fun hc1 => ?_)
              · try simp at hc1
                all_goals
                  refine AW_skip ?_
                  refine AW_id ?_
                  refine AW_seq ?_
                  refine AW_block ?_
                  refine AW_x rfl rfl fun K hK => ?_
                  simp (disch := omega) [wrap64, List.getElem?_eq_getElem, toNat_pred, cU, cI, DtRule.cells, take_map_n]
                  repeat' first | (exfalso; omega) | (refine XKd_cur (fun _ => xs_p (xs_g xs_z)) (l1Below l hl _ _) rfl rfl ?_; simp (disch := omega) [wrap64, List.getElem?_eq_getElem, toNat_pred, cU, cI, DtRule.cells, take_map_n]) | (refine ⟨fun _ => ?_, fun _ => ?_⟩) | (refine ⟨by omega, ?_⟩) | (intro _)
                  all_goals (refine hK _ ?_; clear hK K)
                  all_goals
                    refine AW_xe rfl rfl fun K hK => ?_
                    simp (disch := omega) [wrap64, List.getElem?_eq_getElem, toNat_pred, cU, cI, DtRule.cells, take_map_n]
                    repeat' first | (exfalso; omega) | (refine ⟨fun _ => ?_, fun _ => ?_⟩) | (refine ⟨by omega, ?_⟩) | (intro _)
                    all_goals (refine hK _ ?_; clear hK K)
                    all_goals
                      refine AW_id ?_
                      refine AW_xe rfl rfl fun K hK => ?_
                      simp (disch := omega) [wrap64, List.getElem?_eq_getElem, toNat_pred, cU, cI, DtRule.cells, take_map_n]
                      repeat' first | (exfalso; omega) | (refine ⟨fun _ => ?_, fun _ => ?_⟩) | (refine ⟨by omega, ?_⟩) | (intro _)
                      all_goals (refine hK _ ?_; clear hK K)
                      all_goals
                        refine ⟨_, LeS.kx [(8, 8), (64, 64), (160, 400)] [(0, .ptr 8 0), (3, .ptr 64 0), (4, .arr 160 0 (xs ++ [t + 1 + below l 20 c]).length), (5, (.g (.int .i64 ((t + 1 + below l 20 c))))), (6, (.g (.int .i64 ((n - 1)))))] [(8, .cells (curC l (belowS l 20 c))), (64, .cells [(.g (.int .i64 (0))), (.g (.int .i64 (0))), (.g (.int .i64 (0)))]), (160, .flat 1 ((xs ++ [t + 1 + below l 20 c]).map cI))] (by simp [KpR, renV2, renV, upd_app, lkE_app, lk_cons, lk_nil, cI]; try (first | rfl | omega)) (by simp [KpOX, renO, plO, cvO, renV, pl1, lk_cons, lk_nil, upd_app, cI]; try (first | rfl | (simp [cI, List.take_of_length_le]; done))) (by rfl) (by simp) (by simp) (by rfl) (by simp [formsX, List.range_succ, lk_cons, lk_nil]), _, ?_, n - 1, t + 1 + below l 20 c, xs ++ [t + 1 + below l 20 c], belowS l 20 c, rfl, ?_, rfl⟩
                        · omega
                        · simp; omega
              · try simp at hc1
                all_goals
                  refine AW_exit ?_
                  refine AW_id ?_
                  refine AW_x rfl rfl fun K hK => ?_
                  simp (disch := omega) [wrap64, List.getElem?_eq_getElem, toNat_pred, cU, cI, DtRule.cells, take_map_n]
                  repeat' first | (exfalso; omega) | (refine XKd_cur (fun _ => xs_p (xs_g xs_z)) (l1Below l hl _ _) rfl rfl ?_; simp (disch := omega) [wrap64, List.getElem?_eq_getElem, toNat_pred, cU, cI, DtRule.cells, take_map_n]) | (refine ⟨fun _ => ?_, fun _ => ?_⟩) | (refine ⟨by omega, ?_⟩) | (intro _)
                  all_goals (refine hK _ ?_; clear hK K)
                  all_goals
                    refine AW_seq ?_
                    refine AW_x rfl rfl fun K hK => ?_
                    simp (disch := omega) [wrap64, List.getElem?_eq_getElem, toNat_pred, cU, cI, DtRule.cells, take_map_n]
                    repeat' first | (exfalso; omega) | (refine XKd_cur (fun _ => xs_p (xs_g xs_z)) (l1Once l hl _ _) rfl rfl ?_; simp (disch := omega) [wrap64, List.getElem?_eq_getElem, toNat_pred, cU, cI, DtRule.cells, take_map_n]) | (refine ⟨fun _ => ?_, fun _ => ?_⟩) | (refine ⟨by omega, ?_⟩) | (intro _)
                    all_goals (refine hK _ ?_; clear hK K)
                    all_goals
                      refine AW_cond rfl (fun hc2 => ?_) (fun hc2 => ?_)
                      · try simp at hc2
                        all_goals
                          refine AW_x rfl rfl fun K hK => ?_
                          simp (disch := omega) [wrap64, List.getElem?_eq_getElem, toNat_pred, cU, cI, DtRule.cells, take_map_n]
                          repeat' first | (exfalso; omega) | (refine XKd_cur (fun _ => xs_p (xs_g xs_z)) (l1Below l hl _ _) rfl rfl ?_; simp (disch := omega) [wrap64, List.getElem?_eq_getElem, toNat_pred, cU, cI, DtRule.cells, take_map_n]) | (refine ⟨fun _ => ?_, fun _ => ?_⟩) | (refine ⟨by omega, ?_⟩) | (intro _)
                          all_goals (refine hK _ ?_; clear hK K)
                          all_goals
                            refine AW_block ?_
                            refine AW_x rfl rfl fun K hK => ?_
                            simp (disch := omega) [wrap64, List.getElem?_eq_getElem, toNat_pred, cU, cI, DtRule.cells, take_map_n]
                            repeat' first | (exfalso; omega) | (refine ⟨fun _ => ?_, fun _ => ?_⟩) | (refine ⟨by omega, ?_⟩) | (intro _)
                            all_goals (refine hK _ ?_; clear hK K)
                            all_goals
                              refine AW_cond rfl (fun hc3 => ?_) (fun hc3 => ?_)
                              · try simp at hc3
                                all_goals
                                  refine AW_xe rfl rfl fun K hK => ?_
                                  simp (disch := omega) [wrap64, List.getElem?_eq_getElem, toNat_pred, cU, cI, DtRule.cells, take_map_n]
                                  repeat' first | (exfalso; omega) | ((first | refine XKd_cur2 (fun _ => xs_p (xs_a xs_z)) (l1PickInt l hl _ [-1, 30, 31] (by simp)) rfl rfl rfl (by decide) rfl ?_ | refine XKd_cur2 (fun _ => xs_p (xs_a xs_z)) (l1PickInt l hl _ [0, 100000, 100001] (by simp)) rfl rfl rfl (by decide) rfl ?_); simp (disch := omega) [wrap64, List.getElem?_eq_getElem, toNat_pred, cU, cI, DtRule.cells, take_map_n]) | (refine ⟨fun _ => ?_, fun _ => ?_⟩) | (refine ⟨by omega, ?_⟩) | (intro _)
                                  all_goals (refine hK _ ?_; clear hK K)
                                  all_goals
                                    refine AW_id ?_
                                    refine AW_d rfl mix (by kernel_rfl) (by kernel_rfl) fun K hK => ?_
                                    simp (disch := omega) [wrap64, List.getElem?_eq_getElem, toNat_pred, cU, cI, DtRule.cells, take_map_n]
                                    repeat' first | (exfalso; omega) | (refine ⟨fun _ => ?_, fun _ => ?_⟩) | (refine ⟨by omega, ?_⟩) | (intro _)
                                    all_goals (refine hK _ _ (by kernel_rfl) ?_; clear hK K)
                                    all_goals
                                      refine AW_retE (.tup [.arr 16 0 ?n_1, .agg [(.g (.int .i64 (?v1_1))), (.g (.int .i64 (?v2_1))), (.g (.int .i64 (?v3_1)))]]) [.cells (curC l ?c_1)] [.own 1 (xs.map cI)] ?po (by simp) (by simp) (by simp [OB.xk]) (end_x [160] [] (by simp [List.range_succ, lk_cons, lk_nil, upd_app]) (by simp) ?en)
                                      case en =>
                                        simp (disch := omega) [wrap64, List.getElem?_eq_getElem, toNat_pred, cU, cI, DtRule.cells, take_map_n]
                                        all_goals (repeat' (first | constructor | rfl))
                                      case po => exact ⟨_, _, ⟨_, _, _⟩, by first | omega | (simp; omega), rfl, rfl, rfl⟩
                              · try simp at hc3
                                all_goals
                                  refine AW_x rfl rfl fun K hK => ?_
                                  simp (disch := omega) [wrap64, List.getElem?_eq_getElem, toNat_pred, cU, cI, DtRule.cells, take_map_n]
                                  repeat' first | (exfalso; omega) | (refine ⟨fun _ => ?_, fun _ => ?_⟩) | (refine ⟨by omega, ?_⟩) | (intro _)
                                  all_goals (refine hK _ ?_; clear hK K)
                                  all_goals
                                    refine AW_cond rfl (fun hc4 => ?_) (fun hc4 => ?_)
                                    · try simp at hc4
                                      all_goals
                                        refine AW_xe rfl rfl fun K hK => ?_
                                        simp (disch := omega) [wrap64, List.getElem?_eq_getElem, toNat_pred, cU, cI, DtRule.cells, take_map_n]
                                        repeat' first | (exfalso; omega) | ((first | refine XKd_cur2 (fun _ => xs_p (xs_a xs_z)) (l1PickInt l hl _ [-1, 30, 31] (by simp)) rfl rfl rfl (by decide) rfl ?_ | refine XKd_cur2 (fun _ => xs_p (xs_a xs_z)) (l1PickInt l hl _ [0, 100000, 100001] (by simp)) rfl rfl rfl (by decide) rfl ?_); simp (disch := omega) [wrap64, List.getElem?_eq_getElem, toNat_pred, cU, cI, DtRule.cells, take_map_n]) | (refine ⟨fun _ => ?_, fun _ => ?_⟩) | (refine ⟨by omega, ?_⟩) | (intro _)
                                        all_goals (refine hK _ ?_; clear hK K)
                                        all_goals
                                          refine AW_id ?_
                                          refine AW_d rfl mix (by kernel_rfl) (by kernel_rfl) fun K hK => ?_
                                          simp (disch := omega) [wrap64, List.getElem?_eq_getElem, toNat_pred, cU, cI, DtRule.cells, take_map_n]
                                          repeat' first | (exfalso; omega) | (refine ⟨fun _ => ?_, fun _ => ?_⟩) | (refine ⟨by omega, ?_⟩) | (intro _)
                                          all_goals (refine hK _ _ (by kernel_rfl) ?_; clear hK K)
                                          all_goals
                                            refine AW_retE (.tup [.arr 16 0 (xs ++ [pickZ [0, 100000, 100001] (below l 3 (belowS l 3 (belowS l 12 (belowS l 3 (belowS l 5 (belowS l 5 c))))))]).length, .agg [(.g (.int .i64 (?v1_2))), (.g (.int .i64 (?v2_2))), (.g (.int .i64 (?v3_2)))]]) [.cells (curC l ?c_2)] [.own 1 ((xs ++ [pickZ [0, 100000, 100001] (below l 3 (belowS l 3 (belowS l 12 (belowS l 3 (belowS l 5 (belowS l 5 c))))))]).map cI)] ?po (by simp) (by simp) (by simp [OB.xk]) (end_x [1008] [] (by simp [List.range_succ, lk_cons, lk_nil, upd_app]) (by simp) ?en)
                                            case en =>
                                              simp (disch := omega) [wrap64, List.getElem?_eq_getElem, toNat_pred, cU, cI, DtRule.cells, take_map_n]
                                              all_goals (repeat' (first | constructor | rfl))
                                            case po => exact ⟨_, _, ⟨_, _, _⟩, by first | omega | (simp; omega), rfl, rfl, rfl⟩
                                    · try simp at hc4
                                      all_goals
                                        refine AW_x rfl rfl fun K hK => ?_
                                        simp (disch := omega) [wrap64, List.getElem?_eq_getElem, toNat_pred, cU, cI, DtRule.cells, take_map_n]
                                        repeat' first | (exfalso; omega) | (refine XKd_cur (fun _ => xs_p (xs_g xs_z)) (l1Below l hl _ _) rfl rfl ?_; simp (disch := omega) [wrap64, List.getElem?_eq_getElem, toNat_pred, cU, cI, DtRule.cells, take_map_n]) | (refine ⟨fun _ => ?_, fun _ => ?_⟩) | (refine ⟨by omega, ?_⟩) | (intro _)
                                        all_goals (refine hK _ ?_; clear hK K)
                                        all_goals
                                          refine AW_block ?_
                                          have hb2 := below_bd l 2 (belowS l 3 (belowS l 12 (belowS l 3 (belowS l 5 (belowS l 5 c)))))
                                          refine AW_loopS (fun mM sS => ∃ (t : Int) (xs : List Int) (m r1 r2 r3 : Int) (c2 : Cur) (k : Nat), mM = 40 - k ∧ (0 ≤ t ∧ t ≤ 30 * xs.length ∧ xs.length = k ∧ k ≤ 32 ∧ m ≤ 31) ∧ sS = { env := lkE [(0, .ptr 8 0), (3, .ptr 64 0), (4, .arr 160 0 xs.length), (5, (.g (.int .i64 (t)))), (7, .ptr 128 0), (8, (.g (.int .i64 (m))))], ob := lk [(8, .cells (curC l c2)), (64, .cells [(.g (.int .i64 (0))), (.g (.int .i64 (0))), (.g (.int .i64 (0)))]), (128, .cells [(.g (.int .i64 (r1))), (.g (.int .i64 (r2))), (.g (.int .i64 (r3)))]), (160, .flat 1 (xs.map cI))] }) ?_ ?_
                                          · refine ⟨_, LeS.kx [(8, 8), (64, 64), (128, 128), (160, 160)] [(0, .ptr 8 0), (3, .ptr 64 0), (4, .arr 160 0 (xs).length), (5, (.g (.int .i64 ((t))))), (7, .ptr 128 0), (8, (.g (.int .i64 ((30 + below l 2 (belowS l 3 (belowS l 12 (belowS l 3 (belowS l 5 (belowS l 5 c))))))))))] [(8, .cells (curC l (belowS l 2 (belowS l 3 (belowS l 12 (belowS l 3 (belowS l 5 (belowS l 5 c)))))))), (64, .cells [(.g (.int .i64 (0))), (.g (.int .i64 (0))), (.g (.int .i64 (0)))]), (128, .cells [(.g (.int .i64 ((below l 5 c)))), (.g (.int .i64 ((below l 5 (belowS l 5 c))))), (.g (.int .i64 ((below l 3 (belowS l 5 (belowS l 5 c))))))]), (160, .flat 1 ((xs).map cI))] (by simp [KpR, renV2, renV, upd_app, lkE_app, lk_cons, lk_nil, cI]; try (first | rfl | (rw [wrap64 (by omega) (by omega)]; done) | omega)) (by simp [KpOX, renO, plO, cvO, renV, pl1, lk_cons, lk_nil, upd_app, cI]; try (first | rfl | (simp [cI, List.take_of_length_le]; done))) (by rfl) (by simp) (by simp) (by rfl) (by simp [formsX, List.range_succ, lk_cons, lk_nil]), _, t, xs, 30 + below l 2 (belowS l 3 (belowS l 12 (belowS l 3 (belowS l 5 (belowS l 5 c))))), below l 5 c, below l 5 (belowS l 5 c), below l 3 (belowS l 5 (belowS l 5 c)), belowS l 2 (belowS l 3 (belowS l 12 (belowS l 3 (belowS l 5 (belowS l 5 c))))), xs.length, rfl, ?_, rfl⟩
                                            · omega
                                          · rintro mM sS ⟨t, xs, m, r1, r2, r3, c2, k, rfl, ⟨h1, h2, h0, h3, h4⟩, rfl⟩
                                            refine AW_seq ?_
                                            refine AW_x rfl rfl fun K hK => ?_
                                            simp (disch := omega) [wrap64, List.getElem?_eq_getElem, toNat_pred, cU, cI, DtRule.cells, take_map_n]
                                            repeat' first | (exfalso; omega) | (refine ⟨fun _ => ?_, fun _ => ?_⟩) | (refine ⟨by omega, ?_⟩) | (intro _)
                                            all_goals (refine hK _ ?_; clear hK K)
                                            all_goals
                                              refine AW_cond rfl (fun hc5 => ?_) (fun hc5 => ?_)
                                              · try simp at hc5
                                                all_goals
                                                  refine AW_skip ?_
                                                  refine AW_id ?_
                                                  refine AW_block ?_
                                                  refine AW_x rfl rfl fun K hK => ?_
                                                  simp (disch := omega) [wrap64, List.getElem?_eq_getElem, toNat_pred, cU, cI, DtRule.cells, take_map_n]
                                                  repeat' first | (exfalso; omega) | (refine ⟨fun _ => ?_, fun _ => ?_⟩) | (refine ⟨by omega, ?_⟩) | (intro _)
                                                  all_goals (refine hK _ ?_; clear hK K)
                                                  all_goals
                                                    refine AW_xe rfl rfl fun K hK => ?_
                                                    simp (disch := omega) [wrap64, List.getElem?_eq_getElem, toNat_pred, cU, cI, DtRule.cells, take_map_n]
                                                    repeat' first | (exfalso; omega) | (refine ⟨fun _ => ?_, fun _ => ?_⟩) | (refine ⟨by omega, ?_⟩) | (intro _)
                                                    all_goals (refine hK _ ?_; clear hK K)
                                                    all_goals
                                                      refine ⟨_, LeS.kx [(8, 8), (64, 64), (128, 128), (160, 784)] [(0, .ptr 8 0), (3, .ptr 64 0), (4, .arr 160 0 (xs ++ [t + 1]).length), (5, (.g (.int .i64 ((t + 1))))), (7, .ptr 128 0), (8, (.g (.int .i64 ((m)))))] [(8, .cells (curC l (c2))), (64, .cells [(.g (.int .i64 (0))), (.g (.int .i64 (0))), (.g (.int .i64 (0)))]), (128, .cells [(.g (.int .i64 ((r1)))), (.g (.int .i64 ((r2)))), (.g (.int .i64 ((r3))))]), (160, .flat 1 ((xs ++ [t + 1]).map cI))] (by simp [KpR, renV2, renV, upd_app, lkE_app, lk_cons, lk_nil, cI]; try (first | rfl | omega)) (by simp [KpOX, renO, plO, cvO, renV, pl1, lk_cons, lk_nil, upd_app, cI]; try (first | rfl | (simp [cI, List.take_of_length_le]; done))) (by rfl) (by simp) (by simp) (by rfl) (by simp [formsX, List.range_succ, lk_cons, lk_nil]), _, ?_, t + 1, xs ++ [t + 1], m, r1, r2, r3, c2, k + 1, rfl, ?_, rfl⟩
                                                      · omega
                                                      · simp; omega
                                              · try simp at hc5
                                                all_goals
                                                  refine AW_exit ?_
                                                  refine AW_id ?_
                                                  refine AW_d rfl mix (by kernel_rfl) (by kernel_rfl) fun K hK => ?_
                                                  simp (disch := omega) [wrap64, List.getElem?_eq_getElem, toNat_pred, cU, cI, DtRule.cells, take_map_n]
                                                  repeat' first | (exfalso; omega) | (refine ⟨fun _ => ?_, fun _ => ?_⟩) | (refine ⟨by omega, ?_⟩) | (intro _)
                                                  all_goals (refine hK _ _ (by kernel_rfl) ?_; clear hK K)
                                                  all_goals
                                                    refine AW_retE (.tup [.arr 16 0 ?n_3, .agg [(.g (.int .i64 (?v1_3))), (.g (.int .i64 (?v2_3))), (.g (.int .i64 (?v3_3)))]]) [.cells (curC l ?c_3)] [.own 1 (xs.map cI)] ?po (by simp) (by simp) (by simp [OB.xk]) (end_x [160] [] (by simp [List.range_succ, lk_cons, lk_nil, upd_app]) (by simp) ?en)
                                                    case en =>
                                                      simp (disch := omega) [wrap64, List.getElem?_eq_getElem, toNat_pred, cU, cI, DtRule.cells, take_map_n]
                                                      all_goals (repeat' (first | constructor | rfl))
                                                    case po => exact ⟨_, _, ⟨_, _, _⟩, by first | omega | (simp; omega), rfl, rfl, rfl⟩
                      · try simp at hc2
                        all_goals
                          refine AW_skip ?_
                          refine AW_id ?_
                          refine AW_d rfl mix (by kernel_rfl) (by kernel_rfl) fun K hK => ?_
                          simp (disch := omega) [wrap64, List.getElem?_eq_getElem, toNat_pred, cU, cI, DtRule.cells, take_map_n]
                          repeat' first | (exfalso; omega) | (refine ⟨fun _ => ?_, fun _ => ?_⟩) | (refine ⟨by omega, ?_⟩) | (intro _)
                          all_goals (refine hK _ _ (by kernel_rfl) ?_; clear hK K)
                          all_goals
                            refine AW_retE (.tup [.arr 16 0 ?n_4, .agg [(.g (.int .i64 (?v1_4))), (.g (.int .i64 (?v2_4))), (.g (.int .i64 (?v3_4)))]]) [.cells (curC l ?c_4)] [.own 1 (xs.map cI)] ?po (by simp) (by simp) (by simp [OB.xk]) (end_x [160] [] (by simp [List.range_succ, lk_cons, lk_nil, upd_app]) (by simp) ?en)
                            case en =>
                              simp (disch := omega) [wrap64, List.getElem?_eq_getElem, toNat_pred, cU, cI, DtRule.cells, take_map_n]
                              all_goals (repeat' (first | constructor | rfl))
                            case po => exact ⟨_, _, ⟨_, _, _⟩, by first | omega | (simp; omega), rfl, rfl, rfl⟩
def KeepD (r : AV) (wos' fos : List OB) : Prop := ∃ (xs : List Int) (ru : DtRule), xs.length ≤ 100 ∧ r = .tup [.arr 16 0 xs.length, .agg (DtRule.cells ru)] ∧ wos' = [] ∧ fos = [.own 1 (xs.map cI)]
theorem DrawKeep (l : List Int) (hl : Code l) : XCallE Try.prog 19 [.sl 1 (l.map cU)] [] 1 KeepD := by
  refine xcallE_of_walk Try.func19 (by rfl) (by rfl) (by rw [Try.ntmps19]; exact Nat.le_of_ble_eq_true rfl) (by simp) rfl ?_
  rw [Try.ntmps19]
  refine AW_x0   ?_
  refine AW_k [(0, _)] ⟨rfl, trivial⟩ ?_
  refine AW_x rfl rfl fun K hK => ?_
  simp (disch := omega) [wrap64, List.getElem?_eq_getElem, toNat_pred, cU, cI, DtRule.cells, take_map_n]
  repeat' first | (exfalso; omega) | (refine ⟨fun _ => ?_, fun _ => ?_⟩) | (refine ⟨by omega, ?_⟩) | (intro _)
  all_goals (refine hK _ ?_; clear hK K)
  all_goals
    refine AW_x rfl rfl fun K hK => ?_
    simp (disch := omega) [wrap64, List.getElem?_eq_getElem, toNat_pred, cU, cI, DtRule.cells, take_map_n]
    repeat' first | (exfalso; omega) | (refine XKd_x [] false [] (l1New l hl) ?_ ?_ ?_; (focus (simp [List.range_succ, nmC]; done)); (focus (simp (disch := omega) [wrap64, List.getElem?_eq_getElem, toNat_pred, cU, cI, DtRule.cells, take_map_n, take_map_n]; done)); simp (disch := omega) [wrap64, List.getElem?_eq_getElem, toNat_pred, cU, cI, DtRule.cells, take_map_n]) | (refine ⟨fun _ => ?_, fun _ => ?_⟩) | (refine ⟨by omega, ?_⟩) | (intro _)
    all_goals (refine hK _ ?_; clear hK K)
    all_goals
      refine AW_x rfl rfl fun K hK => ?_
      simp (disch := omega) [wrap64, List.getElem?_eq_getElem, toNat_pred, cU, cI, DtRule.cells, take_map_n]
      repeat' first | (exfalso; omega) | (refine XKd_e [144] false [] (l22Times l hl (cur0 l)) ?_ ?_ ?_; (focus (simp [List.range_succ, nmC]; done)); (focus (simp (disch := omega) [wrap64, List.getElem?_eq_getElem, toNat_pred, cU, cI, DtRule.cells, take_map_n, take_map_n]; done)); rintro _ _ _ ⟨c, xs, ru, hx, rfl, rfl, rfl⟩; refine ⟨⟨by first | rfl | (simp; done), by first | rfl | (simp; done)⟩, ?_⟩; simp (disch := omega) [wrap64, List.getElem?_eq_getElem, toNat_pred, cU, cI, DtRule.cells, take_map_n]) | (refine ⟨fun _ => ?_, fun _ => ?_⟩) | (refine ⟨by omega, ?_⟩) | (intro _)
      all_goals (refine hK _ ?_; clear hK K)
      all_goals
        refine AW_d rfl mix (by kernel_rfl) (by kernel_rfl) fun K hK => ?_
        simp (disch := omega) [wrap64, List.getElem?_eq_getElem, toNat_pred, cU, cI, DtRule.cells, take_map_n]
        repeat' first | (exfalso; omega) | (refine ⟨fun _ => ?_, fun _ => ?_⟩) | (refine ⟨by omega, ?_⟩) | (intro _)
        all_goals (refine hK _ _ (by kernel_rfl) ?_; clear hK K)
        all_goals
          refine AW_retE (.tup [.arr 16 0 ?n_5, .agg [(.g (.int .i64 (?v1_5))), (.g (.int .i64 (?v2_5))), (.g (.int .i64 (?v3_5)))]]) [] [.own 1 (xs.map cI)] ?po (by simp) (by simp) (by simp [OB.xk]) (end_x [192] [] (by simp [List.range_succ, lk_cons, lk_nil, upd_app]) (by simp) ?en)
          case en =>
            simp (disch := omega) [wrap64, List.getElem?_eq_getElem, toNat_pred, cU, cI, DtRule.cells, take_map_n]
            all_goals (repeat' (first | constructor | rfl))
          case po => exact ⟨xs, ⟨_, _, _⟩, hx, rfl, rfl, rfl⟩
end Go.Proofs.Ytmcekkllkfccjaa.Vs
