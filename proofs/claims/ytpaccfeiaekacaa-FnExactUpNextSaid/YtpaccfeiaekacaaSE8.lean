import Derived.Test.YtpaccfeiaekacaaSU8
open Go Go.Proofs Go.Proofs.Ytpaccfeiaekacaa.Vs
namespace Go.Proofs.Ytpaccfeiaekacaa.Vs
set_option linter.unusedVariables false
set_option linter.unusedSimpArgs false
set_option linter.unusedSectionVars false
set_option linter.unnecessarySimpa false
set_option linter.all false
set_option linter.unusedSimpArgs false
set_option linter.unusedVariables false
set_option maxRecDepth 100000
theorem upSz (u : DtUps) (hs : DtUps.sz u ≤ 1048576) : u.fList.length ≤ 1048576 ∧ ∀ i (h : i < u.fList.length), u.fList[i].fNodes.length ≤ 1048576 := by
  have h0 := len_szS DtUp.sz_nonneg u.fList
  simp only [DtUps.sz] at hs
  refine ⟨by omega, fun i h => ?_⟩
  have h1 := sumZ_mem_le DtUp.sz_nonneg u.fList u.fList[i] (List.getElem_mem _)
  simp only [DtUp.sz] at h1
  simp only [szS] at hs
  omega
theorem tkm_s {α β : Type} (f : α → β) (l : List α) (i : Nat) (h : i < l.length) : List.take (i + 1) (l.map f) = List.take i (l.map f) ++ [f l[i]] := by
  rw [List.take_succ_eq_append_getElem (by simpa using h)]; simp
theorem copyUpsX (u : DtUps) (hs : DtUps.sz u ≤ 1048576) : XCall Try.prog 46 [.agg (DtUps.cells u)] [] (.agg [(.g (.int .i64 (u.fEpoch))), .arr 16 0 u.fList.length]) [] [.own 3 (u.fList.map DtUp.cells)] := by
  have ⟨hl, hl2⟩ := upSz u hs
  refine xcall_of_walk Try.func46 (by rfl) (by rfl) (by rw [Try.ntmps46]; exact Nat.le_of_ble_eq_true rfl) rfl (by simp) rfl rfl ?_
  rw [Try.ntmps46]
  refine AW_x0   ?_
  refine AW_k [(0, _)] ⟨rfl, trivial⟩ ?_
  refine AW_x rfl rfl fun K hK => ?_
  simp (disch := omega) [wrap64, List.getElem?_eq_getElem, toNat_pred, DtUps.cells, DtUp.cells, take_map_n]
  repeat' first | (exfalso; omega) | (refine ⟨fun _ => ?_, fun _ => ?_⟩) | (refine ⟨by omega, ?_⟩) | (intro _)
  all_goals (refine hK _ ?_; clear hK K)
  all_goals
    refine AW_x rfl rfl fun K hK => ?_
    simp (disch := omega) [wrap64, List.getElem?_eq_getElem, toNat_pred, DtUps.cells, DtUp.cells, take_map_n]
    repeat' first | (exfalso; omega) | (refine ⟨fun _ => ?_, fun _ => ?_⟩) | (refine ⟨by omega, ?_⟩) | (intro _)
    all_goals (refine hK _ ?_; clear hK K)
    all_goals
      refine AW_seq ?_
      refine AW_x rfl rfl fun K hK => ?_
      simp (disch := omega) [wrap64, List.getElem?_eq_getElem, toNat_pred, DtUps.cells, DtUp.cells, take_map_n]
      repeat' first | (exfalso; omega) | (refine ⟨fun _ => ?_, fun _ => ?_⟩) | (refine ⟨by omega, ?_⟩) | (intro _)
      all_goals (refine hK _ ?_; clear hK K)
      all_goals
        refine AW_block ?_
        refine AW_loopS (fun mM sS => ∃ (i : Nat), mM = u.fList.length - i ∧ (i ≤ u.fList.length) ∧ sS = { env := lkE [(2, .ptr 48 0), (3, .ptr 64 0), (10, .sl 3 (u.fList.map DtUp.cells)), (11, (.g (.int .i64 ((u.fList.length : Nat))))), (12, (.g (.int .i64 ((i : Nat)))))], ob := lk [(48, .cells [(.g (.int .i64 (0))), .g (.slice none 0 0)]), (64, .cells [(.g (.int .i64 (u.fEpoch))), .arr 500 0 i]), (500, .own 3 ((u.fList.take i).map DtUp.cells))] }) ?_ ?_
        · refine ⟨_, LeS.trans (LeS.znc (cs := [(.g (.int .i64 (u.fEpoch))), .g (.slice none 0 0)]) 500 3 64 1 (by simp [upd_app, lk_cons, lk_nil, lkE_app]) (by simp [upd_app, lk_cons, lk_nil, lkE_app, DtUps.cells, DtUp.cells]) (by rfl)) (LeS.kx [(48, 48), (64, 64), (500, 500)] [(2, .ptr 48 0), (3, .ptr 64 0), (10, .sl 3 (u.fList.map DtUp.cells)), (11, (.g (.int .i64 ((u.fList.length : Nat))))), (12, (.g (.int .i64 (((0) : Nat)))))] [(48, .cells [(.g (.int .i64 (0))), .g (.slice none 0 0)]), (64, .cells [(.g (.int .i64 (u.fEpoch))), .arr 500 0 (0)]), (500, .own 3 ((u.fList.take (0)).map DtUp.cells))] (by simp [KpR, renV2, renV, upd_app, lkE_app, lk_cons, lk_nil, DtUps.cells, DtUp.cells]; try rfl) (by simp [KpOX, renO, plO, cvO, renV, pl1, lk_cons, lk_nil, upd_app, DtUps.cells, DtUp.cells]; try (first | rfl | (rw [htk]; rfl))) (by rfl) (by simp) (by simp) (by rfl) (by simp [formsX, List.range_succ, lk_cons, lk_nil])), _, 0, rfl, ?_, rfl⟩
          · simp
        · rintro mM sS ⟨i, rfl, hi, rfl⟩
          refine AW_x rfl rfl fun K hK => ?_
          simp (disch := omega) [wrap64, List.getElem?_eq_getElem, toNat_pred, DtUps.cells, DtUp.cells, take_map_n]
          repeat' first | (exfalso; omega) | (refine ⟨fun _ => ?_, fun _ => ?_⟩) | (refine ⟨by omega, ?_⟩) | (intro _)
          all_goals (refine hK _ ?_; clear hK K)
          all_goals
            refine AW_seq ?_
            refine AW_cond rfl (fun hc1 => ?_) (fun hc1 => ?_)
            · try simp at hc1
              all_goals
                have hn2 := hl2 i (by omega)
                have htk := tkm_s DtUp.cells u.fList i (by omega)
                refine AW_skip ?_
                refine AW_id ?_
                refine AW_seq ?_
                refine AW_block ?_
                refine AW_x rfl rfl fun K hK => ?_
                simp (disch := omega) [wrap64, List.getElem?_eq_getElem, toNat_pred, DtUps.cells, DtUp.cells, take_map_n]
                repeat' first | (exfalso; omega) | (refine ⟨fun _ => ?_, fun _ => ?_⟩) | (refine ⟨by omega, ?_⟩) | (intro _)
                all_goals (refine hK _ ?_; clear hK K)
                all_goals
                  refine AW_de rfl mix (by kernel_rfl) (by kernel_rfl) fun K hK => ?_
                  simp (disch := omega) [wrap64, List.getElem?_eq_getElem, toNat_pred, DtUps.cells, DtUp.cells, take_map_n]
                  repeat' first | (exfalso; omega) | (refine ⟨fun _ => ?_, fun _ => ?_⟩) | (refine ⟨by omega, ?_⟩) | (intro _)
                  all_goals (refine hK _ _ (by kernel_rfl) ?_; clear hK K)
                  all_goals
                    refine AW_id ?_
                    refine AW_xe rfl rfl fun K hK => ?_
                    simp (disch := omega) [wrap64, List.getElem?_eq_getElem, toNat_pred, DtUps.cells, DtUp.cells, take_map_n]
                    repeat' first | (exfalso; omega) | (refine ⟨fun _ => ?_, fun _ => ?_⟩) | (refine ⟨by omega, ?_⟩) | (intro _)
                    all_goals (refine hK _ ?_; clear hK K)
                    all_goals
                      refine ⟨_, LeS.kx [(48, 48), (64, 64), (500, 448)] [(2, .ptr 48 0), (3, .ptr 64 0), (10, .sl 3 (u.fList.map DtUp.cells)), (11, (.g (.int .i64 ((u.fList.length : Nat))))), (12, (.g (.int .i64 (((i + 1) : Nat)))))] [(48, .cells [(.g (.int .i64 (0))), .g (.slice none 0 0)]), (64, .cells [(.g (.int .i64 (u.fEpoch))), .arr 500 0 (i + 1)]), (500, .own 3 ((u.fList.take (i + 1)).map DtUp.cells))] (by simp [KpR, renV2, renV, upd_app, lkE_app, lk_cons, lk_nil, DtUps.cells, DtUp.cells]; try rfl) (by simp [KpOX, renO, plO, cvO, renV, pl1, lk_cons, lk_nil, upd_app, DtUps.cells, DtUp.cells]; try (first | rfl | (rw [htk]; rfl))) (by rfl) (by simp) (by simp) (by rfl) (by simp [formsX, List.range_succ, lk_cons, lk_nil]), _, ?_, i + 1, rfl, ?_, rfl⟩
                      · omega
                      · omega
            · try simp at hc1
              all_goals
                refine AW_exit ?_
                refine AW_id ?_
                refine AW_x rfl rfl fun K hK => ?_
                simp (disch := omega) [wrap64, List.getElem?_eq_getElem, toNat_pred, DtUps.cells, DtUp.cells, take_map_n]
                repeat' first | (exfalso; omega) | (refine ⟨fun _ => ?_, fun _ => ?_⟩) | (refine ⟨by omega, ?_⟩) | (intro _)
                all_goals (refine hK _ ?_; clear hK K)
                all_goals
                  refine AW_ret (end_x [500] [] (by simp [List.range_succ, lk_cons, lk_nil, upd_app]) (by simp) ?_)
                  simp (disch := omega) [wrap64, List.getElem?_eq_getElem, toNat_pred, DtUps.cells, DtUp.cells, take_map_n]
                  all_goals omega
theorem l18CopyX (u : DtUps) (hs : DtUps.sz u ≤ 1048576) : XCall Try.prog 43 [.agg (DtUps.cells u)] [] (.agg [(.g (.int .i64 (u.fEpoch))), .arr 16 0 u.fList.length]) [] [.own 3 (u.fList.map DtUp.cells)] := by
  have ⟨hl, hl2⟩ := upSz u hs
  refine xcall_of_walk Try.func43 (by rfl) (by rfl) (by rw [Try.ntmps43]; exact Nat.le_of_ble_eq_true rfl) rfl (by simp) rfl rfl ?_
  rw [Try.ntmps43]
  refine AW_x0   ?_
  refine AW_k [(0, _)] ⟨rfl, trivial⟩ ?_
  refine AW_x rfl rfl fun K hK => ?_
  simp (disch := omega) [wrap64, List.getElem?_eq_getElem, toNat_pred, DtUps.cells, DtUp.cells, take_map_n]
  repeat' first | (exfalso; omega) | (refine ⟨fun _ => ?_, fun _ => ?_⟩) | (refine ⟨by omega, ?_⟩) | (intro _)
  all_goals (refine hK _ ?_; clear hK K)
  all_goals
    refine AW_x rfl rfl fun K hK => ?_
    simp (disch := omega) [wrap64, List.getElem?_eq_getElem, toNat_pred, DtUps.cells, DtUp.cells, take_map_n]
    repeat' first | (exfalso; omega) | (refine ⟨fun _ => ?_, fun _ => ?_⟩) | (refine ⟨by omega, ?_⟩) | (intro _)
    all_goals (refine hK _ ?_; clear hK K)
    all_goals
      refine AW_seq ?_
      refine AW_x rfl rfl fun K hK => ?_
      simp (disch := omega) [wrap64, List.getElem?_eq_getElem, toNat_pred, DtUps.cells, DtUp.cells, take_map_n]
      repeat' first | (exfalso; omega) | (refine ⟨fun _ => ?_, fun _ => ?_⟩) | (refine ⟨by omega, ?_⟩) | (intro _)
      all_goals (refine hK _ ?_; clear hK K)
      all_goals
        refine AW_block ?_
        refine AW_loopS (fun mM sS => ∃ (i : Nat), mM = u.fList.length - i ∧ (i ≤ u.fList.length) ∧ sS = { env := lkE [(1, .ptr 32 0), (2, .ptr 48 0), (3, .ptr 64 0), (4, (.g (.int .i64 ((i : Nat)))))], ob := lk [(32, .cells (DtUps.cells u)), (48, .cells [(.g (.int .i64 (0))), .g (.slice none 0 0)]), (64, .cells [(.g (.int .i64 (u.fEpoch))), .arr 500 0 i]), (500, .own 3 ((u.fList.take i).map DtUp.cells))] }) ?_ ?_
        · refine ⟨_, LeS.trans (LeS.znc (cs := [(.g (.int .i64 (u.fEpoch))), .g (.slice none 0 0)]) 500 3 64 1 (by simp [upd_app, lk_cons, lk_nil, lkE_app]) (by simp [upd_app, lk_cons, lk_nil, lkE_app, DtUps.cells, DtUp.cells]) (by rfl)) (LeS.kx [(32, 32), (48, 48), (64, 64), (500, 500)] [(1, .ptr 32 0), (2, .ptr 48 0), (3, .ptr 64 0), (4, (.g (.int .i64 (((0) : Nat)))))] [(32, .cells (DtUps.cells u)), (48, .cells [(.g (.int .i64 (0))), .g (.slice none 0 0)]), (64, .cells [(.g (.int .i64 (u.fEpoch))), .arr 500 0 (0)]), (500, .own 3 ((u.fList.take (0)).map DtUp.cells))] (by simp [KpR, renV2, renV, upd_app, lkE_app, lk_cons, lk_nil, DtUps.cells, DtUp.cells]; try rfl) (by simp [KpOX, renO, plO, cvO, renV, pl1, lk_cons, lk_nil, upd_app, DtUps.cells, DtUp.cells]; try (first | rfl | (rw [htk]; rfl))) (by rfl) (by simp) (by simp) (by rfl) (by simp [formsX, List.range_succ, lk_cons, lk_nil])), _, 0, rfl, ?_, rfl⟩
          · simp
        · rintro mM sS ⟨i, rfl, hi, rfl⟩
          refine AW_seq ?_
          refine AW_x rfl rfl fun K hK => ?_
          simp (disch := omega) [wrap64, List.getElem?_eq_getElem, toNat_pred, DtUps.cells, DtUp.cells, take_map_n]
          repeat' first | (exfalso; omega) | (refine ⟨fun _ => ?_, fun _ => ?_⟩) | (refine ⟨by omega, ?_⟩) | (intro _)
          all_goals (refine hK _ ?_; clear hK K)
          all_goals
            refine AW_cond rfl (fun hc2 => ?_) (fun hc2 => ?_)
            · try simp at hc2
              all_goals
                have hn2 := hl2 i (by omega)
                have htk := tkm_s DtUp.cells u.fList i (by omega)
                refine AW_skip ?_
                refine AW_id ?_
                refine AW_seq ?_
                refine AW_block ?_
                refine AW_x rfl rfl fun K hK => ?_
                simp (disch := omega) [wrap64, List.getElem?_eq_getElem, toNat_pred, DtUps.cells, DtUp.cells, take_map_n]
                repeat' first | (exfalso; omega) | (refine ⟨fun _ => ?_, fun _ => ?_⟩) | (refine ⟨by omega, ?_⟩) | (intro _)
                all_goals (refine hK _ ?_; clear hK K)
                all_goals
                  refine AW_x rfl rfl fun K hK => ?_
                  simp (disch := omega) [wrap64, List.getElem?_eq_getElem, toNat_pred, DtUps.cells, DtUp.cells, take_map_n]
                  repeat' first | (exfalso; omega) | (refine ⟨fun _ => ?_, fun _ => ?_⟩) | (refine ⟨by omega, ?_⟩) | (intro _)
                  all_goals (refine hK _ ?_; clear hK K)
                  all_goals
                    refine AW_xe rfl rfl fun K hK => ?_
                    simp (disch := omega) [wrap64, List.getElem?_eq_getElem, toNat_pred, DtUps.cells, DtUp.cells, take_map_n]
                    repeat' first | (exfalso; omega) | (refine ⟨fun _ => ?_, fun _ => ?_⟩) | (refine ⟨by omega, ?_⟩) | (intro _)
                    all_goals (refine hK _ ?_; clear hK K)
                    all_goals
                      refine AW_id ?_
                      refine AW_xe rfl rfl fun K hK => ?_
                      simp (disch := omega) [wrap64, List.getElem?_eq_getElem, toNat_pred, DtUps.cells, DtUp.cells, take_map_n]
                      repeat' first | (exfalso; omega) | (refine ⟨fun _ => ?_, fun _ => ?_⟩) | (refine ⟨by omega, ?_⟩) | (intro _)
                      all_goals (refine hK _ ?_; clear hK K)
                      all_goals
                        refine ⟨_, LeS.kx [(32, 32), (48, 48), (64, 64), (500, 496)] [(1, .ptr 32 0), (2, .ptr 48 0), (3, .ptr 64 0), (4, (.g (.int .i64 (((i + 1) : Nat)))))] [(32, .cells (DtUps.cells u)), (48, .cells [(.g (.int .i64 (0))), .g (.slice none 0 0)]), (64, .cells [(.g (.int .i64 (u.fEpoch))), .arr 500 0 (i + 1)]), (500, .own 3 ((u.fList.take (i + 1)).map DtUp.cells))] (by simp [KpR, renV2, renV, upd_app, lkE_app, lk_cons, lk_nil, DtUps.cells, DtUp.cells]; try rfl) (by simp [KpOX, renO, plO, cvO, renV, pl1, lk_cons, lk_nil, upd_app, DtUps.cells, DtUp.cells]; try (first | rfl | (rw [htk]; rfl))) (by rfl) (by simp) (by simp) (by rfl) (by simp [formsX, List.range_succ, lk_cons, lk_nil]), _, ?_, i + 1, rfl, ?_, rfl⟩
                        · omega
                        · omega
            · try simp at hc2
              all_goals
                refine AW_exit ?_
                refine AW_id ?_
                refine AW_x rfl rfl fun K hK => ?_
                simp (disch := omega) [wrap64, List.getElem?_eq_getElem, toNat_pred, DtUps.cells, DtUp.cells, take_map_n]
                repeat' first | (exfalso; omega) | (refine ⟨fun _ => ?_, fun _ => ?_⟩) | (refine ⟨by omega, ?_⟩) | (intro _)
                all_goals (refine hK _ ?_; clear hK K)
                all_goals
                  refine AW_ret (end_x [500] [] (by simp [List.range_succ, lk_cons, lk_nil, upd_app]) (by simp) ?_)
                  simp (disch := omega) [wrap64, List.getElem?_eq_getElem, toNat_pred, DtUps.cells, DtUp.cells, take_map_n]
                  all_goals omega
noncomputable def nextU (u : DtUps) : DtUps := bif decB (UpsOkP u) then (if u.fEpoch < 1000 then { u with fEpoch := u.fEpoch + 1 } else u) else { fEpoch := 0, fList := [] }
noncomputable def nextB (u : DtUps) : Bool := decB (UpsOkP u) && decide (u.fEpoch < 1000)
theorem nextU_f {u : DtUps} (h : ¬ UpsOkP u) : nextU u = { fEpoch := 0, fList := [] } ∧ nextB u = false := by unfold nextU nextB; rw [decB_f h]; exact ⟨rfl, rfl⟩
theorem nextU_e {u : DtUps} (h : UpsOkP u) (k : 1000 ≤ u.fEpoch) : nextU u = u ∧ nextB u = false := by unfold nextU nextB; rw [decB_t h, cond_true, if_neg (by omega)]; exact ⟨rfl, by simp; omega⟩
theorem nextU_t {u : DtUps} (h : UpsOkP u) (k : u.fEpoch < 1000) : nextU u = { u with fEpoch := u.fEpoch + 1 } ∧ nextB u = true := by unfold nextU nextB; rw [decB_t h, cond_true, if_pos k]; exact ⟨rfl, by simp; omega⟩
theorem implNextX (u : DtUps) (hs : DtUps.sz u ≤ 1048576) : XCall Try.prog 28 [.agg (DtUps.cells u)] [] (.tup [.agg [(.g (.int .i64 ((nextU u).fEpoch))), .arr 16 0 (nextU u).fList.length], (.g (.bool (nextB u)))]) [] [.own 3 ((nextU u).fList.map DtUp.cells)] := by
  refine xcall_of_walk Try.func28 (by rfl) (by rfl) (by rw [Try.ntmps28]; exact Nat.le_of_ble_eq_true rfl) rfl (by simp) rfl rfl ?_
  rw [Try.ntmps28]
  refine AW_x0   ?_
  refine AW_k [(0, _)] ⟨rfl, trivial⟩ ?_
  refine AW_x rfl rfl fun K hK => ?_
  simp (disch := omega) [wrap64, List.getElem?_eq_getElem, toNat_pred, DtUps.cells, DtUp.cells, take_map_n]
  repeat' first | (exfalso; omega) | (refine ⟨fun _ => ?_, fun _ => ?_⟩) | (refine ⟨by omega, ?_⟩) | (intro _)
  all_goals (refine hK _ ?_; clear hK K)
  all_goals
    refine AW_seq ?_
    refine AW_x rfl rfl fun K hK => ?_
    simp (disch := omega) [wrap64, List.getElem?_eq_getElem, toNat_pred, DtUps.cells, DtUp.cells, take_map_n]
    repeat' first | (exfalso; omega) | (refine XKd_v (am2s_cons (am2_agg rfl) am2s_nil) (implUpsOk _ (by omega)) rfl ?_; simp (disch := omega) [wrap64, List.getElem?_eq_getElem, toNat_pred, DtUps.cells, DtUp.cells, take_map_n]) | (refine XKd_p (implUpsOk _ (by omega)) (by rfl) ?_ ?_; (focus (simp (disch := omega) [wrap64, List.getElem?_eq_getElem, toNat_pred, DtUps.cells, DtUp.cells, take_map_n, take_map_n]; done)); simp (disch := omega) [wrap64, List.getElem?_eq_getElem, toNat_pred, DtUps.cells, DtUp.cells, take_map_n]) | (refine ⟨fun _ => ?_, fun _ => ?_⟩) | (refine ⟨by omega, ?_⟩) | (intro _)
    all_goals (refine hK _ ?_; clear hK K)
    all_goals
      refine AW_cond rfl (fun hc3 => ?_) (fun hc3 => ?_)
      · try simp [decB_true, decB_false, eqB_true, eqB_false] at hc3
        all_goals
          refine AW_x rfl rfl fun K hK => ?_
          simp (disch := omega) [wrap64, List.getElem?_eq_getElem, toNat_pred, DtUps.cells, DtUp.cells, take_map_n]
          repeat' first | (exfalso; omega) | (refine ⟨fun _ => ?_, fun _ => ?_⟩) | (refine ⟨by omega, ?_⟩) | (intro _)
          all_goals (refine hK _ ?_; clear hK K)
          all_goals
            refine AW_ret (end_x [1000] [(1000, 3)] (by simp [List.range_succ, lk_cons, lk_nil, upd_app]) (by simp) ?_)
            simp (disch := omega) [wrap64, List.getElem?_eq_getElem, toNat_pred, DtUps.cells, DtUp.cells, take_map_n]
            all_goals first | (have ⟨h1, h2⟩ := nextU_f hc3; rw [h1, h2]; exact ⟨⟨⟨rfl, rfl⟩, rfl⟩, rfl⟩) | (have ⟨h1, h2⟩ := nextU_e hc3 (Int.le_of_eq hc4.symm); rw [h1, h2]; exact ⟨⟨⟨rfl, rfl⟩, rfl⟩, rfl⟩) | (have hb := hc3.2.1; have hb0 := hc3.1; have ⟨h1, h2⟩ := nextU_t hc3 (by omega); have hw : IntKind.i64.wrap (u.fEpoch + 1) = u.fEpoch + 1 := (by simp (disch := omega) [wrap64]); rw [h1, h2, hw]; exact ⟨⟨⟨rfl, rfl⟩, rfl⟩, rfl⟩) | trace_state
      · try simp [decB_true, decB_false, eqB_true, eqB_false] at hc3
        all_goals
          refine AW_skip ?_
          refine AW_id ?_
          refine AW_x rfl rfl fun K hK => ?_
          simp (disch := omega) [wrap64, List.getElem?_eq_getElem, toNat_pred, DtUps.cells, DtUp.cells, take_map_n]
          repeat' first | (exfalso; omega) | (refine XKd_x [] true [] (copyUpsX u hs) ?_ ?_ ?_; (focus (simp [List.range_succ, nmC]; done)); (focus (simp (disch := omega) [wrap64, List.getElem?_eq_getElem, toNat_pred, DtUps.cells, DtUp.cells, take_map_n, take_map_n]; done)); simp (disch := omega) [wrap64, List.getElem?_eq_getElem, toNat_pred, DtUps.cells, DtUp.cells, take_map_n]) | (refine ⟨fun _ => ?_, fun _ => ?_⟩) | (refine ⟨by omega, ?_⟩) | (intro _)
          all_goals (refine hK _ ?_; clear hK K)
          all_goals
            refine AW_seq ?_
            refine AW_x rfl rfl fun K hK => ?_
            simp (disch := omega) [wrap64, List.getElem?_eq_getElem, toNat_pred, DtUps.cells, DtUp.cells, take_map_n]
            repeat' first | (exfalso; omega) | (refine ⟨fun _ => ?_, fun _ => ?_⟩) | (refine ⟨by omega, ?_⟩) | (intro _)
            all_goals (refine hK _ ?_; clear hK K)
            all_goals
              refine AW_cond rfl (fun hc4 => ?_) (fun hc4 => ?_)
              · try simp [decB_true, decB_false, eqB_true, eqB_false] at hc4
                all_goals
                  refine AW_x rfl rfl fun K hK => ?_
                  simp (disch := omega) [wrap64, List.getElem?_eq_getElem, toNat_pred, DtUps.cells, DtUp.cells, take_map_n]
                  repeat' first | (exfalso; omega) | (refine ⟨fun _ => ?_, fun _ => ?_⟩) | (refine ⟨by omega, ?_⟩) | (intro _)
                  all_goals (refine hK _ ?_; clear hK K)
                  all_goals
                    refine AW_ret (end_x [176] [] (by simp [List.range_succ, lk_cons, lk_nil, upd_app]) (by simp) ?_)
                    simp (disch := omega) [wrap64, List.getElem?_eq_getElem, toNat_pred, DtUps.cells, DtUp.cells, take_map_n]
                    all_goals first | (have ⟨h1, h2⟩ := nextU_f hc3; rw [h1, h2]; exact ⟨⟨⟨rfl, rfl⟩, rfl⟩, rfl⟩) | (have ⟨h1, h2⟩ := nextU_e hc3 (Int.le_of_eq hc4.symm); rw [h1, h2]; exact ⟨⟨⟨rfl, rfl⟩, rfl⟩, rfl⟩) | (have hb := hc3.2.1; have hb0 := hc3.1; have ⟨h1, h2⟩ := nextU_t hc3 (by omega); have hw : IntKind.i64.wrap (u.fEpoch + 1) = u.fEpoch + 1 := (by simp (disch := omega) [wrap64]); rw [h1, h2, hw]; exact ⟨⟨⟨rfl, rfl⟩, rfl⟩, rfl⟩) | trace_state
              · try simp [decB_true, decB_false, eqB_true, eqB_false] at hc4
                all_goals
                  refine AW_skip ?_
                  refine AW_id ?_
                  refine AW_x rfl rfl fun K hK => ?_
                  simp (disch := omega) [wrap64, List.getElem?_eq_getElem, toNat_pred, DtUps.cells, DtUp.cells, take_map_n]
                  repeat' first | (exfalso; omega) | (refine ⟨fun _ => ?_, fun _ => ?_⟩) | (refine ⟨by omega, ?_⟩) | (intro _)
                  all_goals (refine hK _ ?_; clear hK K)
                  all_goals
                    refine AW_x rfl rfl fun K hK => ?_
                    simp (disch := omega) [wrap64, List.getElem?_eq_getElem, toNat_pred, DtUps.cells, DtUp.cells, take_map_n]
                    repeat' first | (exfalso; omega) | (refine ⟨fun _ => ?_, fun _ => ?_⟩) | (refine ⟨by omega, ?_⟩) | (intro _)
                    all_goals (refine hK _ ?_; clear hK K)
                    all_goals
                      refine AW_ret (end_x [176] [] (by simp [List.range_succ, lk_cons, lk_nil, upd_app]) (by simp) ?_)
                      simp (disch := omega) [wrap64, List.getElem?_eq_getElem, toNat_pred, DtUps.cells, DtUp.cells, take_map_n]
                      all_goals first | (have ⟨h1, h2⟩ := nextU_f hc3; rw [h1, h2]; exact ⟨⟨⟨rfl, rfl⟩, rfl⟩, rfl⟩) | (have ⟨h1, h2⟩ := nextU_e hc3 (Int.le_of_eq hc4.symm); rw [h1, h2]; exact ⟨⟨⟨rfl, rfl⟩, rfl⟩, rfl⟩) | (have hb := hc3.2.1; have hb0 := hc3.1; have ⟨h1, h2⟩ := nextU_t hc3 (by omega); have hw : IntKind.i64.wrap (u.fEpoch + 1) = u.fEpoch + 1 := (by simp (disch := omega) [wrap64]); rw [h1, h2, hw]; exact ⟨⟨⟨rfl, rfl⟩, rfl⟩, rfl⟩) | trace_state
theorem specNextX (u : DtUps) (hs : DtUps.sz u ≤ 1048576) : XCall Try.prog 26 [.agg (DtUps.cells u)] [] (.tup [.agg [(.g (.int .i64 ((nextU u).fEpoch))), .arr 16 0 (nextU u).fList.length], (.g (.bool (nextB u)))]) [] [.own 3 ((nextU u).fList.map DtUp.cells)] := by
  refine xcall_of_walk Try.func26 (by rfl) (by rfl) (by rw [Try.ntmps26]; exact Nat.le_of_ble_eq_true rfl) rfl (by simp) rfl rfl ?_
  rw [Try.ntmps26]
  refine AW_x0   ?_
  refine AW_k [(0, _)] ⟨rfl, trivial⟩ ?_
  refine AW_x rfl rfl fun K hK => ?_
  simp (disch := omega) [wrap64, List.getElem?_eq_getElem, toNat_pred, DtUps.cells, DtUp.cells, take_map_n]
  repeat' first | (exfalso; omega) | (refine ⟨fun _ => ?_, fun _ => ?_⟩) | (refine ⟨by omega, ?_⟩) | (intro _)
  all_goals (refine hK _ ?_; clear hK K)
  all_goals
    refine AW_seq ?_
    refine AW_x rfl rfl fun K hK => ?_
    simp (disch := omega) [wrap64, List.getElem?_eq_getElem, toNat_pred, DtUps.cells, DtUp.cells, take_map_n]
    repeat' first | (exfalso; omega) | (refine XKd_v (am2s_cons (am2_agg rfl) am2s_nil) (specUpsOk _ (by omega)) rfl ?_; simp (disch := omega) [wrap64, List.getElem?_eq_getElem, toNat_pred, DtUps.cells, DtUp.cells, take_map_n]) | (refine XKd_p (specUpsOk _ (by omega)) (by rfl) ?_ ?_; (focus (simp (disch := omega) [wrap64, List.getElem?_eq_getElem, toNat_pred, DtUps.cells, DtUp.cells, take_map_n, take_map_n]; done)); simp (disch := omega) [wrap64, List.getElem?_eq_getElem, toNat_pred, DtUps.cells, DtUp.cells, take_map_n]) | (refine ⟨fun _ => ?_, fun _ => ?_⟩) | (refine ⟨by omega, ?_⟩) | (intro _)
    all_goals (refine hK _ ?_; clear hK K)
    all_goals
      refine AW_cond rfl (fun hc5 => ?_) (fun hc5 => ?_)
      · try simp [decB_true, decB_false, eqB_true, eqB_false] at hc5
        all_goals
          refine AW_x rfl rfl fun K hK => ?_
          simp (disch := omega) [wrap64, List.getElem?_eq_getElem, toNat_pred, DtUps.cells, DtUp.cells, take_map_n]
          repeat' first | (exfalso; omega) | (refine ⟨fun _ => ?_, fun _ => ?_⟩) | (refine ⟨by omega, ?_⟩) | (intro _)
          all_goals (refine hK _ ?_; clear hK K)
          all_goals
            refine AW_ret (end_x [1000] [(1000, 3)] (by simp [List.range_succ, lk_cons, lk_nil, upd_app]) (by simp) ?_)
            simp (disch := omega) [wrap64, List.getElem?_eq_getElem, toNat_pred, DtUps.cells, DtUp.cells, take_map_n]
            all_goals first | (have ⟨h1, h2⟩ := nextU_f hc5; rw [h1, h2]; exact ⟨⟨⟨rfl, rfl⟩, rfl⟩, rfl⟩) | (have ⟨h1, h2⟩ := nextU_e hc5 hc6; rw [h1, h2]; exact ⟨⟨⟨rfl, rfl⟩, rfl⟩, rfl⟩) | (have hb := hc5.2.1; have hb0 := hc5.1; have ⟨h1, h2⟩ := nextU_t hc5 hc6; have hw : IntKind.i64.wrap (u.fEpoch + 1) = u.fEpoch + 1 := (by simp (disch := omega) [wrap64]); rw [h1, h2, hw]; exact ⟨⟨⟨rfl, rfl⟩, rfl⟩, rfl⟩) | trace_state
      · try simp [decB_true, decB_false, eqB_true, eqB_false] at hc5
        all_goals
          refine AW_skip ?_
          refine AW_id ?_
          refine AW_x rfl rfl fun K hK => ?_
          simp (disch := omega) [wrap64, List.getElem?_eq_getElem, toNat_pred, DtUps.cells, DtUp.cells, take_map_n]
          repeat' first | (exfalso; omega) | (refine XKd_x [] true [] (l18CopyX u hs) ?_ ?_ ?_; (focus (simp [List.range_succ, nmC]; done)); (focus (simp (disch := omega) [wrap64, List.getElem?_eq_getElem, toNat_pred, DtUps.cells, DtUp.cells, take_map_n, take_map_n]; done)); simp (disch := omega) [wrap64, List.getElem?_eq_getElem, toNat_pred, DtUps.cells, DtUp.cells, take_map_n]) | (refine ⟨fun _ => ?_, fun _ => ?_⟩) | (refine ⟨by omega, ?_⟩) | (intro _)
          all_goals (refine hK _ ?_; clear hK K)
          all_goals
            refine AW_seq ?_
            refine AW_x rfl rfl fun K hK => ?_
            simp (disch := omega) [wrap64, List.getElem?_eq_getElem, toNat_pred, DtUps.cells, DtUp.cells, take_map_n]
            repeat' first | (exfalso; omega) | (refine ⟨fun _ => ?_, fun _ => ?_⟩) | (refine ⟨by omega, ?_⟩) | (intro _)
            all_goals (refine hK _ ?_; clear hK K)
            all_goals
              refine AW_cond rfl (fun hc6 => ?_) (fun hc6 => ?_)
              · try simp [decB_true, decB_false, eqB_true, eqB_false] at hc6
                all_goals
                  refine AW_x rfl rfl fun K hK => ?_
                  simp (disch := omega) [wrap64, List.getElem?_eq_getElem, toNat_pred, DtUps.cells, DtUp.cells, take_map_n]
                  repeat' first | (exfalso; omega) | (refine ⟨fun _ => ?_, fun _ => ?_⟩) | (refine ⟨by omega, ?_⟩) | (intro _)
                  all_goals (refine hK _ ?_; clear hK K)
                  all_goals
                    refine AW_ret (end_x [176] [] (by simp [List.range_succ, lk_cons, lk_nil, upd_app]) (by simp) ?_)
                    simp (disch := omega) [wrap64, List.getElem?_eq_getElem, toNat_pred, DtUps.cells, DtUp.cells, take_map_n]
                    all_goals first | (have ⟨h1, h2⟩ := nextU_f hc5; rw [h1, h2]; exact ⟨⟨⟨rfl, rfl⟩, rfl⟩, rfl⟩) | (have ⟨h1, h2⟩ := nextU_e hc5 hc6; rw [h1, h2]; exact ⟨⟨⟨rfl, rfl⟩, rfl⟩, rfl⟩) | (have hb := hc5.2.1; have hb0 := hc5.1; have ⟨h1, h2⟩ := nextU_t hc5 hc6; have hw : IntKind.i64.wrap (u.fEpoch + 1) = u.fEpoch + 1 := (by simp (disch := omega) [wrap64]); rw [h1, h2, hw]; exact ⟨⟨⟨rfl, rfl⟩, rfl⟩, rfl⟩) | trace_state
              · try simp [decB_true, decB_false, eqB_true, eqB_false] at hc6
                all_goals
                  refine AW_skip ?_
                  refine AW_id ?_
                  refine AW_x rfl rfl fun K hK => ?_
                  simp (disch := omega) [wrap64, List.getElem?_eq_getElem, toNat_pred, DtUps.cells, DtUp.cells, take_map_n]
                  repeat' first | (exfalso; omega) | (refine ⟨fun _ => ?_, fun _ => ?_⟩) | (refine ⟨by omega, ?_⟩) | (intro _)
                  all_goals (refine hK _ ?_; clear hK K)
                  all_goals
                    refine AW_x rfl rfl fun K hK => ?_
                    simp (disch := omega) [wrap64, List.getElem?_eq_getElem, toNat_pred, DtUps.cells, DtUp.cells, take_map_n]
                    repeat' first | (exfalso; omega) | (refine ⟨fun _ => ?_, fun _ => ?_⟩) | (refine ⟨by omega, ?_⟩) | (intro _)
                    all_goals (refine hK _ ?_; clear hK K)
                    all_goals
                      refine AW_ret (end_x [176] [] (by simp [List.range_succ, lk_cons, lk_nil, upd_app]) (by simp) ?_)
                      simp (disch := omega) [wrap64, List.getElem?_eq_getElem, toNat_pred, DtUps.cells, DtUp.cells, take_map_n]
                      all_goals first | (have ⟨h1, h2⟩ := nextU_f hc5; rw [h1, h2]; exact ⟨⟨⟨rfl, rfl⟩, rfl⟩, rfl⟩) | (have ⟨h1, h2⟩ := nextU_e hc5 hc6; rw [h1, h2]; exact ⟨⟨⟨rfl, rfl⟩, rfl⟩, rfl⟩) | (have hb := hc5.2.1; have hb0 := hc5.1; have ⟨h1, h2⟩ := nextU_t hc5 hc6; have hw : IntKind.i64.wrap (u.fEpoch + 1) = u.fEpoch + 1 := (by simp (disch := omega) [wrap64]); rw [h1, h2, hw]; exact ⟨⟨⟨rfl, rfl⟩, rfl⟩, rfl⟩) | trace_state
end Go.Proofs.Ytpaccfeiaekacaa.Vs
