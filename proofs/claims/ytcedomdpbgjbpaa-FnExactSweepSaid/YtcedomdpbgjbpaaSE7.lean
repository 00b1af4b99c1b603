import Derived.Test.YtcedomdpbgjbpaaSM7
open Go Go.Proofs Go.Proofs.Ytcedomdpbgjbpaa.Vs
namespace Go.Proofs.Ytcedomdpbgjbpaa.Vs
set_option linter.unusedVariables false
set_option linter.unusedSimpArgs false
set_option linter.unusedSectionVars false
set_option linter.unnecessarySimpa false
set_option linter.all false
set_option linter.unusedSimpArgs false
set_option linter.unusedVariables false
set_option maxRecDepth 100000
theorem upSz (u : DtUps) (hs : DtUps.sz u ≤ 1048576) : u.fList.length ≤ 1048576 ∧ ∀ i (h : i < u.fList.length), u.fList[i].fNodes.length ≤ 1048576 := by
  have h0 := len_szS DtUp.sz_nonneg u.fList
  simp only [DtUps.sz] at hs
  refine ⟨by omega, fun i h => ?_⟩
  have h1 := sumZ_mem_le DtUp.sz_nonneg u.fList u.fList[i] (List.getElem_mem _)
  simp only [DtUp.sz] at h1
  simp only [szS] at hs
  omega
theorem tkm_s {α β : Type} (f : α → β) (l : List α) (i : Nat) (h : i < l.length) : List.take (i + 1) (l.map f) = List.take i (l.map f) ++ [f l[i]] := by
  rw [List.take_succ_eq_append_getElem (by simpa using h)]; simp
theorem copyUpsX (u : DtUps) (hs : DtUps.sz u ≤ 1048576) : XCall Try.prog 61 [.agg (DtUps.cells u)] [] (.agg [(.g (.int .i64 (u.fEpoch))), .arr 16 0 u.fList.length]) [] [.own 3 (u.fList.map DtUp.cells)] := by
  have ⟨hl, hl2⟩ := upSz u hs
  refine xcall_of_walk Try.func61 (by rfl) (by rfl) (by rw [Try.ntmps61]; exact Nat.le_of_ble_eq_true rfl) rfl (by simp) rfl rfl ?_
  rw [Try.ntmps61]
  refine AW_x0   ?_
  refine AW_k [(0, _)] ⟨rfl, trivial⟩ ?_
  refine AW_x rfl rfl fun K hK => ?_
  simp (disch := omega) [wrap64, List.getElem?_eq_getElem, toNat_pred, DtUps.cells, DtUp.cells, take_map_n]
  repeat' first | (exfalso; omega) | (refine ⟨fun _ => ?_, fun _ => ?_⟩) | (refine ⟨by omega, ?_⟩) | (intro _)
  all_goals (refine hK _ ?_; clear hK K)
  all_goals
    refine AW_x rfl rfl fun K hK => ?_
    simp (disch := omega) [wrap64, List.getElem?_eq_getElem, toNat_pred, DtUps.cells, DtUp.cells, take_map_n]
    repeat' first | (exfalso; omega) | (refine ⟨fun _ => ?_, fun _ => ?_⟩) | (refine ⟨by omega, ?_⟩) | (intro _)
    all_goals (refine hK _ ?_; clear hK K)
    all_goals
      refine AW_seq ?_
      refine AW_x rfl rfl fun K hK => ?_
      simp (disch := omega) [wrap64, List.getElem?_eq_getElem, toNat_pred, DtUps.cells, DtUp.cells, take_map_n]
      repeat' first | (exfalso; omega) | (refine ⟨fun _ => ?_, fun _ => ?_⟩) | (refine ⟨by omega, ?_⟩) | (intro _)
      all_goals (refine hK _ ?_; clear hK K)
      all_goals
        refine AW_block ?_
        refine AW_loopS (fun mM sS => ∃ (i : Nat), mM = u.fList.length - i ∧ (i ≤ u.fList.length) ∧ sS = { env := lkE [(2, .ptr 48 0), (3, .ptr 64 0), (10, .sl 3 (u.fList.map DtUp.cells)), (11, (.g (.int .i64 ((u.fList.length : Nat))))), (12, (.g (.int .i64 ((i : Nat)))))], ob := lk [(48, .cells [(.g (.int .i64 (0))), .g (.slice none 0 0)]), (64, .cells [(.g (.int .i64 (u.fEpoch))), .arr 500 0 i]), (500, .own 3 ((u.fList.take i).map DtUp.cells))] }) ?_ ?_
        · refine ⟨_, LeS.trans (LeS.znc (cs := [(.g (.int .i64 (u.fEpoch))), .g (.slice none 0 0)]) 500 3 64 1 (by simp [upd_app, lk_cons, lk_nil, lkE_app]) (by simp [upd_app, lk_cons, lk_nil, lkE_app, DtUps.cells, DtUp.cells]) (by rfl)) (LeS.kx [(48, 48), (64, 64), (500, 500)] [(2, .ptr 48 0), (3, .ptr 64 0), (10, .sl 3 (u.fList.map DtUp.cells)), (11, (.g (.int .i64 ((u.fList.length : Nat))))), (12, (.g (.int .i64 (((0) : Nat)))))] [(48, .cells [(.g (.int .i64 (0))), .g (.slice none 0 0)]), (64, .cells [(.g (.int .i64 (u.fEpoch))), .arr 500 0 (0)]), (500, .own 3 ((u.fList.take (0)).map DtUp.cells))] (by simp [KpR, renV2, renV, upd_app, lkE_app, lk_cons, lk_nil, DtUps.cells, DtUp.cells]; try rfl) (by simp [KpOX, renO, plO, cvO, renV, pl1, lk_cons, lk_nil, upd_app, DtUps.cells, DtUp.cells]; try (first | rfl | (rw [htk]; rfl))) (by rfl) (by simp) (by simp) (by rfl) (by simp [formsX, List.range_succ, lk_cons, lk_nil])), _, 0, rfl, ?_, rfl⟩
          · simp
        · rintro mM sS ⟨i, rfl, hi, rfl⟩
          refine AW_x rfl rfl fun K hK => ?_
          simp (disch := omega) [wrap64, List.getElem?_eq_getElem, toNat_pred, DtUps.cells, DtUp.cells, take_map_n]
          repeat' first | (exfalso; omega) | (refine ⟨fun _ => ?_, fun _ => ?_⟩) | (refine ⟨by omega, ?_⟩) | (intro _)
          all_goals (refine hK _ ?_; clear hK K)
          all_goals
            refine AW_seq ?_
            refine AW_cond rfl (fun hc1 => ?_) (fun hc1 => ?_)
            · try simp at hc1
              all_goals
                have hn2 := hl2 i (by omega)
                have htk := tkm_s DtUp.cells u.fList i (by omega)
                refine AW_skip ?_
                refine AW_id ?_
                refine AW_seq ?_
                refine AW_block ?_
                refine AW_x rfl rfl fun K hK => ?_
                simp (disch := omega) [wrap64, List.getElem?_eq_getElem, toNat_pred, DtUps.cells, DtUp.cells, take_map_n]
                repeat' first | (exfalso; omega) | (refine ⟨fun _ => ?_, fun _ => ?_⟩) | (refine ⟨by omega, ?_⟩) | (intro _)
                all_goals (refine hK _ ?_; clear hK K)
                all_goals
                  refine AW_de rfl mix (by kernel_rfl) (by kernel_rfl) fun K hK => ?_
                  simp (disch := omega) [wrap64, List.getElem?_eq_getElem, toNat_pred, DtUps.cells, DtUp.cells, take_map_n]
                  repeat' first | (exfalso; omega) | (refine ⟨fun _ => ?_, fun _ => ?_⟩) | (refine ⟨by omega, ?_⟩) | (intro _)
                  all_goals (refine hK _ _ (by kernel_rfl) ?_; clear hK K)
                  all_goals
                    refine AW_id ?_
                    refine AW_xe rfl rfl fun K hK => ?_
                    simp (disch := omega) [wrap64, List.getElem?_eq_getElem, toNat_pred, DtUps.cells, DtUp.cells, take_map_n]
                    repeat' first | (exfalso; omega) | (refine ⟨fun _ => ?_, fun _ => ?_⟩) | (refine ⟨by omega, ?_⟩) | (intro _)
                    all_goals (refine hK _ ?_; clear hK K)
                    all_goals
                      refine ⟨_, LeS.kx [(48, 48), (64, 64), (500, 448)] [(2, .ptr 48 0), (3, .ptr 64 0), (10, .sl 3 (u.fList.map DtUp.cells)), (11, (.g (.int .i64 ((u.fList.length : Nat))))), (12, (.g (.int .i64 (((i + 1) : Nat)))))] [(48, .cells [(.g (.int .i64 (0))), .g (.slice none 0 0)]), (64, .cells [(.g (.int .i64 (u.fEpoch))), .arr 500 0 (i + 1)]), (500, .own 3 ((u.fList.take (i + 1)).map DtUp.cells))] (by simp [KpR, renV2, renV, upd_app, lkE_app, lk_cons, lk_nil, DtUps.cells, DtUp.cells]; try rfl) (by simp [KpOX, renO, plO, cvO, renV, pl1, lk_cons, lk_nil, upd_app, DtUps.cells, DtUp.cells]; try (first | rfl | (rw [htk]; rfl))) (by rfl) (by simp) (by simp) (by rfl) (by simp [formsX, List.range_succ, lk_cons, lk_nil]), _, ?_, i + 1, rfl, ?_, rfl⟩
                      · omega
                      · omega
            · try simp at hc1
              all_goals
                refine AW_exit ?_
                refine AW_id ?_
                refine AW_x rfl rfl fun K hK => ?_
                simp (disch := omega) [wrap64, List.getElem?_eq_getElem, toNat_pred, DtUps.cells, DtUp.cells, take_map_n]
                repeat' first | (exfalso; omega) | (refine ⟨fun _ => ?_, fun _ => ?_⟩) | (refine ⟨by omega, ?_⟩) | (intro _)
                all_goals (refine hK _ ?_; clear hK K)
                all_goals
                  refine AW_ret (end_x [500] [] (by simp [List.range_succ, lk_cons, lk_nil, upd_app]) (by simp) ?_)
                  simp (disch := omega) [wrap64, List.getElem?_eq_getElem, toNat_pred, DtUps.cells, DtUp.cells, take_map_n]
                  all_goals omega
theorem l18CopyX (u : DtUps) (hs : DtUps.sz u ≤ 1048576) : XCall Try.prog 60 [.agg (DtUps.cells u)] [] (.agg [(.g (.int .i64 (u.fEpoch))), .arr 16 0 u.fList.length]) [] [.own 3 (u.fList.map DtUp.cells)] := by
  have ⟨hl, hl2⟩ := upSz u hs
  refine xcall_of_walk Try.func60 (by rfl) (by rfl) (by rw [Try.ntmps60]; exact Nat.le_of_ble_eq_true rfl) rfl (by simp) rfl rfl ?_
  rw [Try.ntmps60]
  refine AW_x0   ?_
  refine AW_k [(0, _)] ⟨rfl, trivial⟩ ?_
  refine AW_x rfl rfl fun K hK => ?_
  simp (disch := omega) [wrap64, List.getElem?_eq_getElem, toNat_pred, DtUps.cells, DtUp.cells, take_map_n]
  repeat' first | (exfalso; omega) | (refine ⟨fun _ => ?_, fun _ => ?_⟩) | (refine ⟨by omega, ?_⟩) | (intro _)
  all_goals (refine hK _ ?_; clear hK K)
  all_goals
    refine AW_x rfl rfl fun K hK => ?_
    simp (disch := omega) [wrap64, List.getElem?_eq_getElem, toNat_pred, DtUps.cells, DtUp.cells, take_map_n]
    repeat' first | (exfalso; omega) | (refine ⟨fun _ => ?_, fun _ => ?_⟩) | (refine ⟨by omega, ?_⟩) | (intro _)
    all_goals (refine hK _ ?_; clear hK K)
    all_goals
      refine AW_seq ?_
      refine AW_x rfl rfl fun K hK => ?_
      simp (disch := omega) [wrap64, List.getElem?_eq_getElem, toNat_pred, DtUps.cells, DtUp.cells, take_map_n]
      repeat' first | (exfalso; omega) | (refine ⟨fun _ => ?_, fun _ => ?_⟩) | (refine ⟨by omega, ?_⟩) | (intro _)
      all_goals (refine hK _ ?_; clear hK K)
      all_goals
        refine AW_block ?_
        refine AW_loopS (fun mM sS => ∃ (i : Nat), mM = u.fList.length - i ∧ (i ≤ u.fList.length) ∧ sS = { env := lkE [(1, .ptr 32 0), (2, .ptr 48 0), (3, .ptr 64 0), (4, (.g (.int .i64 ((i : Nat)))))], ob := lk [(32, .cells (DtUps.cells u)), (48, .cells [(.g (.int .i64 (0))), .g (.slice none 0 0)]), (64, .cells [(.g (.int .i64 (u.fEpoch))), .arr 500 0 i]), (500, .own 3 ((u.fList.take i).map DtUp.cells))] }) ?_ ?_
        · refine ⟨_, LeS.trans (LeS.znc (cs := [(.g (.int .i64 (u.fEpoch))), .g (.slice none 0 0)]) 500 3 64 1 (by simp [upd_app, lk_cons, lk_nil, lkE_app]) (by simp [upd_app, lk_cons, lk_nil, lkE_app, DtUps.cells, DtUp.cells]) (by rfl)) (LeS.kx [(32, 32), (48, 48), (64, 64), (500, 500)] [(1, .ptr 32 0), (2, .ptr 48 0), (3, .ptr 64 0), (4, (.g (.int .i64 (((0) : Nat)))))] [(32, .cells (DtUps.cells u)), (48, .cells [(.g (.int .i64 (0))), .g (.slice none 0 0)]), (64, .cells [(.g (.int .i64 (u.fEpoch))), .arr 500 0 (0)]), (500, .own 3 ((u.fList.take (0)).map DtUp.cells))] (by simp [KpR, renV2, renV, upd_app, lkE_app, lk_cons, lk_nil, DtUps.cells, DtUp.cells]; try rfl) (by simp [KpOX, renO, plO, cvO, renV, pl1, lk_cons, lk_nil, upd_app, DtUps.cells, DtUp.cells]; try (first | rfl | (rw [htk]; rfl))) (by rfl) (by simp) (by simp) (by rfl) (by simp [formsX, List.range_succ, lk_cons, lk_nil])), _, 0, rfl, ?_, rfl⟩
          · simp
        · rintro mM sS ⟨i, rfl, hi, rfl⟩
          refine AW_seq ?_
          refine AW_x rfl rfl fun K hK => ?_
          simp (disch := omega) [wrap64, List.getElem?_eq_getElem, toNat_pred, DtUps.cells, DtUp.cells, take_map_n]
          repeat' first | (exfalso; omega) | (refine ⟨fun _ => ?_, fun _ => ?_⟩) | (refine ⟨by omega, ?_⟩) | (intro _)
          all_goals (refine hK _ ?_; clear hK K)
          all_goals
            refine AW_cond rfl (fun hc2 => ?_) (fun hc2 => ?_)
            · try simp at hc2
              all_goals
                have hn2 := hl2 i (by omega)
                have htk := tkm_s DtUp.cells u.fList i (by omega)
                refine AW_skip ?_
                refine AW_id ?_
                refine AW_seq ?_
                refine AW_block ?_
                refine AW_x rfl rfl fun K hK => ?_
                simp (disch := omega) [wrap64, List.getElem?_eq_getElem, toNat_pred, DtUps.cells, DtUp.cells, take_map_n]
                repeat' first | (exfalso; omega) | (refine ⟨fun _ => ?_, fun _ => ?_⟩) | (refine ⟨by omega, ?_⟩) | (intro _)
                all_goals (refine hK _ ?_; clear hK K)
                all_goals
                  refine AW_x rfl rfl fun K hK => ?_
                  simp (disch := omega) [wrap64, List.getElem?_eq_getElem, toNat_pred, DtUps.cells, DtUp.cells, take_map_n]
                  repeat' first | (exfalso; omega) | (refine ⟨fun _ => ?_, fun _ => ?_⟩) | (refine ⟨by omega, ?_⟩) | (intro _)
                  all_goals (refine hK _ ?_; clear hK K)
                  all_goals
                    refine AW_xe rfl rfl fun K hK => ?_
                    simp (disch := omega) [wrap64, List.getElem?_eq_getElem, toNat_pred, DtUps.cells, DtUp.cells, take_map_n]
                    repeat' first | (exfalso; omega) | (refine ⟨fun _ => ?_, fun _ => ?_⟩) | (refine ⟨by omega, ?_⟩) | (intro _)
                    all_goals (refine hK _ ?_; clear hK K)
                    all_goals
                      refine AW_id ?_
                      refine AW_xe rfl rfl fun K hK => ?_
                      simp (disch := omega) [wrap64, List.getElem?_eq_getElem, toNat_pred, DtUps.cells, DtUp.cells, take_map_n]
                      repeat' first | (exfalso; omega) | (refine ⟨fun _ => ?_, fun _ => ?_⟩) | (refine ⟨by omega, ?_⟩) | (intro _)
                      all_goals (refine hK _ ?_; clear hK K)
                      all_goals
                        refine ⟨_, LeS.kx [(32, 32), (48, 48), (64, 64), (500, 496)] [(1, .ptr 32 0), (2, .ptr 48 0), (3, .ptr 64 0), (4, (.g (.int .i64 (((i + 1) : Nat)))))] [(32, .cells (DtUps.cells u)), (48, .cells [(.g (.int .i64 (0))), .g (.slice none 0 0)]), (64, .cells [(.g (.int .i64 (u.fEpoch))), .arr 500 0 (i + 1)]), (500, .own 3 ((u.fList.take (i + 1)).map DtUp.cells))] (by simp [KpR, renV2, renV, upd_app, lkE_app, lk_cons, lk_nil, DtUps.cells, DtUp.cells]; try rfl) (by simp [KpOX, renO, plO, cvO, renV, pl1, lk_cons, lk_nil, upd_app, DtUps.cells, DtUp.cells]; try (first | rfl | (rw [htk]; rfl))) (by rfl) (by simp) (by simp) (by rfl) (by simp [formsX, List.range_succ, lk_cons, lk_nil]), _, ?_, i + 1, rfl, ?_, rfl⟩
                        · omega
                        · omega
            · try simp at hc2
              all_goals
                refine AW_exit ?_
                refine AW_id ?_
                refine AW_x rfl rfl fun K hK => ?_
                simp (disch := omega) [wrap64, List.getElem?_eq_getElem, toNat_pred, DtUps.cells, DtUp.cells, take_map_n]
                repeat' first | (exfalso; omega) | (refine ⟨fun _ => ?_, fun _ => ?_⟩) | (refine ⟨by omega, ?_⟩) | (intro _)
                all_goals (refine hK _ ?_; clear hK K)
                all_goals
                  refine AW_ret (end_x [500] [] (by simp [List.range_succ, lk_cons, lk_nil, upd_app]) (by simp) ?_)
                  simp (disch := omega) [wrap64, List.getElem?_eq_getElem, toNat_pred, DtUps.cells, DtUp.cells, take_map_n]
                  all_goals omega
end Go.Proofs.Ytcedomdpbgjbpaa.Vs
