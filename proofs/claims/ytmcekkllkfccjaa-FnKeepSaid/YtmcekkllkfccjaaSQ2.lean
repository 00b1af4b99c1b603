import Derived.Test.YtmcekkllkfccjaaSKP
open Go Go.Proofs Go.Proofs.Ytmcekkllkfccjaa.Vs
namespace Go.Proofs.Ytmcekkllkfccjaa.Vs
set_option linter.unusedVariables false
set_option linter.unusedSimpArgs false
set_option linter.unusedSectionVars false
set_option linter.unnecessarySimpa false
set_option linter.all false
set_option linter.unusedSimpArgs false
set_option linter.unusedVariables false
set_option maxRecDepth 100000
theorem sameInts (xs : List Int) (hs : xs.length ≤ 1048576) : PCall Try.prog 24 [.sl 1 (xs.map cI), .sl 1 (xs.map cI)] (.g (.bool (true))) := by
  refine gcall_of_walk Try.func24 (by rfl) (by rfl) (by rw [Try.ntmps24]; exact Nat.le_of_ble_eq_true rfl) rfl (by decide) ?_
  rw [Try.ntmps24]
  refine AW_k [(0, _), (1, _)] ⟨rfl, rfl, trivial⟩ ?_
  refine AW_r rfl rfl fun K hK => ?_
  simp (disch := omega) [wrap64, List.getElem?_eq_getElem, toNat_pred, cI, cB]
  repeat' first | (exfalso; omega) | (refine ⟨fun _ => ?_, fun _ => ?_⟩) | (refine ⟨by omega, ?_⟩) | (intro _)
  all_goals (refine hK _ ?_; clear hK K)
  all_goals
    refine AW_seq ?_
    refine AW_r rfl rfl fun K hK => ?_
    simp (disch := omega) [wrap64, List.getElem?_eq_getElem, toNat_pred, cI, cB]
    repeat' first | (exfalso; omega) | (refine ⟨fun _ => ?_, fun _ => ?_⟩) | (refine ⟨by omega, ?_⟩) | (intro _)
    all_goals (refine hK _ ?_; clear hK K)
    all_goals
      refine AW_cond rfl (fun hc1 => ?_) (fun hc1 => ?_)
      · try simp at hc1
        all_goals
          refine AW_r rfl rfl fun K hK => ?_
          simp (disch := omega) [wrap64, List.getElem?_eq_getElem, toNat_pred, cI, cB]
          repeat' first | (exfalso; omega) | (refine ⟨fun _ => ?_, fun _ => ?_⟩) | (refine ⟨by omega, ?_⟩) | (intro _)
          all_goals (refine hK _ ?_; clear hK K)
          all_goals
            refine AW_ret (end_s ?_)
            simp (disch := omega) [wrap64, List.getElem?_eq_getElem, toNat_pred, cI, cB]
            all_goals first | rfl | (simp_all; done) | trace_state
      · try simp at hc1
        all_goals
          refine AW_skip ?_
          refine AW_id ?_
          refine AW_seq ?_
          refine AW_r rfl rfl fun K hK => ?_
          simp (disch := omega) [wrap64, List.getElem?_eq_getElem, toNat_pred, cI, cB]
          repeat' first | (exfalso; omega) | (refine ⟨fun _ => ?_, fun _ => ?_⟩) | (refine ⟨by omega, ?_⟩) | (intro _)
          all_goals (refine hK _ ?_; clear hK K)
          all_goals
            refine AW_block ?_
            refine AW_loopS (fun mM sS => ∃ (i : Nat), mM = xs.length - i ∧ (i ≤ xs.length) ∧ sS = { env := lkE [(0, .sl 1 (xs.map cI)), (1, .sl 1 (xs.map cI)), (5, (.g (.int .i64 ((i : Nat)))))], ob := lk [] }) ?_ ?_
            · refine ⟨_, LeS.ko [(0, .sl 1 (xs.map cI)), (1, .sl 1 (xs.map cI)), (5, (.g (.int .i64 (((0) : Nat)))))] [] (by simp [KpE, upd_app, lkE_app, lk_cons]; try rfl) (by simp [KpO, upd_app, lk_cons, lk_nil, formOb_nn]; try rfl) (by rfl) (by simp) (by rfl), _, 0, rfl, ?_, rfl⟩
              · simp
            · rintro mM sS ⟨i, rfl, hi, rfl⟩
              refine AW_seq ?_
              refine AW_r rfl rfl fun K hK => ?_
              simp (disch := omega) [wrap64, List.getElem?_eq_getElem, toNat_pred, cI, cB]
              repeat' first | (exfalso; omega) | (refine ⟨fun _ => ?_, fun _ => ?_⟩) | (refine ⟨by omega, ?_⟩) | (intro _)
              all_goals (refine hK _ ?_; clear hK K)
              all_goals
                refine AW_cond rfl (fun hc2 => ?_) (fun hc2 => ?_)
                · try simp at hc2
                  all_goals
                    refine AW_skip ?_
                    refine AW_id ?_
                    refine AW_seq ?_
                    refine AW_block ?_
                    refine AW_q rfl mix (by kernel_rfl) rfl fun K hK => ?_
                    simp (disch := omega) [wrap64, List.getElem?_eq_getElem, toNat_pred, cI, cB]
                    repeat' first | (exfalso; omega) | (refine ⟨fun _ => ?_, fun _ => ?_⟩) | (refine ⟨by omega, ?_⟩) | (intro _)
                    all_goals (refine hK _ ?_; clear hK K)
                    all_goals
                      refine AW_cond rfl (fun hc3 => ?_) (fun hc3 => ?_)
                      · try simp at hc3
                        all_goals
                          refine AW_r rfl rfl fun K hK => ?_
                          simp (disch := omega) [wrap64, List.getElem?_eq_getElem, toNat_pred, cI, cB]
                          repeat' first | (exfalso; omega) | (refine ⟨fun _ => ?_, fun _ => ?_⟩) | (refine ⟨by omega, ?_⟩) | (intro _)
                          all_goals (refine hK _ ?_; clear hK K)
                          all_goals
                            refine AW_ret (end_s ?_)
                            simp (disch := omega) [wrap64, List.getElem?_eq_getElem, toNat_pred, cI, cB]
                            all_goals first | rfl | (simp_all; done) | trace_state
                      · try simp at hc3
                        all_goals
                          refine AW_skip ?_
                          refine AW_id ?_
                          refine AW_re rfl rfl fun K hK => ?_
                          simp (disch := omega) [wrap64, List.getElem?_eq_getElem, toNat_pred, cI, cB]
                          repeat' first | (exfalso; omega) | (refine ⟨fun _ => ?_, fun _ => ?_⟩) | (refine ⟨by omega, ?_⟩) | (intro _)
                          all_goals (refine hK _ ?_; clear hK K)
                          all_goals
                            refine ⟨_, LeS.ko [(0, .sl 1 (xs.map cI)), (1, .sl 1 (xs.map cI)), (5, (.g (.int .i64 (((i + 1) : Nat)))))] [] (by simp [KpE, upd_app, lkE_app, lk_cons]; try rfl) (by simp [KpO, upd_app, lk_cons, lk_nil, formOb_nn]; try rfl) (by rfl) (by simp) (by rfl), _, ?_, i + 1, rfl, ?_, rfl⟩
                            · omega
                            · omega
                · try simp at hc2
                  all_goals
                    refine AW_exit ?_
                    refine AW_id ?_
                    refine AW_r rfl rfl fun K hK => ?_
                    simp (disch := omega) [wrap64, List.getElem?_eq_getElem, toNat_pred, cI, cB]
                    repeat' first | (exfalso; omega) | (refine ⟨fun _ => ?_, fun _ => ?_⟩) | (refine ⟨by omega, ?_⟩) | (intro _)
                    all_goals (refine hK _ ?_; clear hK K)
                    all_goals
                      refine AW_ret (end_s ?_)
                      simp (disch := omega) [wrap64, List.getElem?_eq_getElem, toNat_pred, cI, cB]
                      all_goals first | rfl | (simp_all; done) | trace_state
theorem specKeptX (l : List Int) (r : DtRule) (hl : l.length ≤ 1048576) : XCall Try.prog 25 [.sl 1 (l.map cI), .agg (DtRule.cells r)] [] (.arr 16 0 (keptL l r).length) [] [.own 1 ((keptL l r).map cI)] := by
  have hkl := keepL_len l r
  refine xcall_of_walk Try.func25 (by rfl) (by rfl) (by rw [Try.ntmps25]; exact Nat.le_of_ble_eq_true rfl) rfl (by simp) rfl rfl ?_
  rw [Try.ntmps25]
  refine AW_x0   ?_
  refine AW_k [(0, _), (1, _)] ⟨rfl, rfl, trivial⟩ ?_
  refine AW_x rfl rfl fun K hK => ?_
  simp (disch := omega) [wrap64, List.getElem?_eq_getElem, toNat_pred, cI, cB, DtRule.cells, take_map_n]
  repeat' first | (exfalso; omega) | (refine ⟨fun _ => ?_, fun _ => ?_⟩) | (refine ⟨by omega, ?_⟩) | (intro _)
  all_goals (refine hK _ ?_; clear hK K)
  all_goals
    refine AW_x rfl rfl fun K hK => ?_
    simp (disch := omega) [wrap64, List.getElem?_eq_getElem, toNat_pred, cI, cB, DtRule.cells, take_map_n]
    repeat' first | (exfalso; omega) | (refine ⟨fun _ => ?_, fun _ => ?_⟩) | (refine ⟨by omega, ?_⟩) | (intro _)
    all_goals (refine hK _ ?_; clear hK K)
    all_goals
      refine AW_x rfl rfl fun K hK => ?_
      simp (disch := omega) [wrap64, List.getElem?_eq_getElem, toNat_pred, cI, cB, DtRule.cells, take_map_n]
      repeat' first | (exfalso; omega) | (refine XKd_v (am2s_cons am2_sl (am2s_cons (am2_agg rfl) am2s_nil)) (specKeep l r (by omega)) rfl ?_; simp (disch := omega) [wrap64, List.getElem?_eq_getElem, toNat_pred, cI, cB, DtRule.cells, take_map_n]) | (refine XKd_p (specKeep l r (by omega)) (by rfl) ?_ ?_; (focus (simp (disch := omega) [wrap64, List.getElem?_eq_getElem, toNat_pred, cI, cB, DtRule.cells, take_map_n, take_map_n]; done)); simp (disch := omega) [wrap64, List.getElem?_eq_getElem, toNat_pred, cI, cB, DtRule.cells, take_map_n]) | (refine ⟨fun _ => ?_, fun _ => ?_⟩) | (refine ⟨by omega, ?_⟩) | (intro _)
      all_goals (refine hK _ ?_; clear hK K)
      all_goals
        refine AW_seq ?_
        refine AW_x rfl rfl fun K hK => ?_
        simp (disch := omega) [wrap64, List.getElem?_eq_getElem, toNat_pred, cI, cB, DtRule.cells, take_map_n]
        repeat' first | (exfalso; omega) | (refine ⟨fun _ => ?_, fun _ => ?_⟩) | (refine ⟨by omega, ?_⟩) | (intro _)
        all_goals (refine hK _ ?_; clear hK K)
        all_goals
          refine AW_block ?_
          refine AW_loopS (fun mM sS => ∃ (i : Nat), mM = (keepL l r).length - i ∧ (i ≤ (keepL l r).length) ∧ sS = { env := lkE [(0, .sl 1 (l.map cI)), (5, .arr 144 0 (kt (keepL l r) l i).length), (6, .sl 1 ((keepL l r).map cB)), (7, (.g (.int .i64 ((i : Nat)))))], ob := lk [(144, .flat 1 ((kt (keepL l r) l i).map cI))] }) ?_ ?_
          · refine ⟨_, LeS.kx [(144, 144)] [(0, .sl 1 (l.map cI)), (5, .arr 144 0 (kt (keepL l r) l (0)).length), (6, .sl 1 ((keepL l r).map cB)), (7, (.g (.int .i64 (((0) : Nat)))))] [(144, .flat 1 ((kt (keepL l r) l (0)).map cI))] (by simp [KpR, renV2, renV, upd_app, lkE_app, lk_cons, lk_nil, kt_0, cI, take_map_n]; try (first | rfl | (rw [hs]; simp_all; done))) (by simp [KpOX, renO, plO, cvO, renV, pl1, lk_cons, lk_nil, upd_app, kt_0, cI, take_map_n]; try (first | rfl | (rw [hs, List.take_of_length_le (by simp)]; simp_all [cI]; done) | (rw [hs]; simp_all [cI]; done))) (by rfl) (by simp) (by simp) (by rfl) (by simp [formsX, List.range_succ, lk_cons, lk_nil]), _, 0, rfl, ?_, rfl⟩
            · simp
          · rintro mM sS ⟨i, rfl, hi, rfl⟩
            have hkn := kt_len (keepL l r) l i
            have hkl := keepL_len l r
            refine AW_seq ?_
            refine AW_x rfl rfl fun K hK => ?_
            simp (disch := omega) [wrap64, List.getElem?_eq_getElem, toNat_pred, cI, cB, DtRule.cells, take_map_n]
            repeat' first | (exfalso; omega) | (refine ⟨fun _ => ?_, fun _ => ?_⟩) | (refine ⟨by omega, ?_⟩) | (intro _)
            all_goals (refine hK _ ?_; clear hK K)
            all_goals
              refine AW_cond rfl (fun hc4 => ?_) (fun hc4 => ?_)
              · try simp [decB_true, decB_false] at hc4
                all_goals
                  have hs := kt_s (keepL l r) l i (by omega) (by omega)
                  refine AW_skip ?_
                  refine AW_id ?_
                  refine AW_seq ?_
                  refine AW_block ?_
                  refine AW_x rfl rfl fun K hK => ?_
                  simp (disch := omega) [wrap64, List.getElem?_eq_getElem, toNat_pred, cI, cB, DtRule.cells, take_map_n]
                  repeat' first | (exfalso; omega) | (refine ⟨fun _ => ?_, fun _ => ?_⟩) | (refine ⟨by omega, ?_⟩) | (intro _)
                  all_goals (refine hK _ ?_; clear hK K)
                  all_goals
                    refine AW_cond rfl (fun hc5 => ?_) (fun hc5 => ?_)
                    · try simp [decB_true, decB_false] at hc5
                      all_goals
                        refine AW_xe rfl rfl fun K hK => ?_
                        simp (disch := omega) [wrap64, List.getElem?_eq_getElem, toNat_pred, cI, cB, DtRule.cells, take_map_n]
                        repeat' first | (exfalso; omega) | (refine ⟨fun _ => ?_, fun _ => ?_⟩) | (refine ⟨by omega, ?_⟩) | (intro _)
                        all_goals (refine hK _ ?_; clear hK K)
                        all_goals
                          refine AW_id ?_
                          refine AW_xe rfl rfl fun K hK => ?_
                          simp (disch := omega) [wrap64, List.getElem?_eq_getElem, toNat_pred, cI, cB, DtRule.cells, take_map_n]
                          repeat' first | (exfalso; omega) | (refine ⟨fun _ => ?_, fun _ => ?_⟩) | (refine ⟨by omega, ?_⟩) | (intro _)
                          all_goals (refine hK _ ?_; clear hK K)
                          all_goals
                            refine ⟨_, LeS.kx [(144, 464)] [(0, .sl 1 (l.map cI)), (5, .arr 144 0 (kt (keepL l r) l (i + 1)).length), (6, .sl 1 ((keepL l r).map cB)), (7, (.g (.int .i64 (((i + 1) : Nat)))))] [(144, .flat 1 ((kt (keepL l r) l (i + 1)).map cI))] (by simp [KpR, renV2, renV, upd_app, lkE_app, lk_cons, lk_nil, kt_0, cI, take_map_n]; try (first | rfl | (rw [hs]; simp_all; done))) (by simp [KpOX, renO, plO, cvO, renV, pl1, lk_cons, lk_nil, upd_app, kt_0, cI, take_map_n]; try (first | rfl | (rw [hs, List.take_of_length_le (by simp)]; simp_all [cI]; done) | (rw [hs]; simp_all [cI]; done))) (by rfl) (by simp) (by simp) (by rfl) (by simp [formsX, List.range_succ, lk_cons, lk_nil]), _, ?_, i + 1, rfl, ?_, rfl⟩
                            · omega
                            · omega
                    · try simp [decB_true, decB_false] at hc5
                      all_goals
                        refine AW_skip ?_
                        refine AW_id ?_
                        refine AW_xe rfl rfl fun K hK => ?_
                        simp (disch := omega) [wrap64, List.getElem?_eq_getElem, toNat_pred, cI, cB, DtRule.cells, take_map_n]
                        repeat' first | (exfalso; omega) | (refine ⟨fun _ => ?_, fun _ => ?_⟩) | (refine ⟨by omega, ?_⟩) | (intro _)
                        all_goals (refine hK _ ?_; clear hK K)
                        all_goals
                          refine ⟨_, LeS.kx [(144, 144)] [(0, .sl 1 (l.map cI)), (5, .arr 144 0 (kt (keepL l r) l (i + 1)).length), (6, .sl 1 ((keepL l r).map cB)), (7, (.g (.int .i64 (((i + 1) : Nat)))))] [(144, .flat 1 ((kt (keepL l r) l (i + 1)).map cI))] (by simp [KpR, renV2, renV, upd_app, lkE_app, lk_cons, lk_nil, kt_0, cI, take_map_n]; try (first | rfl | (rw [hs]; simp_all; done))) (by simp [KpOX, renO, plO, cvO, renV, pl1, lk_cons, lk_nil, upd_app, kt_0, cI, take_map_n]; try (first | rfl | (rw [hs, List.take_of_length_le (by simp)]; simp_all [cI]; done) | (rw [hs]; simp_all [cI]; done))) (by rfl) (by simp) (by simp) (by rfl) (by simp [formsX, List.range_succ, lk_cons, lk_nil]), _, ?_, i + 1, rfl, ?_, rfl⟩
                          · omega
                          · omega
              · try simp [decB_true, decB_false] at hc4
                all_goals
                  refine AW_exit ?_
                  refine AW_id ?_
                  refine AW_x rfl rfl fun K hK => ?_
                  simp (disch := omega) [wrap64, List.getElem?_eq_getElem, toNat_pred, cI, cB, DtRule.cells, take_map_n]
                  repeat' first | (exfalso; omega) | (refine ⟨fun _ => ?_, fun _ => ?_⟩) | (refine ⟨by omega, ?_⟩) | (intro _)
                  all_goals (refine hK _ ?_; clear hK K)
                  all_goals
                    refine AW_ret (end_x [144] [] (by simp [List.range_succ, lk_cons, lk_nil, upd_app]) (by simp) ?_)
                    simp (disch := omega) [wrap64, List.getElem?_eq_getElem, toNat_pred, cI, cB, DtRule.cells, take_map_n]
                    all_goals (have e : i = (keepL l r).length := by omega); subst e; first | (simp [keptL]; done) | (rw [List.take_of_length_le (by simp)]; rfl) | trace_state
theorem keepL_no {l : List Int} {r : DtRule} (h : ¬ KOk l r) : keepL l r = [] ∧ keptL l r = [] := by
  have := keepL_f (decB_f h)
  refine ⟨this, ?_⟩
  unfold keptL
  rw [this]; rfl
theorem mul_bd {a b : Int} (h1 : 0 ≤ a) (h2 : a ≤ 30) (h3 : 0 ≤ b) (h4 : b ≤ 30) : 0 ≤ a * b ∧ a * b ≤ 900 := by
  refine ⟨Int.mul_nonneg h1 h3, ?_⟩
  have := Int.mul_le_mul h2 h4 h3 (by omega)
  omega
set_option maxHeartbeats 4000000 in
theorem lawKeepX (l : List Int) (hw : l.length < 9223372036854775808) : XCall Try.prog 4 [.sl 1 (l.map cU)] [] (.g (.bool (true))) [] [] := by
  refine xcall_of_walk Try.func4 (by rfl) (by rfl) (by rw [Try.ntmps4]; exact Nat.le_of_ble_eq_true rfl) rfl (by simp) rfl rfl ?_
  rw [Try.ntmps4]
  refine AW_x0   ?_
  refine AW_k [(0, _)] ⟨rfl, trivial⟩ ?_
  refine AW_x rfl rfl fun K hK => ?_
  simp (disch := omega) [wrap64, List.getElem?_eq_getElem, toNat_pred, cI, cB, cU, DtRule.cells, take_map_n, decB_true, decB_false]
  repeat' first | (exfalso; omega) | (refine ⟨fun _ => ?_, fun _ => ?_⟩) | (refine ⟨by omega, ?_⟩) | (intro _)
  all_goals (refine hK _ ?_; clear hK K)
  all_goals
    refine AW_seq ?_
    refine AW_x rfl rfl fun K hK => ?_
    simp (disch := omega) [wrap64, List.getElem?_eq_getElem, toNat_pred, cI, cB, cU, DtRule.cells, take_map_n, decB_true, decB_false]
    repeat' first | (exfalso; omega) | (refine XKd_v (am2s_cons am2_sl am2s_nil) (big _ (by omega)) rfl ?_; simp (disch := omega) [wrap64, List.getElem?_eq_getElem, toNat_pred, cI, cB, cU, DtRule.cells, take_map_n, decB_true, decB_false]) | (refine XKd_p (big _ (by omega)) (by rfl) ?_ ?_; (focus (simp (disch := omega) [wrap64, List.getElem?_eq_getElem, toNat_pred, cI, cB, cU, DtRule.cells, take_map_n, decB_true, decB_false, take_map_n]; done)); simp (disch := omega) [wrap64, List.getElem?_eq_getElem, toNat_pred, cI, cB, cU, DtRule.cells, take_map_n, decB_true, decB_false]) | (refine ⟨fun _ => ?_, fun _ => ?_⟩) | (refine ⟨by omega, ?_⟩) | (intro _)
    all_goals (refine hK _ ?_; clear hK K)
    all_goals
      refine AW_cond rfl (fun hc6 => ?_) (fun hc6 => ?_)
      · try simp [decB_true, decB_false] at hc6
        all_goals
          refine AW_x rfl rfl fun K hK => ?_
          simp (disch := omega) [wrap64, List.getElem?_eq_getElem, toNat_pred, cI, cB, cU, DtRule.cells, take_map_n, decB_true, decB_false]
          repeat' first | (exfalso; omega) | (refine ⟨fun _ => ?_, fun _ => ?_⟩) | (refine ⟨by omega, ?_⟩) | (intro _)
          all_goals (refine hK _ ?_; clear hK K)
          all_goals
            refine AW_ret (end_x [] [] (by simp [List.range_succ, lk_cons, lk_nil, upd_app]) (by simp) ?_)
            simp (disch := omega) [wrap64, List.getElem?_eq_getElem, toNat_pred, cI, cB, cU, DtRule.cells, take_map_n, decB_true, decB_false]
            all_goals first | rfl | omega | (simp_all; done) | trace_state
      · try simp [decB_true, decB_false] at hc6
        all_goals
          refine AW_skip ?_
          refine AW_id ?_
          refine AW_x rfl rfl fun K hK => ?_
          simp (disch := omega) [wrap64, List.getElem?_eq_getElem, toNat_pred, cI, cB, cU, DtRule.cells, take_map_n, decB_true, decB_false]
          repeat' first | (exfalso; omega) | (refine XKd_e [] false [] (DrawKeep l (by unfold Code; omega)) ?_ ?_ ?_; (focus (simp [List.range_succ, nmC]; done)); (focus (simp (disch := omega) [wrap64, List.getElem?_eq_getElem, toNat_pred, cI, cB, cU, DtRule.cells, take_map_n, decB_true, decB_false, take_map_n]; done)); rintro _ _ _ ⟨xs, ru, hx, rfl, rfl, rfl⟩; refine ⟨⟨by first | rfl | (simp; done), by first | rfl | (simp; done)⟩, ?_⟩; have hkl := keptL_len xs ru; have hno := @keepL_no xs ru; have hke := keepL_len xs ru; simp (disch := omega) [wrap64, List.getElem?_eq_getElem, toNat_pred, cI, cB, cU, DtRule.cells, take_map_n, decB_true, decB_false]) | (refine ⟨fun _ => ?_, fun _ => ?_⟩) | (refine ⟨by omega, ?_⟩) | (intro _)
          all_goals (refine hK _ ?_; clear hK K)
          all_goals
            refine AW_x rfl rfl fun K hK => ?_
            simp (disch := omega) [wrap64, List.getElem?_eq_getElem, toNat_pred, cI, cB, cU, DtRule.cells, take_map_n, decB_true, decB_false]
            repeat' first | (exfalso; omega) | (refine XKd_x [] true [] (implKeep xs ru (by omega)) ?_ ?_ ?_; (focus (simp [List.range_succ, nmC]; done)); (focus (simp (disch := omega) [wrap64, List.getElem?_eq_getElem, toNat_pred, cI, cB, cU, DtRule.cells, take_map_n, decB_true, decB_false, take_map_n]; done)); simp (disch := omega) [wrap64, List.getElem?_eq_getElem, toNat_pred, cI, cB, cU, DtRule.cells, take_map_n, decB_true, decB_false]) | (refine XKd_x [] true [] (implKeep xs { ru with fLast := ru.fLast + 1 } (by omega)) ?_ ?_ ?_; (focus (simp [List.range_succ, nmC]; done)); (focus (simp (disch := omega) [wrap64, List.getElem?_eq_getElem, toNat_pred, cI, cB, cU, DtRule.cells, take_map_n, decB_true, decB_false, take_map_n]; done)); simp (disch := omega) [wrap64, List.getElem?_eq_getElem, toNat_pred, cI, cB, cU, DtRule.cells, take_map_n, decB_true, decB_false]) | (refine ⟨fun _ => ?_, fun _ => ?_⟩) | (refine ⟨by omega, ?_⟩) | (intro _)
            all_goals (refine hK _ ?_; clear hK K)
            all_goals
              refine AW_x rfl rfl fun K hK => ?_
              simp (disch := omega) [wrap64, List.getElem?_eq_getElem, toNat_pred, cI, cB, cU, DtRule.cells, take_map_n, decB_true, decB_false]
              repeat' first | (exfalso; omega) | (refine XKd_x [] true [] (implKept xs ru (by omega)) ?_ ?_ ?_; (focus (simp [List.range_succ, nmC]; done)); (focus (simp (disch := omega) [wrap64, List.getElem?_eq_getElem, toNat_pred, cI, cB, cU, DtRule.cells, take_map_n, decB_true, decB_false, take_map_n]; done)); simp (disch := omega) [wrap64, List.getElem?_eq_getElem, toNat_pred, cI, cB, cU, DtRule.cells, take_map_n, decB_true, decB_false]) | (refine ⟨fun _ => ?_, fun _ => ?_⟩) | (refine ⟨by omega, ?_⟩) | (intro _)
              all_goals (refine hK _ ?_; clear hK K)
              all_goals
                refine AW_seq ?_
                refine AW_x rfl rfl fun K hK => ?_
                simp (disch := omega) [wrap64, List.getElem?_eq_getElem, toNat_pred, cI, cB, cU, DtRule.cells, take_map_n, decB_true, decB_false]
                repeat' first | (exfalso; omega) | (refine XKd_v (am2s_cons am2_sl (am2s_cons (am2_agg rfl) am2s_nil)) (specKeepOk xs ru (by omega)) rfl ?_; simp (disch := omega) [wrap64, List.getElem?_eq_getElem, toNat_pred, cI, cB, cU, DtRule.cells, take_map_n, decB_true, decB_false]) | (refine XKd_p (specKeepOk xs ru (by omega)) (by rfl) ?_ ?_; (focus (simp (disch := omega) [wrap64, List.getElem?_eq_getElem, toNat_pred, cI, cB, cU, DtRule.cells, take_map_n, decB_true, decB_false, take_map_n]; done)); simp (disch := omega) [wrap64, List.getElem?_eq_getElem, toNat_pred, cI, cB, cU, DtRule.cells, take_map_n, decB_true, decB_false]) | (refine ⟨fun _ => ?_, fun _ => ?_⟩) | (refine ⟨by omega, ?_⟩) | (intro _)
                all_goals (refine hK _ ?_; clear hK K)
                all_goals
                  refine AW_cond rfl (fun hc7 => ?_) (fun hc7 => ?_)
                  · try simp [decB_true, decB_false] at hc7
                    all_goals
                      refine AW_x rfl rfl fun K hK => ?_
                      simp (disch := omega) [wrap64, List.getElem?_eq_getElem, toNat_pred, cI, cB, cU, DtRule.cells, take_map_n, decB_true, decB_false]
                      repeat' first | (exfalso; omega) | (refine XKd_v (am2s_cons am2_sl (am2s_cons (am2_agg rfl) am2s_nil)) (implKeepOk xs ru (by omega)) rfl ?_; simp (disch := omega) [wrap64, List.getElem?_eq_getElem, toNat_pred, cI, cB, cU, DtRule.cells, take_map_n, decB_true, decB_false]) | (refine XKd_p (implKeepOk xs ru (by omega)) (by rfl) ?_ ?_; (focus (simp (disch := omega) [wrap64, List.getElem?_eq_getElem, toNat_pred, cI, cB, cU, DtRule.cells, take_map_n, decB_true, decB_false, take_map_n]; done)); simp (disch := omega) [wrap64, List.getElem?_eq_getElem, toNat_pred, cI, cB, cU, DtRule.cells, take_map_n, decB_true, decB_false]) | (refine ⟨fun _ => ?_, fun _ => ?_⟩) | (refine ⟨by omega, ?_⟩) | (intro _)
                      all_goals (refine hK _ ?_; clear hK K)
                      all_goals
                        refine AW_ret (end_x [] [] (by simp [List.range_succ, lk_cons, lk_nil, upd_app]) (by simp) ?_)
                        simp (disch := omega) [wrap64, List.getElem?_eq_getElem, toNat_pred, cI, cB, cU, DtRule.cells, take_map_n, decB_true, decB_false]
                        all_goals first | rfl | omega | (simp_all; done) | trace_state
                  · try simp [decB_true, decB_false] at hc7
                    all_goals
                      refine AW_skip ?_
                      refine AW_id ?_
                      refine AW_x rfl rfl fun K hK => ?_
                      simp (disch := omega) [wrap64, List.getElem?_eq_getElem, toNat_pred, cI, cB, cU, DtRule.cells, take_map_n, decB_true, decB_false]
                      repeat' first | (exfalso; omega) | (refine ⟨fun _ => ?_, fun _ => ?_⟩) | (refine ⟨by omega, ?_⟩) | (intro _)
                      all_goals (refine hK _ ?_; clear hK K)
                      all_goals
                        refine AW_seq ?_
                        refine AW_x rfl rfl fun K hK => ?_
                        simp (disch := omega) [wrap64, List.getElem?_eq_getElem, toNat_pred, cI, cB, cU, DtRule.cells, take_map_n, decB_true, decB_false]
                        repeat' first | (exfalso; omega) | (refine ⟨fun _ => ?_, fun _ => ?_⟩) | (refine ⟨by omega, ?_⟩) | (intro _)
                        all_goals (refine hK _ ?_; clear hK K)
                        all_goals
                          refine AW_block ?_
                          have hok : KOk xs ru := by first | assumption | simp_all
                          have hbd := hok
                          obtain ⟨-, -, ⟨b1, b2⟩, ⟨b3, b4⟩, ⟨b5, b6⟩⟩ := hbd
                          have hmul := mul_bd b3 b4 b5 b6
                          refine AW_loopS (fun mM sS => ∃ (i : Nat), mM = xs.length - i ∧ (i ≤ xs.length) ∧ sS = { env := lkE [(3, .arr 272 0 xs.length), (4, .ptr 80 0), (5, .arr 352 0 (keepL xs ru).length), (6, .arr 400 0 (keptL xs ru).length), (7, (.g (.int .i64 (((kt (keepL xs ru) xs i).length : Nat))))), (8, (.g (.int .i64 ((i : Nat)))))], ob := lk [(80, .cells (DtRule.cells ru)), (272, .own 1 (xs.map cI)), (352, .own 1 ((keepL xs ru).map cB)), (400, .own 1 ((keptL xs ru).map cI))] }) ?_ ?_
                          · refine ⟨_, LeS.kx [(80, 80), (272, 272), (352, 352), (400, 400)] [(3, .arr 272 0 xs.length), (4, .ptr 80 0), (5, .arr 352 0 (keepL xs ru).length), (6, .arr 400 0 (keptL xs ru).length), (7, (.g (.int .i64 (((kt (keepL xs ru) xs (0)).length : Nat))))), (8, (.g (.int .i64 (((0) : Nat)))))] [(80, .cells (DtRule.cells ru)), (272, .own 1 (xs.map cI)), (352, .own 1 ((keepL xs ru).map cB)), (400, .own 1 ((keptL xs ru).map cI))] (by simp [KpR, renV2, renV, upd_app, lkE_app, lk_cons, lk_nil, DtRule.cells, cB, cI, kt_0]; try (first | rfl | (simp_all; done) | (rw [hkt ‹_›]; simp; done) | (rw [hkf ‹_›]; done))) (by simp [KpOX, renO, plO, cvO, renV, pl1, lk_cons, lk_nil, upd_app, DtRule.cells, cB, cI, kt_0]; try rfl) (by rfl) (by simp) (by simp) (by rfl) (by simp [formsX, List.range_succ, lk_cons, lk_nil]), _, 0, rfl, ?_, rfl⟩
                            · simp
                          · rintro mM sS ⟨i, rfl, hi, rfl⟩
                            have hke := keepL_length hok
                            have hktl := kt_len (keepL xs ru) xs i
                            refine AW_seq ?_
                            refine AW_x rfl rfl fun K hK => ?_
                            simp (disch := omega) [wrap64, List.getElem?_eq_getElem, toNat_pred, cI, cB, cU, DtRule.cells, take_map_n, decB_true, decB_false]
                            repeat' first | (exfalso; omega) | (refine ⟨fun _ => ?_, fun _ => ?_⟩) | (refine ⟨by omega, ?_⟩) | (intro _)
                            all_goals (refine hK _ ?_; clear hK K)
                            all_goals
                              refine AW_cond rfl (fun hc8 => ?_) (fun hc8 => ?_)
                              · try simp [decB_true, decB_false] at hc8
                                all_goals
                                  have hlast : (xs.length : Int) - i ≤ ru.fLast → (keepL xs ru)[i]'(by omega) = true := by intro h; rw [keepL_at hok]; unfold kbN kb; simp only [Bool.or_eq_true, decide_eq_true_eq]; left; omega
                                  have hkt := kt_t (keepL xs ru) xs i (by omega) (by omega)
                                  have hkf := kt_f (keepL xs ru) xs i (by omega) (by omega)
                                  refine AW_skip ?_
                                  refine AW_id ?_
                                  refine AW_seq ?_
                                  refine AW_block ?_
                                  refine AW_seq ?_
                                  refine AW_x rfl rfl fun K hK => ?_
                                  simp (disch := omega) [wrap64, List.getElem?_eq_getElem, toNat_pred, cI, cB, cU, DtRule.cells, take_map_n, decB_true, decB_false]
                                  repeat' first | (exfalso; omega) | (refine ⟨fun _ => ?_, fun _ => ?_⟩) | (refine ⟨by omega, ?_⟩) | (intro _)
                                  all_goals (refine hK _ ?_; clear hK K)
                                  all_goals
                                    refine AW_cond rfl (fun hc9 => ?_) (fun hc9 => ?_)
                                    · try simp [decB_true, decB_false] at hc9
                                      all_goals
                                        refine AW_xe rfl rfl fun K hK => ?_
                                        simp (disch := omega) [wrap64, List.getElem?_eq_getElem, toNat_pred, cI, cB, cU, DtRule.cells, take_map_n, decB_true, decB_false]
                                        repeat' first | (exfalso; omega) | (refine ⟨fun _ => ?_, fun _ => ?_⟩) | (refine ⟨by omega, ?_⟩) | (intro _)
                                        all_goals (refine hK _ ?_; clear hK K)
                                        all_goals
                                          refine AW_id ?_
                                          refine AW_x rfl rfl fun K hK => ?_
                                          simp (disch := omega) [wrap64, List.getElem?_eq_getElem, toNat_pred, cI, cB, cU, DtRule.cells, take_map_n, decB_true, decB_false]
                                          repeat' first | (exfalso; omega) | (refine ⟨fun _ => ?_, fun _ => ?_⟩) | (refine ⟨by omega, ?_⟩) | (intro _)
                                          all_goals (refine hK _ ?_; clear hK K)
                                          all_goals
                                            refine AW_cond rfl (fun hc10 => ?_) (fun hc10 => ?_)
                                            · try simp [decB_true, decB_false] at hc10
                                              all_goals
                                                refine AW_x rfl rfl fun K hK => ?_
                                                simp (disch := omega) [wrap64, List.getElem?_eq_getElem, toNat_pred, cI, cB, cU, DtRule.cells, take_map_n, decB_true, decB_false]
                                                repeat' first | (exfalso; omega) | (refine ⟨fun _ => ?_, fun _ => ?_⟩) | (refine ⟨by omega, ?_⟩) | (intro _)
                                                all_goals (refine hK _ ?_; clear hK K)
                                                all_goals
                                                  refine AW_ret (end_x [] [] (by simp [List.range_succ, lk_cons, lk_nil, upd_app]) (by simp) ?_)
                                                  simp (disch := omega) [wrap64, List.getElem?_eq_getElem, toNat_pred, cI, cB, cU, DtRule.cells, take_map_n, decB_true, decB_false]
                                                  all_goals first | rfl | omega | (simp_all; done) | trace_state
                                            · try simp [decB_true, decB_false] at hc10
                                              all_goals
                                                refine AW_skip ?_
                                                refine AW_id ?_
                                                refine AW_xe rfl rfl fun K hK => ?_
                                                simp (disch := omega) [wrap64, List.getElem?_eq_getElem, toNat_pred, cI, cB, cU, DtRule.cells, take_map_n, decB_true, decB_false]
                                                repeat' first | (exfalso; omega) | (refine ⟨fun _ => ?_, fun _ => ?_⟩) | (refine ⟨by omega, ?_⟩) | (intro _)
                                                all_goals (refine hK _ ?_; clear hK K)
                                                all_goals
                                                  refine ⟨_, LeS.kx [(80, 80), (272, 272), (352, 352), (400, 400)] [(3, .arr 272 0 xs.length), (4, .ptr 80 0), (5, .arr 352 0 (keepL xs ru).length), (6, .arr 400 0 (keptL xs ru).length), (7, (.g (.int .i64 (((kt (keepL xs ru) xs (i + 1)).length : Nat))))), (8, (.g (.int .i64 (((i + 1) : Nat)))))] [(80, .cells (DtRule.cells ru)), (272, .own 1 (xs.map cI)), (352, .own 1 ((keepL xs ru).map cB)), (400, .own 1 ((keptL xs ru).map cI))] (by simp [KpR, renV2, renV, upd_app, lkE_app, lk_cons, lk_nil, DtRule.cells, cB, cI, kt_0]; try (first | rfl | (simp_all; done) | (rw [hkt ‹_›]; simp; done) | (rw [hkf ‹_›]; done))) (by simp [KpOX, renO, plO, cvO, renV, pl1, lk_cons, lk_nil, upd_app, DtRule.cells, cB, cI, kt_0]; try rfl) (by rfl) (by simp) (by simp) (by rfl) (by simp [formsX, List.range_succ, lk_cons, lk_nil]), _, ?_, i + 1, rfl, ?_, rfl⟩
                                                  · omega
                                                  · omega
                                    · try simp [decB_true, decB_false] at hc9
                                      all_goals
                                        refine AW_skip ?_
                                        refine AW_id ?_
                                        refine AW_x rfl rfl fun K hK => ?_
                                        simp (disch := omega) [wrap64, List.getElem?_eq_getElem, toNat_pred, cI, cB, cU, DtRule.cells, take_map_n, decB_true, decB_false]
                                        repeat' first | (exfalso; omega) | (refine ⟨fun _ => ?_, fun _ => ?_⟩) | (refine ⟨by omega, ?_⟩) | (intro _)
                                        all_goals (refine hK _ ?_; clear hK K)
                                        all_goals
                                          refine AW_cond rfl (fun hc11 => ?_) (fun hc11 => ?_)
                                          · try simp [decB_true, decB_false] at hc11
                                            all_goals
                                              refine AW_x rfl rfl fun K hK => ?_
                                              simp (disch := omega) [wrap64, List.getElem?_eq_getElem, toNat_pred, cI, cB, cU, DtRule.cells, take_map_n, decB_true, decB_false]
                                              repeat' first | (exfalso; omega) | (refine ⟨fun _ => ?_, fun _ => ?_⟩) | (refine ⟨by omega, ?_⟩) | (intro _)
                                              all_goals (refine hK _ ?_; clear hK K)
                                              all_goals
                                                refine AW_ret (end_x [] [] (by simp [List.range_succ, lk_cons, lk_nil, upd_app]) (by simp) ?_)
                                                simp (disch := omega) [wrap64, List.getElem?_eq_getElem, toNat_pred, cI, cB, cU, DtRule.cells, take_map_n, decB_true, decB_false]
                                                all_goals first | rfl | omega | (simp_all; done) | trace_state
                                          · try simp [decB_true, decB_false] at hc11
                                            all_goals
                                              refine AW_skip ?_
                                              refine AW_id ?_
                                              refine AW_xe rfl rfl fun K hK => ?_
                                              simp (disch := omega) [wrap64, List.getElem?_eq_getElem, toNat_pred, cI, cB, cU, DtRule.cells, take_map_n, decB_true, decB_false]
                                              repeat' first | (exfalso; omega) | (refine ⟨fun _ => ?_, fun _ => ?_⟩) | (refine ⟨by omega, ?_⟩) | (intro _)
                                              all_goals (refine hK _ ?_; clear hK K)
                                              all_goals
                                                refine ⟨_, LeS.kx [(80, 80), (272, 272), (352, 352), (400, 400)] [(3, .arr 272 0 xs.length), (4, .ptr 80 0), (5, .arr 352 0 (keepL xs ru).length), (6, .arr 400 0 (keptL xs ru).length), (7, (.g (.int .i64 (((kt (keepL xs ru) xs (i + 1)).length : Nat))))), (8, (.g (.int .i64 (((i + 1) : Nat)))))] [(80, .cells (DtRule.cells ru)), (272, .own 1 (xs.map cI)), (352, .own 1 ((keepL xs ru).map cB)), (400, .own 1 ((keptL xs ru).map cI))] (by simp [KpR, renV2, renV, upd_app, lkE_app, lk_cons, lk_nil, DtRule.cells, cB, cI, kt_0]; try (first | rfl | (simp_all; done) | (rw [hkt ‹_›]; simp; done) | (rw [hkf ‹_›]; done))) (by simp [KpOX, renO, plO, cvO, renV, pl1, lk_cons, lk_nil, upd_app, DtRule.cells, cB, cI, kt_0]; try rfl) (by rfl) (by simp) (by simp) (by rfl) (by simp [formsX, List.range_succ, lk_cons, lk_nil]), _, ?_, i + 1, rfl, ?_, rfl⟩
                                                · omega
                                                · omega
                              · try simp [decB_true, decB_false] at hc8
                                all_goals
                                  have hii : i = xs.length := by omega
                                  have hkk : kt (keepL xs ru) xs i = keptL xs ru := by unfold keptL; rw [hke, hii]
                                  rw [hkk]
                                  refine AW_exit ?_
                                  refine AW_id ?_
                                  refine AW_x rfl rfl fun K hK => ?_
                                  simp (disch := omega) [wrap64, List.getElem?_eq_getElem, toNat_pred, cI, cB, cU, DtRule.cells, take_map_n, decB_true, decB_false]
                                  repeat' first | (exfalso; omega) | (refine ⟨fun _ => ?_, fun _ => ?_⟩) | (refine ⟨by omega, ?_⟩) | (intro _)
                                  all_goals (refine hK _ ?_; clear hK K)
                                  all_goals
                                    refine AW_seq ?_
                                    refine AW_x rfl rfl fun K hK => ?_
                                    simp (disch := omega) [wrap64, List.getElem?_eq_getElem, toNat_pred, cI, cB, cU, DtRule.cells, take_map_n, decB_true, decB_false]
                                    repeat' first | (exfalso; omega) | (refine ⟨fun _ => ?_, fun _ => ?_⟩) | (refine ⟨by omega, ?_⟩) | (intro _)
                                    all_goals (refine hK _ ?_; clear hK K)
                                    all_goals
                                      refine AW_cond rfl (fun hc12 => ?_) (fun hc12 => ?_)
                                      · try simp [decB_true, decB_false] at hc12
                                        all_goals
                                          refine AW_xe rfl rfl fun K hK => ?_
                                          simp (disch := omega) [wrap64, List.getElem?_eq_getElem, toNat_pred, cI, cB, cU, DtRule.cells, take_map_n, decB_true, decB_false]
                                          repeat' first | (exfalso; omega) | (refine ⟨fun _ => ?_, fun _ => ?_⟩) | (refine ⟨by omega, ?_⟩) | (intro _)
                                          all_goals (refine hK _ ?_; clear hK K)
                                          all_goals
                                            refine AW_id ?_
                                            refine AW_x rfl rfl fun K hK => ?_
                                            simp (disch := omega) [wrap64, List.getElem?_eq_getElem, toNat_pred, cI, cB, cU, DtRule.cells, take_map_n, decB_true, decB_false]
                                            repeat' first | (exfalso; omega) | (refine XKd_x [] true [] (implKeep xs ru (by omega)) ?_ ?_ ?_; (focus (simp [List.range_succ, nmC]; done)); (focus (simp (disch := omega) [wrap64, List.getElem?_eq_getElem, toNat_pred, cI, cB, cU, DtRule.cells, take_map_n, decB_true, decB_false, take_map_n]; done)); simp (disch := omega) [wrap64, List.getElem?_eq_getElem, toNat_pred, cI, cB, cU, DtRule.cells, take_map_n, decB_true, decB_false]) | (refine XKd_x [] true [] (implKeep xs { ru with fLast := ru.fLast + 1 } (by omega)) ?_ ?_ ?_; (focus (simp [List.range_succ, nmC]; done)); (focus (simp (disch := omega) [wrap64, List.getElem?_eq_getElem, toNat_pred, cI, cB, cU, DtRule.cells, take_map_n, decB_true, decB_false, take_map_n]; done)); simp (disch := omega) [wrap64, List.getElem?_eq_getElem, toNat_pred, cI, cB, cU, DtRule.cells, take_map_n, decB_true, decB_false]) | (refine ⟨fun _ => ?_, fun _ => ?_⟩) | (refine ⟨by omega, ?_⟩) | (intro _)
                                            all_goals (refine hK _ ?_; clear hK K)
                                            all_goals
                                              refine AW_seq ?_
                                              refine AW_x rfl rfl fun K hK => ?_
                                              simp (disch := omega) [wrap64, List.getElem?_eq_getElem, toNat_pred, cI, cB, cU, DtRule.cells, take_map_n, decB_true, decB_false]
                                              repeat' first | (exfalso; omega) | (refine ⟨fun _ => ?_, fun _ => ?_⟩) | (refine ⟨by omega, ?_⟩) | (intro _)
                                              all_goals (refine hK _ ?_; clear hK K)
                                              all_goals
                                                refine AW_block ?_
                                                refine AW_loopS (fun mM sS => ∃ (i : Nat), mM = (keepL xs ru).length - i ∧ (i ≤ (keepL xs ru).length) ∧ sS = { env := lkE [(3, .arr 272 0 xs.length), (4, .ptr 80 0), (5, .arr 352 0 (keepL xs ru).length), (6, .arr 400 0 (keptL xs ru).length), (7, (.g (.int .i64 (((keptL xs ru).length : Nat))))), (10, .arr 1376 0 (keepL xs { ru with fLast := ru.fLast + 1 }).length), (11, (.g (.int .i64 ((i : Nat)))))], ob := lk [(80, .cells (DtRule.cells ru)), (272, .own 1 (xs.map cI)), (352, .own 1 ((keepL xs ru).map cB)), (400, .own 1 ((keptL xs ru).map cI)), (1376, .own 1 ((keepL xs { ru with fLast := ru.fLast + 1 }).map cB))] }) ?_ ?_
                                                · refine ⟨_, LeS.kx [(80, 80), (272, 272), (352, 352), (400, 400), (1376, 1376)] [(3, .arr 272 0 xs.length), (4, .ptr 80 0), (5, .arr 352 0 (keepL xs ru).length), (6, .arr 400 0 (keptL xs ru).length), (7, (.g (.int .i64 (((keptL xs ru).length : Nat))))), (10, .arr 1376 0 (keepL xs { ru with fLast := ru.fLast + 1 }).length), (11, (.g (.int .i64 (((0) : Nat)))))] [(80, .cells (DtRule.cells ru)), (272, .own 1 (xs.map cI)), (352, .own 1 ((keepL xs ru).map cB)), (400, .own 1 ((keptL xs ru).map cI)), (1376, .own 1 ((keepL xs { ru with fLast := ru.fLast + 1 }).map cB))] (by simp [KpR, renV2, renV, upd_app, lkE_app, lk_cons, lk_nil, DtRule.cells, cB, cI]; try rfl) (by simp [KpOX, renO, plO, cvO, renV, pl1, lk_cons, lk_nil, upd_app, DtRule.cells, cB, cI]; try rfl) (by rfl) (by simp) (by simp) (by rfl) (by simp [formsX, List.range_succ, lk_cons, lk_nil]), _, 0, rfl, ?_, rfl⟩
                                                  · simp
                                                · rintro mM sS ⟨i, rfl, hi, rfl⟩
                                                  have hke := keepL_length hok
                                                  have hme : (keepL xs { ru with fLast := ru.fLast + 1 }).length = xs.length := keepL_length (KOk_more hok (by omega))
                                                  refine AW_seq ?_
                                                  refine AW_x rfl rfl fun K hK => ?_
                                                  simp (disch := omega) [wrap64, List.getElem?_eq_getElem, toNat_pred, cI, cB, cU, DtRule.cells, take_map_n, decB_true, decB_false]
                                                  repeat' first | (exfalso; omega) | (refine ⟨fun _ => ?_, fun _ => ?_⟩) | (refine ⟨by omega, ?_⟩) | (intro _)
                                                  all_goals (refine hK _ ?_; clear hK K)
                                                  all_goals
                                                    refine AW_cond rfl (fun hc13 => ?_) (fun hc13 => ?_)
                                                    · try simp [decB_true, decB_false] at hc13
                                                      all_goals
                                                        have hmo : (keepL xs ru)[i]'(by omega) = true → (keepL xs { ru with fLast := ru.fLast + 1 })[i]'(by omega) = true := by rw [keepL_at hok, keepL_at (KOk_more hok (by omega))]; exact kb_more _ _ _
                                                        refine AW_skip ?_
                                                        refine AW_id ?_
                                                        refine AW_seq ?_
                                                        refine AW_block ?_
                                                        refine AW_x rfl rfl fun K hK => ?_
                                                        simp (disch := omega) [wrap64, List.getElem?_eq_getElem, toNat_pred, cI, cB, cU, DtRule.cells, take_map_n, decB_true, decB_false]
                                                        repeat' first | (exfalso; omega) | (refine ⟨fun _ => ?_, fun _ => ?_⟩) | (refine ⟨by omega, ?_⟩) | (intro _)
                                                        all_goals (refine hK _ ?_; clear hK K)
                                                        all_goals
                                                          refine AW_cond rfl (fun hc14 => ?_) (fun hc14 => ?_)
                                                          · try simp [decB_true, decB_false] at hc14
                                                            all_goals
                                                              refine AW_x rfl rfl fun K hK => ?_
                                                              simp (disch := omega) [wrap64, List.getElem?_eq_getElem, toNat_pred, cI, cB, cU, DtRule.cells, take_map_n, decB_true, decB_false]
                                                              repeat' first | (exfalso; omega) | (refine ⟨fun _ => ?_, fun _ => ?_⟩) | (refine ⟨by omega, ?_⟩) | (intro _)
                                                              all_goals (refine hK _ ?_; clear hK K)
                                                              all_goals
                                                                refine AW_ret (end_x [] [] (by simp [List.range_succ, lk_cons, lk_nil, upd_app]) (by simp) ?_)
                                                                simp (disch := omega) [wrap64, List.getElem?_eq_getElem, toNat_pred, cI, cB, cU, DtRule.cells, take_map_n, decB_true, decB_false]
                                                                all_goals first | rfl | omega | (simp_all; done) | trace_state
                                                          · try simp [decB_true, decB_false] at hc14
                                                            all_goals
                                                              refine AW_skip ?_
                                                              refine AW_id ?_
                                                              refine AW_xe rfl rfl fun K hK => ?_
                                                              simp (disch := omega) [wrap64, List.getElem?_eq_getElem, toNat_pred, cI, cB, cU, DtRule.cells, take_map_n, decB_true, decB_false]
                                                              repeat' first | (exfalso; omega) | (refine ⟨fun _ => ?_, fun _ => ?_⟩) | (refine ⟨by omega, ?_⟩) | (intro _)
                                                              all_goals (refine hK _ ?_; clear hK K)
                                                              all_goals
                                                                refine ⟨_, LeS.kx [(80, 80), (272, 272), (352, 352), (400, 400), (1376, 1376)] [(3, .arr 272 0 xs.length), (4, .ptr 80 0), (5, .arr 352 0 (keepL xs ru).length), (6, .arr 400 0 (keptL xs ru).length), (7, (.g (.int .i64 (((keptL xs ru).length : Nat))))), (10, .arr 1376 0 (keepL xs { ru with fLast := ru.fLast + 1 }).length), (11, (.g (.int .i64 (((i + 1) : Nat)))))] [(80, .cells (DtRule.cells ru)), (272, .own 1 (xs.map cI)), (352, .own 1 ((keepL xs ru).map cB)), (400, .own 1 ((keptL xs ru).map cI)), (1376, .own 1 ((keepL xs { ru with fLast := ru.fLast + 1 }).map cB))] (by simp [KpR, renV2, renV, upd_app, lkE_app, lk_cons, lk_nil, DtRule.cells, cB, cI]; try rfl) (by simp [KpOX, renO, plO, cvO, renV, pl1, lk_cons, lk_nil, upd_app, DtRule.cells, cB, cI]; try rfl) (by rfl) (by simp) (by simp) (by rfl) (by simp [formsX, List.range_succ, lk_cons, lk_nil]), _, ?_, i + 1, rfl, ?_, rfl⟩
                                                                · omega
                                                                · omega
                                                    · try simp [decB_true, decB_false] at hc13
                                                      all_goals
                                                        have hcnt : ((keptL xs ru).length : Int) ≤ ru.fLast + ru.fDays * ru.fPerDay := kept_le hok
                                                        refine AW_exit ?_
                                                        refine AW_id ?_
                                                        refine AW_x rfl rfl fun K hK => ?_
                                                        simp (disch := omega) [wrap64, List.getElem?_eq_getElem, toNat_pred, cI, cB, cU, DtRule.cells, take_map_n, decB_true, decB_false]
                                                        repeat' first | (exfalso; omega) | (refine XKd_x [] true [] (specKeptX xs ru (by omega)) ?_ ?_ ?_; (focus (simp [List.range_succ, nmC]; done)); (focus (simp (disch := omega) [wrap64, List.getElem?_eq_getElem, toNat_pred, cI, cB, cU, DtRule.cells, take_map_n, decB_true, decB_false, take_map_n]; done)); simp (disch := omega) [wrap64, List.getElem?_eq_getElem, toNat_pred, cI, cB, cU, DtRule.cells, take_map_n, decB_true, decB_false]) | (refine XKd_v (am2s_cons am2_sl (am2s_cons am2_sl am2s_nil)) (sameInts (keptL xs ru) (by omega)) rfl ?_; simp (disch := omega) [wrap64, List.getElem?_eq_getElem, toNat_pred, cI, cB, cU, DtRule.cells, take_map_n, decB_true, decB_false]) | (refine XKd_p (sameInts (keptL xs ru) (by omega)) (by rfl) ?_ ?_; (focus (simp (disch := omega) [wrap64, List.getElem?_eq_getElem, toNat_pred, cI, cB, cU, DtRule.cells, take_map_n, decB_true, decB_false, take_map_n]; done)); simp (disch := omega) [wrap64, List.getElem?_eq_getElem, toNat_pred, cI, cB, cU, DtRule.cells, take_map_n, decB_true, decB_false]) | (refine ⟨fun _ => ?_, fun _ => ?_⟩) | (refine ⟨by omega, ?_⟩) | (intro _)
                                                        all_goals (refine hK _ ?_; clear hK K)
                                                        all_goals
                                                          refine AW_ret (end_x [] [] (by simp [List.range_succ, lk_cons, lk_nil, upd_app]) (by simp) ?_)
                                                          simp (disch := omega) [wrap64, List.getElem?_eq_getElem, toNat_pred, cI, cB, cU, DtRule.cells, take_map_n, decB_true, decB_false]
                                                          all_goals first | rfl | omega | (simp_all; done) | trace_state
                                      · try simp [decB_true, decB_false] at hc12
                                        all_goals
                                          refine AW_skip ?_
                                          refine AW_id ?_
                                          refine AW_x rfl rfl fun K hK => ?_
                                          simp (disch := omega) [wrap64, List.getElem?_eq_getElem, toNat_pred, cI, cB, cU, DtRule.cells, take_map_n, decB_true, decB_false]
                                          repeat' first | (exfalso; omega) | (refine XKd_x [] true [] (implKeep xs ru (by omega)) ?_ ?_ ?_; (focus (simp [List.range_succ, nmC]; done)); (focus (simp (disch := omega) [wrap64, List.getElem?_eq_getElem, toNat_pred, cI, cB, cU, DtRule.cells, take_map_n, decB_true, decB_false, take_map_n]; done)); simp (disch := omega) [wrap64, List.getElem?_eq_getElem, toNat_pred, cI, cB, cU, DtRule.cells, take_map_n, decB_true, decB_false]) | (refine XKd_x [] true [] (implKeep xs { ru with fLast := ru.fLast + 1 } (by omega)) ?_ ?_ ?_; (focus (simp [List.range_succ, nmC]; done)); (focus (simp (disch := omega) [wrap64, List.getElem?_eq_getElem, toNat_pred, cI, cB, cU, DtRule.cells, take_map_n, decB_true, decB_false, take_map_n]; done)); simp (disch := omega) [wrap64, List.getElem?_eq_getElem, toNat_pred, cI, cB, cU, DtRule.cells, take_map_n, decB_true, decB_false]) | (refine ⟨fun _ => ?_, fun _ => ?_⟩) | (refine ⟨by omega, ?_⟩) | (intro _)
                                          all_goals (refine hK _ ?_; clear hK K)
                                          all_goals
                                            refine AW_seq ?_
                                            refine AW_x rfl rfl fun K hK => ?_
                                            simp (disch := omega) [wrap64, List.getElem?_eq_getElem, toNat_pred, cI, cB, cU, DtRule.cells, take_map_n, decB_true, decB_false]
                                            repeat' first | (exfalso; omega) | (refine ⟨fun _ => ?_, fun _ => ?_⟩) | (refine ⟨by omega, ?_⟩) | (intro _)
                                            all_goals (refine hK _ ?_; clear hK K)
                                            all_goals
                                              refine AW_block ?_
                                              refine AW_loopS (fun mM sS => ∃ (i : Nat), mM = (keepL xs ru).length - i ∧ (i ≤ (keepL xs ru).length) ∧ sS = { env := lkE [(3, .arr 272 0 xs.length), (4, .ptr 80 0), (5, .arr 352 0 (keepL xs ru).length), (6, .arr 400 0 (keptL xs ru).length), (7, (.g (.int .i64 (((keptL xs ru).length : Nat))))), (10, .arr 1376 0 (keepL xs ru).length), (11, (.g (.int .i64 ((i : Nat)))))], ob := lk [(80, .cells (DtRule.cells ru)), (272, .own 1 (xs.map cI)), (352, .own 1 ((keepL xs ru).map cB)), (400, .own 1 ((keptL xs ru).map cI)), (1376, .own 1 ((keepL xs ru).map cB))] }) ?_ ?_
                                              · refine ⟨_, LeS.kx [(80, 80), (272, 272), (352, 352), (400, 400), (1376, 1376)] [(3, .arr 272 0 xs.length), (4, .ptr 80 0), (5, .arr 352 0 (keepL xs ru).length), (6, .arr 400 0 (keptL xs ru).length), (7, (.g (.int .i64 (((keptL xs ru).length : Nat))))), (10, .arr 1376 0 (keepL xs ru).length), (11, (.g (.int .i64 (((0) : Nat)))))] [(80, .cells (DtRule.cells ru)), (272, .own 1 (xs.map cI)), (352, .own 1 ((keepL xs ru).map cB)), (400, .own 1 ((keptL xs ru).map cI)), (1376, .own 1 ((keepL xs ru).map cB))] (by simp [KpR, renV2, renV, upd_app, lkE_app, lk_cons, lk_nil, DtRule.cells, cB, cI]; try rfl) (by simp [KpOX, renO, plO, cvO, renV, pl1, lk_cons, lk_nil, upd_app, DtRule.cells, cB, cI]; try rfl) (by rfl) (by simp) (by simp) (by rfl) (by simp [formsX, List.range_succ, lk_cons, lk_nil]), _, 0, rfl, ?_, rfl⟩
                                                · simp
                                              · rintro mM sS ⟨i, rfl, hi, rfl⟩
                                                have hke := keepL_length hok
                                                have hme : (keepL xs ru).length = xs.length := keepL_length hok
                                                refine AW_seq ?_
                                                refine AW_x rfl rfl fun K hK => ?_
                                                simp (disch := omega) [wrap64, List.getElem?_eq_getElem, toNat_pred, cI, cB, cU, DtRule.cells, take_map_n, decB_true, decB_false]
                                                repeat' first | (exfalso; omega) | (refine ⟨fun _ => ?_, fun _ => ?_⟩) | (refine ⟨by omega, ?_⟩) | (intro _)
                                                all_goals (refine hK _ ?_; clear hK K)
                                                all_goals
                                                  refine AW_cond rfl (fun hc15 => ?_) (fun hc15 => ?_)
                                                  · try simp [decB_true, decB_false] at hc15
                                                    all_goals
                                                      have hmo : (keepL xs ru)[i]'(by omega) = true → (keepL xs ru)[i]'(by omega) = true := id
                                                      refine AW_skip ?_
                                                      refine AW_id ?_
                                                      refine AW_seq ?_
                                                      refine AW_block ?_
                                                      refine AW_x rfl rfl fun K hK => ?_
                                                      simp (disch := omega) [wrap64, List.getElem?_eq_getElem, toNat_pred, cI, cB, cU, DtRule.cells, take_map_n, decB_true, decB_false]
                                                      repeat' first | (exfalso; omega) | (refine ⟨fun _ => ?_, fun _ => ?_⟩) | (refine ⟨by omega, ?_⟩) | (intro _)
                                                      all_goals (refine hK _ ?_; clear hK K)
                                                      all_goals
                                                        refine AW_cond rfl (fun hc16 => ?_) (fun hc16 => ?_)
                                                        · try simp [decB_true, decB_false] at hc16
                                                          all_goals
                                                            refine AW_x rfl rfl fun K hK => ?_
                                                            simp (disch := omega) [wrap64, List.getElem?_eq_getElem, toNat_pred, cI, cB, cU, DtRule.cells, take_map_n, decB_true, decB_false]
                                                            repeat' first | (exfalso; omega) | (refine ⟨fun _ => ?_, fun _ => ?_⟩) | (refine ⟨by omega, ?_⟩) | (intro _)
                                                            all_goals (refine hK _ ?_; clear hK K)
                                                            all_goals
                                                              refine AW_ret (end_x [] [] (by simp [List.range_succ, lk_cons, lk_nil, upd_app]) (by simp) ?_)
                                                              simp (disch := omega) [wrap64, List.getElem?_eq_getElem, toNat_pred, cI, cB, cU, DtRule.cells, take_map_n, decB_true, decB_false]
                                                              all_goals first | rfl | omega | (simp_all; done) | trace_state
                                                        · try simp [decB_true, decB_false] at hc16
                                                          all_goals
                                                            refine AW_skip ?_
                                                            refine AW_id ?_
                                                            refine AW_xe rfl rfl fun K hK => ?_
                                                            simp (disch := omega) [wrap64, List.getElem?_eq_getElem, toNat_pred, cI, cB, cU, DtRule.cells, take_map_n, decB_true, decB_false]
                                                            repeat' first | (exfalso; omega) | (refine ⟨fun _ => ?_, fun _ => ?_⟩) | (refine ⟨by omega, ?_⟩) | (intro _)
                                                            all_goals (refine hK _ ?_; clear hK K)
                                                            all_goals
                                                              refine ⟨_, LeS.kx [(80, 80), (272, 272), (352, 352), (400, 400), (1376, 1376)] [(3, .arr 272 0 xs.length), (4, .ptr 80 0), (5, .arr 352 0 (keepL xs ru).length), (6, .arr 400 0 (keptL xs ru).length), (7, (.g (.int .i64 (((keptL xs ru).length : Nat))))), (10, .arr 1376 0 (keepL xs ru).length), (11, (.g (.int .i64 (((i + 1) : Nat)))))] [(80, .cells (DtRule.cells ru)), (272, .own 1 (xs.map cI)), (352, .own 1 ((keepL xs ru).map cB)), (400, .own 1 ((keptL xs ru).map cI)), (1376, .own 1 ((keepL xs ru).map cB))] (by simp [KpR, renV2, renV, upd_app, lkE_app, lk_cons, lk_nil, DtRule.cells, cB, cI]; try rfl) (by simp [KpOX, renO, plO, cvO, renV, pl1, lk_cons, lk_nil, upd_app, DtRule.cells, cB, cI]; try rfl) (by rfl) (by simp) (by simp) (by rfl) (by simp [formsX, List.range_succ, lk_cons, lk_nil]), _, ?_, i + 1, rfl, ?_, rfl⟩
                                                              · omega
                                                              · omega
                                                  · try simp [decB_true, decB_false] at hc15
                                                    all_goals
                                                      have hcnt : ((keptL xs ru).length : Int) ≤ ru.fLast + ru.fDays * ru.fPerDay := kept_le hok
                                                      refine AW_exit ?_
                                                      refine AW_id ?_
                                                      refine AW_x rfl rfl fun K hK => ?_
                                                      simp (disch := omega) [wrap64, List.getElem?_eq_getElem, toNat_pred, cI, cB, cU, DtRule.cells, take_map_n, decB_true, decB_false]
                                                      repeat' first | (exfalso; omega) | (refine XKd_x [] true [] (specKeptX xs ru (by omega)) ?_ ?_ ?_; (focus (simp [List.range_succ, nmC]; done)); (focus (simp (disch := omega) [wrap64, List.getElem?_eq_getElem, toNat_pred, cI, cB, cU, DtRule.cells, take_map_n, decB_true, decB_false, take_map_n]; done)); simp (disch := omega) [wrap64, List.getElem?_eq_getElem, toNat_pred, cI, cB, cU, DtRule.cells, take_map_n, decB_true, decB_false]) | (refine XKd_v (am2s_cons am2_sl (am2s_cons am2_sl am2s_nil)) (sameInts (keptL xs ru) (by omega)) rfl ?_; simp (disch := omega) [wrap64, List.getElem?_eq_getElem, toNat_pred, cI, cB, cU, DtRule.cells, take_map_n, decB_true, decB_false]) | (refine XKd_p (sameInts (keptL xs ru) (by omega)) (by rfl) ?_ ?_; (focus (simp (disch := omega) [wrap64, List.getElem?_eq_getElem, toNat_pred, cI, cB, cU, DtRule.cells, take_map_n, decB_true, decB_false, take_map_n]; done)); simp (disch := omega) [wrap64, List.getElem?_eq_getElem, toNat_pred, cI, cB, cU, DtRule.cells, take_map_n, decB_true, decB_false]) | (refine ⟨fun _ => ?_, fun _ => ?_⟩) | (refine ⟨by omega, ?_⟩) | (intro _)
                                                      all_goals (refine hK _ ?_; clear hK K)
                                                      all_goals
                                                        refine AW_ret (end_x [] [] (by simp [List.range_succ, lk_cons, lk_nil, upd_app]) (by simp) ?_)
                                                        simp (disch := omega) [wrap64, List.getElem?_eq_getElem, toNat_pred, cI, cB, cU, DtRule.cells, take_map_n, decB_true, decB_false]
                                                        all_goals first | rfl | omega | (simp_all; done) | trace_state
theorem lawFnKeep (l : List Int) (hw : wfS wfU8 l) : PCall Try.prog 4 [.sl 1 (l.map cU)] (.g (.bool (true))) := pcall_scal (lawKeepX l (by have := hw.1; omega))
end Go.Proofs.Ytmcekkllkfccjaa.Vs
