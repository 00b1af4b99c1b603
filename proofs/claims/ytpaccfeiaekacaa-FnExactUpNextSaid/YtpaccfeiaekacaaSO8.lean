import Derived.Test.YtpaccfeiaekacaaSN1
import Derived.Test.YtpaccfeiaekacaaSD8
open Go Go.Proofs Go.Proofs.Ytpaccfeiaekacaa.Vs
namespace Go.Proofs.Ytpaccfeiaekacaa.Vs
set_option linter.unusedVariables false
set_option linter.unusedSimpArgs false
set_option linter.unusedSectionVars false
set_option linter.unnecessarySimpa false
set_option linter.all false
set_option linter.unusedSimpArgs false
set_option linter.unusedVariables false
set_option maxRecDepth 100000
theorem row_congr {l : List (List AV)} {i : Nat} {a b : List AV} (h : a = b) : l.set i a = l.set i b := by rw [h]
theorem len_szS {α : Type} {f : α → Int} (hf : ∀ x, 0 ≤ f x) (l : List α) : (l.length : Int) ≤ szS f l := by have := sumZ_nonneg hf l; unfold szS; omega
theorem cnt_sz {α : Type} {cnt sz : α → Int} (h : ∀ u, cnt u ≤ 16 * (1 + sz u)) : ∀ us : List α, cntS cnt us ≤ 16 * szS sz us
  | [] => by simp [cntS_nil, szS, sumZ_nil]
  | u :: us => by
    have h1 := cnt_sz h us
    have h2 := h u
    simp only [szS, sumZ_cons, cntS_cons, List.length_cons] at h1 ⊢
    omega
def mkUp (k : Int) (u : DtUp) : DtUp := { fChunk := mT (k), fNodes := mkL id (k + 1) u.fNodes.length, fEpoch := k + 1 + (u.fNodes.length : Nat) }
def cntUp (u : DtUp) : Int := 1 + (u.fNodes.length : Nat) + 1
theorem cntUp_nn (u : DtUp) : 0 ≤ cntUp u := by
  unfold cntUp
  omega
theorem cntUp_sz (u : DtUp) : cntUp u ≤ 16 * (1 + DtUp.sz u) := by
  unfold cntUp
  simp only [DtUp.sz]
  omega
theorem markUpS (us : List DtUp) (k : Int) (hs : szS DtUp.sz us ≤ 1048576) (hk : 0 ≤ k ∧ k + cntS cntUp us ≤ 1073741824) : XCall Try.prog 48 [.arr 8 0 us.length, (.g (.int .i64 (k)))] [.own 3 (us.map DtUp.cells)] (.g (.int .i64 (k + cntS cntUp us))) [.own 3 ((mkS mkUp cntUp k us).map DtUp.cells)] [] := by
  have hL : us.length ≤ 1048576 := by have := len_szS DtUp.sz_nonneg us; omega
  refine xcall_of_walk Try.func48 (by rfl) (by rfl) (by rw [Try.ntmps48]; exact Nat.le_of_ble_eq_true rfl) rfl (by simp) rfl rfl ?_
  rw [Try.ntmps48]
  refine AW_x1 (.own 3 (us.map DtUp.cells)) (by simp [cvO]) ?_
  refine AW_k [(0, _), (1, _)] ⟨rfl, rfl, trivial⟩ ?_
  refine AW_x rfl rfl fun K hK => ?_
  simp (disch := omega) [wrap64, List.getElem?_eq_getElem, toNat_pred, DtUp.cells, mkSR_el, mset_get]
  repeat' first | (exfalso; omega) | (refine ⟨fun _ => ?_, fun _ => ?_⟩) | (refine ⟨by omega, ?_⟩) | (intro _)
  all_goals (refine hK _ ?_; clear hK K)
  all_goals
    refine AW_seq ?_
    refine AW_x rfl rfl fun K hK => ?_
    simp (disch := omega) [wrap64, List.getElem?_eq_getElem, toNat_pred, DtUp.cells, mkSR_el, mset_get]
    repeat' first | (exfalso; omega) | (refine ⟨fun _ => ?_, fun _ => ?_⟩) | (refine ⟨by omega, ?_⟩) | (intro _)
    all_goals (refine hK _ ?_; clear hK K)
    all_goals
      refine AW_block ?_
      refine AW_loopS (fun mM sS => ∃ (i : Nat), mM = us.length - i ∧ (i ≤ us.length) ∧ sS = { env := lkE [(0, .arr 8 0 us.length), (1, (.g (.int .i64 (k + cntS cntUp (us.take i))))), (5, (.g (.int .i64 ((i : Nat)))))], ob := lk [(8, .own 3 ((mkSR mkUp cntUp k us i).map DtUp.cells))] }) ?_ ?_
      · refine ⟨_, LeS.kx [(8, 8)] [(0, .arr 8 0 us.length), (1, (.g (.int .i64 (k + cntS cntUp (us.take (0)))))), (5, (.g (.int .i64 (((0) : Nat)))))] [(8, .own 3 ((mkSR mkUp cntUp k us (0)).map DtUp.cells))] (by simp [KpR, renV2, renV, upd_app, lkE_app, lk_cons, lk_nil, mkSR_0, cntS_nil]; try (first | rfl | (omega; done))) (by simp [KpOX, renO, plO, cvO, renV, pl1, lk_cons, lk_nil, upd_app, mkSR_0, cntS_nil]; try (first | rfl | (rw [← mkSR_set mkUp cntUp k us i (by omega), List.map_set]; refine row_congr ?_; simp only [DtUp.cells, mkUp]; repeat' (first | rfl | (omega; done) | congr 1)))) (by rfl) (by simp) (by simp) (by rfl) (by simp [formsX, List.range_succ, lk_cons, lk_nil]), _, 0, rfl, ?_, rfl⟩
        · simp
      · rintro mM sS ⟨i, rfl, hi, rfl⟩
        have hln : (mkSR mkUp cntUp k us i).length = us.length := mkSR_len _ _ _ _ _ hi
        refine AW_seq ?_
        refine AW_x rfl rfl fun K hK => ?_
        simp (disch := omega) [wrap64, List.getElem?_eq_getElem, toNat_pred, DtUp.cells, mkSR_el, mset_get]
        repeat' first | (exfalso; omega) | (refine ⟨fun _ => ?_, fun _ => ?_⟩) | (refine ⟨by omega, ?_⟩) | (intro _)
        all_goals (refine hK _ ?_; clear hK K)
        all_goals
          refine AW_cond rfl (fun hc1 => ?_) (fun hc1 => ?_)
          · try simp at hc1
            all_goals
              have hcl := cntS_le cntUp_nn us i (by omega)
              have hcu : cntUp us[i] = 1 + (us[i].fNodes.length : Nat) + 1 := rfl
              have hcs := cntS_succ cntUp us i (by omega)
              have hsE : DtUp.sz us[i] ≤ 1048576 := by have := sumZ_mem_le DtUp.sz_nonneg us us[i] (List.getElem_mem _); simp only [szS] at hs; omega
              simp only [DtUp.sz] at hsE
              refine AW_skip ?_
              refine AW_id ?_
              refine AW_seq ?_
              refine AW_block ?_
              refine AW_x rfl rfl fun K hK => ?_
              simp (disch := omega) [wrap64, List.getElem?_eq_getElem, toNat_pred, DtUp.cells, mkSR_el, mset_get]
              repeat' first | (exfalso; omega) | (refine XKd_v (am2s_cons am2_g am2s_nil) (markText _ (by omega)) rfl ?_; simp (disch := omega) [wrap64, List.getElem?_eq_getElem, toNat_pred, DtUp.cells, mkSR_el, mset_get]) | (refine XKd_p (markText _ (by omega)) (by rfl) ?_ ?_; (focus (simp (disch := omega) [wrap64, List.getElem?_eq_getElem, toNat_pred, DtUp.cells, mkSR_el, mset_get, take_map_n]; done)); simp (disch := omega) [wrap64, List.getElem?_eq_getElem, toNat_pred, DtUp.cells, mkSR_el, mset_get]) | (refine ⟨fun _ => ?_, fun _ => ?_⟩) | (refine ⟨by omega, ?_⟩) | (intro _)
              all_goals (refine hK _ ?_; clear hK K)
              all_goals
                refine AW_x rfl rfl fun K hK => ?_
                simp (disch := omega) [wrap64, List.getElem?_eq_getElem, toNat_pred, DtUp.cells, mkSR_el, mset_get]
                repeat' first | (exfalso; omega) | (refine ⟨fun _ => ?_, fun _ => ?_⟩) | (refine ⟨by omega, ?_⟩) | (intro _)
                all_goals (refine hK _ ?_; clear hK K)
                all_goals
                  refine AW_x rfl rfl fun K hK => ?_
                  simp (disch := omega) [wrap64, List.getElem?_eq_getElem, toNat_pred, DtUp.cells, mkSR_el, mset_get]
                  repeat' first | (exfalso; omega) | (refine XKd_n (n := 8) (i := i) (f0 := 1) (markIntS us[i].fNodes _ (by omega) (by omega)) ?_ ?_ ?_ ?_ rfl ?_ rfl ?_ ?_; (focus (simp; done)); (focus rfl); (focus rfl); (focus (simp [mkL_len, mkS_len]; done)); (focus (simp; done)); (focus first | exact ⟨_, mset_get _ _ _ _ (by omega), rfl⟩ | exact ⟨_, by rw [List.getElem?_map, mkSR_get _ _ _ _ _ (by omega)]; rfl, rfl⟩); simp (disch := omega) [wrap64, List.getElem?_eq_getElem, toNat_pred, DtUp.cells, mkSR_el, mset_get]) | (refine ⟨fun _ => ?_, fun _ => ?_⟩) | (refine ⟨by omega, ?_⟩) | (intro _)
                  all_goals (refine hK _ ?_; clear hK K)
                  all_goals
                    refine AW_x rfl rfl fun K hK => ?_
                    simp (disch := omega) [wrap64, List.getElem?_eq_getElem, toNat_pred, DtUp.cells, mkSR_el, mset_get]
                    repeat' first | (exfalso; omega) | (refine ⟨fun _ => ?_, fun _ => ?_⟩) | (refine ⟨by omega, ?_⟩) | (intro _)
                    all_goals (refine hK _ ?_; clear hK K)
                    all_goals
                      refine AW_xe rfl rfl fun K hK => ?_
                      simp (disch := omega) [wrap64, List.getElem?_eq_getElem, toNat_pred, DtUp.cells, mkSR_el, mset_get]
                      repeat' first | (exfalso; omega) | (refine ⟨fun _ => ?_, fun _ => ?_⟩) | (refine ⟨by omega, ?_⟩) | (intro _)
                      all_goals (refine hK _ ?_; clear hK K)
                      all_goals
                        refine AW_id ?_
                        refine AW_xe rfl rfl fun K hK => ?_
                        simp (disch := omega) [wrap64, List.getElem?_eq_getElem, toNat_pred, DtUp.cells, mkSR_el, mset_get]
                        repeat' first | (exfalso; omega) | (refine ⟨fun _ => ?_, fun _ => ?_⟩) | (refine ⟨by omega, ?_⟩) | (intro _)
                        all_goals (refine hK _ ?_; clear hK K)
                        all_goals
                          refine ⟨_, LeS.kx [(8, 8)] [(0, .arr 8 0 us.length), (1, (.g (.int .i64 (k + cntS cntUp (us.take (i + 1)))))), (5, (.g (.int .i64 (((i + 1) : Nat)))))] [(8, .own 3 ((mkSR mkUp cntUp k us (i + 1)).map DtUp.cells))] (by simp [KpR, renV2, renV, upd_app, lkE_app, lk_cons, lk_nil, mkSR_0, cntS_nil]; try (first | rfl | (omega; done))) (by simp [KpOX, renO, plO, cvO, renV, pl1, lk_cons, lk_nil, upd_app, mkSR_0, cntS_nil]; try (first | rfl | (rw [← mkSR_set mkUp cntUp k us i (by omega), List.map_set]; refine row_congr ?_; simp only [DtUp.cells, mkUp]; repeat' (first | rfl | (omega; done) | congr 1)))) (by rfl) (by simp) (by simp) (by rfl) (by simp [formsX, List.range_succ, lk_cons, lk_nil]), _, ?_, i + 1, rfl, ?_, rfl⟩
                          · omega
                          · omega
          · try simp at hc1
            all_goals
              refine AW_exit ?_
              refine AW_id ?_
              refine AW_x rfl rfl fun K hK => ?_
              simp (disch := omega) [wrap64, List.getElem?_eq_getElem, toNat_pred, DtUp.cells, mkSR_el, mset_get]
              repeat' first | (exfalso; omega) | (refine ⟨fun _ => ?_, fun _ => ?_⟩) | (refine ⟨by omega, ?_⟩) | (intro _)
              all_goals (refine hK _ ?_; clear hK K)
              all_goals
                refine AW_ret (end_x [] [] (by simp [List.range_succ, lk_cons, lk_nil, upd_app]) (by simp) ?_)
                simp (disch := omega) [wrap64, List.getElem?_eq_getElem, toNat_pred, DtUp.cells, mkSR_el, mset_get]
                all_goals ((have e : i = us.length := by omega); subst e; rw [mkSR_n _ _ _ _ _ (by omega), List.take_of_length_le (by omega)]; exact ⟨rfl, rfl⟩)
theorem heldUpS (us : List DtUp) (k : Int) (hs : szS DtUp.sz us ≤ 1048576) (hk : 0 ≤ k ∧ k + cntS cntUp us ≤ 1073741824) : PCall Try.prog 49 [.sl 3 ((mkS mkUp cntUp k us).map DtUp.cells), (.g (.int .i64 (k)))] (.g (.int .i64 (k + cntS cntUp us))) := by
  have hL : us.length ≤ 1048576 := by have := len_szS DtUp.sz_nonneg us; omega
  refine gcall_of_walk Try.func49 (by rfl) (by rfl) (by rw [Try.ntmps49]; exact Nat.le_of_ble_eq_true rfl) rfl (by decide) ?_
  rw [Try.ntmps49]
  refine AW_k [(0, _), (1, _)] ⟨rfl, rfl, trivial⟩ ?_
  refine AW_r rfl rfl fun K hK => ?_
  simp (disch := omega) [wrap64, List.getElem?_eq_getElem, toNat_pred, DtUp.cells, mkS_el, mkUp]
  repeat' first | (exfalso; omega) | (refine ⟨fun _ => ?_, fun _ => ?_⟩) | (refine ⟨by omega, ?_⟩) | (intro _)
  all_goals (refine hK _ ?_; clear hK K)
  all_goals
    refine AW_seq ?_
    refine AW_r rfl rfl fun K hK => ?_
    simp (disch := omega) [wrap64, List.getElem?_eq_getElem, toNat_pred, DtUp.cells, mkS_el, mkUp]
    repeat' first | (exfalso; omega) | (refine ⟨fun _ => ?_, fun _ => ?_⟩) | (refine ⟨by omega, ?_⟩) | (intro _)
    all_goals (refine hK _ ?_; clear hK K)
    all_goals
      refine AW_block ?_
      refine AW_loopS (fun mM sS => ∃ (i : Nat), mM = us.length - i ∧ (i ≤ us.length) ∧ sS = { env := lkE [(0, .sl 3 ((mkS mkUp cntUp k us).map DtUp.cells)), (1, (.g (.int .i64 (k + cntS cntUp (us.take i))))), (5, (.g (.int .i64 ((i : Nat)))))], ob := formOb [] [] }) ?_ ?_
      · refine ⟨_, LeS.kp [(0, .sl 3 ((mkS mkUp cntUp k us).map DtUp.cells)), (1, (.g (.int .i64 (k + cntS cntUp (us.take (0)))))), (5, (.g (.int .i64 (((0) : Nat)))))] (by simp [KpE, upd_app, lkE_app, lk_cons, cntS_nil]; try (first | rfl | (omega; done))), _, 0, rfl, ?_, rfl⟩
        · simp
      · rintro mM sS ⟨i, rfl, hi, rfl⟩
        have hln : (mkS mkUp cntUp k us).length = us.length := mkS_len _ _ _ _
        refine AW_seq ?_
        refine AW_r rfl rfl fun K hK => ?_
        simp (disch := omega) [wrap64, List.getElem?_eq_getElem, toNat_pred, DtUp.cells, mkS_el, mkUp]
        repeat' first | (exfalso; omega) | (refine ⟨fun _ => ?_, fun _ => ?_⟩) | (refine ⟨by omega, ?_⟩) | (intro _)
        all_goals (refine hK _ ?_; clear hK K)
        all_goals
          refine AW_cond rfl (fun hc2 => ?_) (fun hc2 => ?_)
          · try simp at hc2
            all_goals
              have hcl := cntS_le cntUp_nn us i (by omega)
              have hcu : cntUp us[i] = 1 + (us[i].fNodes.length : Nat) + 1 := rfl
              have hcs := cntS_succ cntUp us i (by omega)
              have hsE : DtUp.sz us[i] ≤ 1048576 := by have := sumZ_mem_le DtUp.sz_nonneg us us[i] (List.getElem_mem _); simp only [szS] at hs; omega
              simp only [DtUp.sz] at hsE
              refine AW_skip ?_
              refine AW_id ?_
              refine AW_seq ?_
              refine AW_block ?_
              refine AW_seq ?_
              refine AW_q rfl mix (by kernel_rfl) rfl fun K hK => ?_
              simp (disch := omega) [wrap64, List.getElem?_eq_getElem, toNat_pred, DtUp.cells, mkS_el, mkUp]
              repeat' first | (exfalso; omega) | (refine CKd_v (am2s_cons am2_g am2s_nil) (markText _ (by omega)) rfl ?_; simp (disch := omega) [wrap64, List.getElem?_eq_getElem, toNat_pred, DtUp.cells, mkS_el, mkUp]) | (refine ⟨fun _ => ?_, fun _ => ?_⟩) | (refine ⟨by omega, ?_⟩) | (intro _)
              all_goals (refine hK _ ?_; clear hK K)
              all_goals
                refine AW_cond rfl (fun hc3 => ?_) (fun hc3 => ?_)
                · try simp at hc3
                  all_goals
                    refine AW_r rfl rfl fun K hK => ?_
                    simp (disch := omega) [wrap64, List.getElem?_eq_getElem, toNat_pred, DtUp.cells, mkS_el, mkUp]
                    repeat' first | (exfalso; omega) | (refine ⟨fun _ => ?_, fun _ => ?_⟩) | (refine ⟨by omega, ?_⟩) | (intro _)
                    all_goals (refine hK _ ?_; clear hK K)
                    all_goals
                      refine AW_ret (end_s ?_)
                      simp (disch := omega) [wrap64, List.getElem?_eq_getElem, toNat_pred, DtUp.cells, mkS_el, mkUp]
                      all_goals first | omega | ((have e : i = us.length := by omega); subst e; rw [List.take_of_length_le (by omega)])
                · try simp at hc3
                  all_goals
                    refine AW_skip ?_
                    refine AW_id ?_
                    refine AW_r rfl rfl fun K hK => ?_
                    simp (disch := omega) [wrap64, List.getElem?_eq_getElem, toNat_pred, DtUp.cells, mkS_el, mkUp]
                    repeat' first | (exfalso; omega) | (refine ⟨fun _ => ?_, fun _ => ?_⟩) | (refine ⟨by omega, ?_⟩) | (intro _)
                    all_goals (refine hK _ ?_; clear hK K)
                    all_goals
                      refine AW_r rfl rfl fun K hK => ?_
                      simp (disch := omega) [wrap64, List.getElem?_eq_getElem, toNat_pred, DtUp.cells, mkS_el, mkUp]
                      repeat' first | (exfalso; omega) | (refine CKd_v (am2s_cons am2_sl (am2s_cons am2_g am2s_nil)) (heldIntS us[i].fNodes.length _ (by omega) (by omega)) rfl ?_; simp (disch := omega) [wrap64, List.getElem?_eq_getElem, toNat_pred, DtUp.cells, mkS_el, mkUp]) | (refine ⟨fun _ => ?_, fun _ => ?_⟩) | (refine ⟨by omega, ?_⟩) | (intro _)
                      all_goals (refine hK _ ?_; clear hK K)
                      all_goals
                        refine AW_seq ?_
                        refine AW_r rfl rfl fun K hK => ?_
                        simp (disch := omega) [wrap64, List.getElem?_eq_getElem, toNat_pred, DtUp.cells, mkS_el, mkUp]
                        repeat' first | (exfalso; omega) | (refine ⟨fun _ => ?_, fun _ => ?_⟩) | (refine ⟨by omega, ?_⟩) | (intro _)
                        all_goals (refine hK _ ?_; clear hK K)
                        all_goals
                          refine AW_cond rfl (fun hc4 => ?_) (fun hc4 => ?_)
                          · try simp at hc4
                            all_goals
                              refine AW_r rfl rfl fun K hK => ?_
                              simp (disch := omega) [wrap64, List.getElem?_eq_getElem, toNat_pred, DtUp.cells, mkS_el, mkUp]
                              repeat' first | (exfalso; omega) | (refine ⟨fun _ => ?_, fun _ => ?_⟩) | (refine ⟨by omega, ?_⟩) | (intro _)
                              all_goals (refine hK _ ?_; clear hK K)
                              all_goals
                                refine AW_ret (end_s ?_)
                                simp (disch := omega) [wrap64, List.getElem?_eq_getElem, toNat_pred, DtUp.cells, mkS_el, mkUp]
                                all_goals first | omega | ((have e : i = us.length := by omega); subst e; rw [List.take_of_length_le (by omega)])
                          · try simp at hc4
                            all_goals
                              refine AW_skip ?_
                              refine AW_id ?_
                              refine AW_seq ?_
                              refine AW_r rfl rfl fun K hK => ?_
                              simp (disch := omega) [wrap64, List.getElem?_eq_getElem, toNat_pred, DtUp.cells, mkS_el, mkUp]
                              repeat' first | (exfalso; omega) | (refine ⟨fun _ => ?_, fun _ => ?_⟩) | (refine ⟨by omega, ?_⟩) | (intro _)
                              all_goals (refine hK _ ?_; clear hK K)
                              all_goals
                                refine AW_cond rfl (fun hc5 => ?_) (fun hc5 => ?_)
                                · try simp at hc5
                                  all_goals
                                    refine AW_r rfl rfl fun K hK => ?_
                                    simp (disch := omega) [wrap64, List.getElem?_eq_getElem, toNat_pred, DtUp.cells, mkS_el, mkUp]
                                    repeat' first | (exfalso; omega) | (refine ⟨fun _ => ?_, fun _ => ?_⟩) | (refine ⟨by omega, ?_⟩) | (intro _)
                                    all_goals (refine hK _ ?_; clear hK K)
                                    all_goals
                                      refine AW_ret (end_s ?_)
                                      simp (disch := omega) [wrap64, List.getElem?_eq_getElem, toNat_pred, DtUp.cells, mkS_el, mkUp]
                                      all_goals first | omega | ((have e : i = us.length := by omega); subst e; rw [List.take_of_length_le (by omega)])
                                · try simp at hc5
                                  all_goals
                                    refine AW_skip ?_
                                    refine AW_id ?_
                                    refine AW_re rfl rfl fun K hK => ?_
                                    simp (disch := omega) [wrap64, List.getElem?_eq_getElem, toNat_pred, DtUp.cells, mkS_el, mkUp]
                                    repeat' first | (exfalso; omega) | (refine ⟨fun _ => ?_, fun _ => ?_⟩) | (refine ⟨by omega, ?_⟩) | (intro _)
                                    all_goals (refine hK _ ?_; clear hK K)
                                    all_goals
                                      refine AW_id ?_
                                      refine AW_re rfl rfl fun K hK => ?_
                                      simp (disch := omega) [wrap64, List.getElem?_eq_getElem, toNat_pred, DtUp.cells, mkS_el, mkUp]
                                      repeat' first | (exfalso; omega) | (refine ⟨fun _ => ?_, fun _ => ?_⟩) | (refine ⟨by omega, ?_⟩) | (intro _)
                                      all_goals (refine hK _ ?_; clear hK K)
                                      all_goals
                                        refine ⟨_, LeS.kp [(0, .sl 3 ((mkS mkUp cntUp k us).map DtUp.cells)), (1, (.g (.int .i64 (k + cntS cntUp (us.take (i + 1)))))), (5, (.g (.int .i64 (((i + 1) : Nat)))))] (by simp [KpE, upd_app, lkE_app, lk_cons, cntS_nil]; try (first | rfl | (omega; done))), _, ?_, i + 1, rfl, ?_, rfl⟩
                                        · omega
                                        · omega
          · try simp at hc2
            all_goals
              refine AW_exit ?_
              refine AW_id ?_
              refine AW_r rfl rfl fun K hK => ?_
              simp (disch := omega) [wrap64, List.getElem?_eq_getElem, toNat_pred, DtUp.cells, mkS_el, mkUp]
              repeat' first | (exfalso; omega) | (refine ⟨fun _ => ?_, fun _ => ?_⟩) | (refine ⟨by omega, ?_⟩) | (intro _)
              all_goals (refine hK _ ?_; clear hK K)
              all_goals
                refine AW_ret (end_s ?_)
                simp (disch := omega) [wrap64, List.getElem?_eq_getElem, toNat_pred, DtUp.cells, mkS_el, mkUp]
                all_goals first | omega | ((have e : i = us.length := by omega); subst e; rw [List.take_of_length_le (by omega)])
theorem toUpX (u : DtUp) (hs : DtUp.sz u ≤ 1048576) : XCall Try.prog 61 [.agg (DtUp.cells u)] [] (.agg [.s u.fChunk, .arr 16 0 u.fNodes.length, .g (.int .i64 u.fEpoch)]) [] [.own 1 (u.fNodes.map cI)] := by
  simp only [DtUp.sz] at hs
  refine xcall_of_walk Try.func61 (by rfl) (by rfl) (by rw [Try.ntmps61]; exact Nat.le_of_ble_eq_true rfl) rfl (by simp) rfl rfl ?_
  rw [Try.ntmps61]
  refine AW_x0   ?_
  refine AW_k [(0, _)] ⟨rfl, trivial⟩ ?_
  refine AW_x rfl rfl fun K hK => ?_
  simp (disch := omega) [wrap64, List.getElem?_eq_getElem, toNat_pred, DtUp.cells]
  repeat' first | (exfalso; omega) | (refine ⟨fun _ => ?_, fun _ => ?_⟩) | (refine ⟨by omega, ?_⟩) | (intro _)
  all_goals (refine hK _ ?_; clear hK K)
  all_goals
    refine AW_x rfl rfl fun K hK => ?_
    simp (disch := omega) [wrap64, List.getElem?_eq_getElem, toNat_pred, DtUp.cells]
    repeat' first | (exfalso; omega) | (refine ⟨fun _ => ?_, fun _ => ?_⟩) | (refine ⟨by omega, ?_⟩) | (intro _)
    all_goals (refine hK _ ?_; clear hK K)
    all_goals
      refine AW_x rfl rfl fun K hK => ?_
      simp (disch := omega) [wrap64, List.getElem?_eq_getElem, toNat_pred, DtUp.cells]
      repeat' first | (exfalso; omega) | (refine ⟨fun _ => ?_, fun _ => ?_⟩) | (refine ⟨by omega, ?_⟩) | (intro _)
      all_goals (refine hK _ ?_; clear hK K)
      all_goals
        refine AW_x rfl rfl fun K hK => ?_
        simp (disch := omega) [wrap64, List.getElem?_eq_getElem, toNat_pred, DtUp.cells]
        repeat' first | (exfalso; omega) | (refine XKd_x [] true [] (toIntSX u.fNodes (by omega)) ?_ ?_ ?_; (focus (simp [List.range_succ, nmC]; done)); (focus (simp (disch := omega) [wrap64, List.getElem?_eq_getElem, toNat_pred, DtUp.cells, take_map_n]; done)); simp (disch := omega) [wrap64, List.getElem?_eq_getElem, toNat_pred, DtUp.cells]) | (refine ⟨fun _ => ?_, fun _ => ?_⟩) | (refine ⟨by omega, ?_⟩) | (intro _)
        all_goals (refine hK _ ?_; clear hK K)
        all_goals
          refine AW_x rfl rfl fun K hK => ?_
          simp (disch := omega) [wrap64, List.getElem?_eq_getElem, toNat_pred, DtUp.cells]
          repeat' first | (exfalso; omega) | (refine ⟨fun _ => ?_, fun _ => ?_⟩) | (refine ⟨by omega, ?_⟩) | (intro _)
          all_goals (refine hK _ ?_; clear hK K)
          all_goals
            refine AW_x rfl rfl fun K hK => ?_
            simp (disch := omega) [wrap64, List.getElem?_eq_getElem, toNat_pred, DtUp.cells]
            repeat' first | (exfalso; omega) | (refine ⟨fun _ => ?_, fun _ => ?_⟩) | (refine ⟨by omega, ?_⟩) | (intro _)
            all_goals (refine hK _ ?_; clear hK K)
            all_goals
              refine AW_ret (end_x [160] [] (by simp [List.range_succ, lk_cons, lk_nil, upd_app]) (by simp) ?_)
              simp (disch := omega) [wrap64, List.getElem?_eq_getElem, toNat_pred, DtUp.cells]
              all_goals skip
theorem toUpSX (us : List DtUp) (hs : szS DtUp.sz us ≤ 1048576) : XCall Try.prog 44 [.sl 3 (us.map DtUp.cells)] [] (.arr 16 0 us.length) [] [.own 3 (us.map DtUp.cells)] := by
  have hL : us.length ≤ 1048576 := by have := len_szS DtUp.sz_nonneg us; omega
  refine xcall_of_walk Try.func44 (by rfl) (by rfl) (by rw [Try.ntmps44]; exact Nat.le_of_ble_eq_true rfl) rfl (by simp) rfl rfl ?_
  rw [Try.ntmps44]
  refine AW_x0   ?_
  refine AW_k [(0, _)] ⟨rfl, trivial⟩ ?_
  refine AW_x rfl rfl fun K hK => ?_
  simp (disch := omega) [wrap64, List.getElem?_eq_getElem, toNat_pred, DtUp.cells, cpS_el, mset_get, List.range_succ]
  repeat' first | (exfalso; omega) | (refine ⟨fun _ => ?_, fun _ => ?_⟩) | (refine ⟨by omega, ?_⟩) | (intro _)
  all_goals (refine hK _ ?_; clear hK K)
  all_goals
    refine AW_x rfl rfl fun K hK => ?_
    simp (disch := omega) [wrap64, List.getElem?_eq_getElem, toNat_pred, DtUp.cells, cpS_el, mset_get, List.range_succ]
    repeat' first | (exfalso; omega) | (refine ⟨fun _ => ?_, fun _ => ?_⟩) | (refine ⟨by omega, ?_⟩) | (intro _)
    all_goals (refine hK _ ?_; clear hK K)
    all_goals
      refine AW_seq ?_
      refine AW_x rfl rfl fun K hK => ?_
      simp (disch := omega) [wrap64, List.getElem?_eq_getElem, toNat_pred, DtUp.cells, cpS_el, mset_get, List.range_succ]
      repeat' first | (exfalso; omega) | (refine ⟨fun _ => ?_, fun _ => ?_⟩) | (refine ⟨by omega, ?_⟩) | (intro _)
      all_goals (refine hK _ ?_; clear hK K)
      all_goals
        refine AW_block ?_
        refine AW_loopS (fun mM sS => ∃ (i : Nat), mM = us.length - i ∧ (i ≤ us.length) ∧ sS = { env := lkE [(0, .sl 3 (us.map DtUp.cells)), (3, .arr 128 0 us.length), (4, (.g (.int .i64 ((i : Nat)))))], ob := lk [(128, .own 3 (cpS [.s [], .g (.slice none 0 0), .g (.int .i64 0)] DtUp.cells us i))] }) ?_ ?_
        · refine ⟨_, LeS.kx [(128, 128)] [(0, .sl 3 (us.map DtUp.cells)), (3, .arr 128 0 us.length), (4, (.g (.int .i64 (((0) : Nat)))))] [(128, .own 3 (cpS [.s [], .g (.slice none 0 0), .g (.int .i64 0)] DtUp.cells us (0)))] (by simp [KpR, renV2, renV, upd_app, lkE_app, lk_cons, lk_nil, cpS_0, scR_rep]; try (first | rfl | (omega; done))) (by simp [KpOX, renO, plO, cvO, renV, pl1, lk_cons, lk_nil, upd_app, cpS_0, scR_rep]; try (first | rfl | (rw [← cpS_set _ _ _ i (by omega)]; simp [DtUp.cells]; done))) (by rfl) (by simp) (by simp) (by rfl) (by simp [formsX, List.range_succ, lk_cons, lk_nil]), _, 0, rfl, ?_, rfl⟩
          · simp
        · rintro mM sS ⟨i, rfl, hi, rfl⟩
          have hln : (cpS [.s [], .g (.slice none 0 0), .g (.int .i64 0)] DtUp.cells us i).length = us.length := cpS_len _ _ _ _ hi
          refine AW_seq ?_
          refine AW_x rfl rfl fun K hK => ?_
          simp (disch := omega) [wrap64, List.getElem?_eq_getElem, toNat_pred, DtUp.cells, cpS_el, mset_get, List.range_succ]
          repeat' first | (exfalso; omega) | (refine ⟨fun _ => ?_, fun _ => ?_⟩) | (refine ⟨by omega, ?_⟩) | (intro _)
          all_goals (refine hK _ ?_; clear hK K)
          all_goals
            refine AW_cond rfl (fun hc6 => ?_) (fun hc6 => ?_)
            · try simp at hc6
              all_goals
                have hsE : DtUp.sz us[i] ≤ 1048576 := by have := sumZ_mem_le DtUp.sz_nonneg us us[i] (List.getElem_mem _); simp only [szS] at hs; omega
                refine AW_skip ?_
                refine AW_id ?_
                refine AW_seq ?_
                refine AW_block ?_
                refine AW_xe rfl rfl fun K hK => ?_
                simp (disch := omega) [wrap64, List.getElem?_eq_getElem, toNat_pred, DtUp.cells, cpS_el, mset_get, List.range_succ]
                repeat' first | (exfalso; omega) | (refine XKd_x [] true [] (toUpX us[i] (by omega)) ?_ ?_ ?_; (focus (simp [List.range_succ, nmC]; done)); (focus (simp (disch := omega) [wrap64, List.getElem?_eq_getElem, toNat_pred, DtUp.cells, cpS_el, mset_get, List.range_succ, take_map_n]; done)); simp (disch := omega) [wrap64, List.getElem?_eq_getElem, toNat_pred, DtUp.cells, cpS_el, mset_get, List.range_succ]) | (refine ⟨fun _ => ?_, fun _ => ?_⟩) | (refine ⟨by omega, ?_⟩) | (intro _)
                all_goals (refine hK _ ?_; clear hK K)
                all_goals
                  refine AW_id ?_
                  refine AW_xe rfl rfl fun K hK => ?_
                  simp (disch := omega) [wrap64, List.getElem?_eq_getElem, toNat_pred, DtUp.cells, cpS_el, mset_get, List.range_succ]
                  repeat' first | (exfalso; omega) | (refine ⟨fun _ => ?_, fun _ => ?_⟩) | (refine ⟨by omega, ?_⟩) | (intro _)
                  all_goals (refine hK _ ?_; clear hK K)
                  all_goals
                    refine ⟨_, LeS.kx [(128, 128)] [(0, .sl 3 (us.map DtUp.cells)), (3, .arr 128 0 us.length), (4, (.g (.int .i64 (((i + 1) : Nat)))))] [(128, .own 3 (cpS [.s [], .g (.slice none 0 0), .g (.int .i64 0)] DtUp.cells us (i + 1)))] (by simp [KpR, renV2, renV, upd_app, lkE_app, lk_cons, lk_nil, cpS_0, scR_rep]; try (first | rfl | (omega; done))) (by simp [KpOX, renO, plO, cvO, renV, pl1, lk_cons, lk_nil, upd_app, cpS_0, scR_rep]; try (first | rfl | (rw [← cpS_set _ _ _ i (by omega)]; simp [DtUp.cells]; done))) (by rfl) (by simp) (by simp) (by rfl) (by simp [formsX, List.range_succ, lk_cons, lk_nil]), _, ?_, i + 1, rfl, ?_, rfl⟩
                    · omega
                    · omega
            · try simp at hc6
              all_goals
                refine AW_exit ?_
                refine AW_id ?_
                refine AW_x rfl rfl fun K hK => ?_
                simp (disch := omega) [wrap64, List.getElem?_eq_getElem, toNat_pred, DtUp.cells, cpS_el, mset_get, List.range_succ]
                repeat' first | (exfalso; omega) | (refine ⟨fun _ => ?_, fun _ => ?_⟩) | (refine ⟨by omega, ?_⟩) | (intro _)
                all_goals (refine hK _ ?_; clear hK K)
                all_goals
                  refine AW_ret (end_x [128] [] (by simp [List.range_succ, lk_cons, lk_nil, upd_app]) (by simp) ?_)
                  simp (disch := omega) [wrap64, List.getElem?_eq_getElem, toNat_pred, DtUp.cells, cpS_el, mset_get, List.range_succ]
                  all_goals (rw [cpS_n _ _ _ _ (by omega)])
def mkUps (k : Int) (u : DtUps) : DtUps := { fEpoch := k, fList := mkS mkUp cntUp (k + 1) u.fList }
def cntUps (u : DtUps) : Int := 1 + cntS cntUp u.fList
theorem cntUps_sz (u : DtUps) : cntUps u ≤ 16 * (1 + DtUps.sz u) := by
  have := cnt_sz cntUp_sz u.fList
  unfold cntUps
  simp only [DtUps.sz]
  omega
theorem toUpsX (u : DtUps) (hs : DtUps.sz u ≤ 1048576) : XCall Try.prog 27 [.agg (DtUps.cells u)] [] (.agg [.g (.int .i64 u.fEpoch), .arr 16 0 u.fList.length]) [] [.own 3 (u.fList.map DtUp.cells)] := by
  simp only [DtUps.sz] at hs
  have hz1 := len_szS DtUp.sz_nonneg u.fList
  refine xcall_of_walk Try.func27 (by rfl) (by rfl) (by rw [Try.ntmps27]; exact Nat.le_of_ble_eq_true rfl) rfl (by simp) rfl rfl ?_
  rw [Try.ntmps27]
  refine AW_x0   ?_
  refine AW_k [(0, _)] ⟨rfl, trivial⟩ ?_
  refine AW_x rfl rfl fun K hK => ?_
  simp (disch := omega) [wrap64, List.getElem?_eq_getElem, toNat_pred, DtUps.cells]
  repeat' first | (exfalso; omega) | (refine ⟨fun _ => ?_, fun _ => ?_⟩) | (refine ⟨by omega, ?_⟩) | (intro _)
  all_goals (refine hK _ ?_; clear hK K)
  all_goals
    refine AW_x rfl rfl fun K hK => ?_
    simp (disch := omega) [wrap64, List.getElem?_eq_getElem, toNat_pred, DtUps.cells]
    repeat' first | (exfalso; omega) | (refine ⟨fun _ => ?_, fun _ => ?_⟩) | (refine ⟨by omega, ?_⟩) | (intro _)
    all_goals (refine hK _ ?_; clear hK K)
    all_goals
      refine AW_x rfl rfl fun K hK => ?_
      simp (disch := omega) [wrap64, List.getElem?_eq_getElem, toNat_pred, DtUps.cells]
      repeat' first | (exfalso; omega) | (refine ⟨fun _ => ?_, fun _ => ?_⟩) | (refine ⟨by omega, ?_⟩) | (intro _)
      all_goals (refine hK _ ?_; clear hK K)
      all_goals
        refine AW_x rfl rfl fun K hK => ?_
        simp (disch := omega) [wrap64, List.getElem?_eq_getElem, toNat_pred, DtUps.cells]
        repeat' first | (exfalso; omega) | (refine XKd_x [] true [] (toUpSX u.fList (by omega)) ?_ ?_ ?_; (focus (simp [List.range_succ, nmC]; done)); (focus (simp (disch := omega) [wrap64, List.getElem?_eq_getElem, toNat_pred, DtUps.cells, take_map_n]; done)); simp (disch := omega) [wrap64, List.getElem?_eq_getElem, toNat_pred, DtUps.cells]) | (refine ⟨fun _ => ?_, fun _ => ?_⟩) | (refine ⟨by omega, ?_⟩) | (intro _)
        all_goals (refine hK _ ?_; clear hK K)
        all_goals
          refine AW_x rfl rfl fun K hK => ?_
          simp (disch := omega) [wrap64, List.getElem?_eq_getElem, toNat_pred, DtUps.cells]
          repeat' first | (exfalso; omega) | (refine ⟨fun _ => ?_, fun _ => ?_⟩) | (refine ⟨by omega, ?_⟩) | (intro _)
          all_goals (refine hK _ ?_; clear hK K)
          all_goals
            refine AW_ret (end_x [160] [] (by simp [List.range_succ, lk_cons, lk_nil, upd_app]) (by simp) ?_)
            simp (disch := omega) [wrap64, List.getElem?_eq_getElem, toNat_pred, DtUps.cells]
            all_goals skip
def mvUps (k : Int) (u : DtUps) : DtUps := { fEpoch := u.fEpoch, fList := mkS mkUp cntUp (k) u.fList }
def cvUps (u : DtUps) : Int := cntS cntUp u.fList
theorem cvUps_nn (u : DtUps) : 0 ≤ cvUps u := by
  have := cntS_nn cntUp_nn u.fList
  unfold cvUps
  omega
theorem markUps (u : DtUps) (k : Int) (hs : DtUps.sz u ≤ 1048576) (hk : 0 ≤ k ∧ k + cvUps u ≤ 1073741824) : XCall Try.prog 30 [.agg [.g (.int .i64 u.fEpoch), .arr 8 0 u.fList.length], (.g (.int .i64 (k)))] [.own 3 (u.fList.map DtUp.cells)] (.g (.int .i64 (k + cvUps u))) [.own 3 ((mkS mkUp cntUp (k) u.fList).map DtUp.cells)] [] := by
  simp only [DtUps.sz] at hs
  have hz1 := len_szS DtUp.sz_nonneg u.fList
  have hy1 := cntS_nn cntUp_nn u.fList
  simp only [cvUps] at hk
  simp only [cvUps]
  refine xcall_of_walk Try.func30 (by rfl) (by rfl) (by rw [Try.ntmps30]; exact Nat.le_of_ble_eq_true rfl) rfl (by simp) rfl rfl ?_
  rw [Try.ntmps30]
  refine AW_x1 (.own 3 (u.fList.map DtUp.cells)) (by simp [cvO]) ?_
  refine AW_k [(0, _), (1, _)] ⟨rfl, rfl, trivial⟩ ?_
  refine AW_x rfl rfl fun K hK => ?_
  simp (disch := omega) [wrap64, List.getElem?_eq_getElem, toNat_pred, DtUps.cells]
  repeat' first | (exfalso; omega) | (refine ⟨fun _ => ?_, fun _ => ?_⟩) | (refine ⟨by omega, ?_⟩) | (intro _)
  all_goals (refine hK _ ?_; clear hK K)
  all_goals
    refine AW_x rfl rfl fun K hK => ?_
    simp (disch := omega) [wrap64, List.getElem?_eq_getElem, toNat_pred, DtUps.cells]
    repeat' first | (exfalso; omega) | (refine XKd_x [8] true [] (markUpS u.fList _ (by omega) (by omega)) ?_ ?_ ?_; (focus (simp [List.range_succ, nmC]; done)); (focus (simp (disch := omega) [wrap64, List.getElem?_eq_getElem, toNat_pred, DtUps.cells, take_map_n]; done)); simp (disch := omega) [wrap64, List.getElem?_eq_getElem, toNat_pred, DtUps.cells]) | (refine ⟨fun _ => ?_, fun _ => ?_⟩) | (refine ⟨by omega, ?_⟩) | (intro _)
    all_goals (refine hK _ ?_; clear hK K)
    all_goals
      refine AW_x rfl rfl fun K hK => ?_
      simp (disch := omega) [wrap64, List.getElem?_eq_getElem, toNat_pred, DtUps.cells]
      repeat' first | (exfalso; omega) | (refine ⟨fun _ => ?_, fun _ => ?_⟩) | (refine ⟨by omega, ?_⟩) | (intro _)
      all_goals (refine hK _ ?_; clear hK K)
      all_goals
        refine AW_ret (end_x [] [] (by simp [List.range_succ, lk_cons, lk_nil, upd_app]) (by simp) ?_)
        simp (disch := omega) [wrap64, List.getElem?_eq_getElem, toNat_pred, DtUps.cells]
        all_goals (first | omega | skip)
theorem heldUps (u : DtUps) (k : Int) (hs : DtUps.sz u ≤ 1048576) (hk : 0 ≤ k ∧ k + cvUps u ≤ 1073741824) : PCall Try.prog 31 [.agg (DtUps.cells (mvUps k u)), (.g (.int .i64 (k)))] (.g (.int .i64 (k + cvUps u))) := by
  simp only [DtUps.sz] at hs
  have hz1 := len_szS DtUp.sz_nonneg u.fList
  have hy1 := cntS_nn cntUp_nn u.fList
  simp only [cvUps] at hk
  simp only [cvUps]
  refine gcall_of_walk Try.func31 (by rfl) (by rfl) (by rw [Try.ntmps31]; exact Nat.le_of_ble_eq_true rfl) rfl (by decide) ?_
  rw [Try.ntmps31]
  refine AW_k [(0, _), (1, _)] ⟨rfl, rfl, trivial⟩ ?_
  refine AW_r rfl rfl fun K hK => ?_
  simp (disch := omega) [wrap64, List.getElem?_eq_getElem, toNat_pred, DtUps.cells, mvUps]
  repeat' first | (exfalso; omega) | (refine ⟨fun _ => ?_, fun _ => ?_⟩) | (refine ⟨by omega, ?_⟩) | (intro _)
  all_goals (refine hK _ ?_; clear hK K)
  all_goals
    refine AW_r rfl rfl fun K hK => ?_
    simp (disch := omega) [wrap64, List.getElem?_eq_getElem, toNat_pred, DtUps.cells, mvUps]
    repeat' first | (exfalso; omega) | (refine CKd_v (am2s_cons am2_sl (am2s_cons am2_g am2s_nil)) (heldUpS u.fList _ (by omega) (by omega)) rfl ?_; simp (disch := omega) [wrap64, List.getElem?_eq_getElem, toNat_pred, DtUps.cells, mvUps]) | (refine ⟨fun _ => ?_, fun _ => ?_⟩) | (refine ⟨by omega, ?_⟩) | (intro _)
    all_goals (refine hK _ ?_; clear hK K)
    all_goals
      refine AW_seq ?_
      refine AW_r rfl rfl fun K hK => ?_
      simp (disch := omega) [wrap64, List.getElem?_eq_getElem, toNat_pred, DtUps.cells, mvUps]
      repeat' first | (exfalso; omega) | (refine ⟨fun _ => ?_, fun _ => ?_⟩) | (refine ⟨by omega, ?_⟩) | (intro _)
      all_goals (refine hK _ ?_; clear hK K)
      all_goals
        refine AW_cond rfl (fun hc7 => ?_) (fun hc7 => ?_)
        · try simp at hc7
          all_goals
            refine AW_r rfl rfl fun K hK => ?_
            simp (disch := omega) [wrap64, List.getElem?_eq_getElem, toNat_pred, DtUps.cells, mvUps]
            repeat' first | (exfalso; omega) | (refine ⟨fun _ => ?_, fun _ => ?_⟩) | (refine ⟨by omega, ?_⟩) | (intro _)
            all_goals (refine hK _ ?_; clear hK K)
            all_goals
              refine AW_ret (end_s ?_)
              simp (disch := omega) [wrap64, List.getElem?_eq_getElem, toNat_pred, DtUps.cells, mvUps]
              all_goals (first | omega | skip)
        · try simp at hc7
          all_goals
            refine AW_skip ?_
            refine AW_id ?_
            refine AW_r rfl rfl fun K hK => ?_
            simp (disch := omega) [wrap64, List.getElem?_eq_getElem, toNat_pred, DtUps.cells, mvUps]
            repeat' first | (exfalso; omega) | (refine ⟨fun _ => ?_, fun _ => ?_⟩) | (refine ⟨by omega, ?_⟩) | (intro _)
            all_goals (refine hK _ ?_; clear hK K)
            all_goals
              refine AW_ret (end_s ?_)
              simp (disch := omega) [wrap64, List.getElem?_eq_getElem, toNat_pred, DtUps.cells, mvUps]
              all_goals (first | omega | skip)
end Go.Proofs.Ytpaccfeiaekacaa.Vs
