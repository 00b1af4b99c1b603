import Derived.Test.YtopeonnaalpmjaaGreatSE4
open Go Go.Proofs Go.Proofs.YtopeonnaalpmjaaGreat.Vs
namespace Go.Proofs.YtopeonnaalpmjaaGreat.Vs
set_option linter.unusedVariables false
set_option linter.unusedSimpArgs false
set_option linter.unusedSectionVars false
set_option linter.unnecessarySimpa false
set_option linter.all false
set_option linter.unusedSimpArgs false
set_option linter.unusedVariables false
set_option maxRecDepth 100000
theorem l9Alike (xs ys : List DtId) (hn : xs.length ≤ 1048576) : PCall Tryz.prog 80 [.sl 2 (xs.map DtId.cells), .sl 2 (ys.map DtId.cells)] (.g (.bool (eqB xs ys))) := by
  refine gcall_of_walk Tryz.func80 (by rfl) (by rfl) (by rw [Tryz.ntmps80]; exact Nat.le_of_ble_eq_true rfl) rfl (by decide) ?_
  rw [Tryz.ntmps80]
  refine AW_k [(0, _), (1, _)] ⟨rfl, rfl, trivial⟩ ?_
  refine AW_r rfl rfl fun K hK => ?_
  simp (disch := omega) [wrap64, List.getElem?_eq_getElem, toNat_pred, DtId.cells, e2_id]
  repeat' first | (exfalso; omega) | (refine ⟨fun _ => ?_, fun _ => ?_⟩) | (refine ⟨by omega, ?_⟩) | (intro _)
  all_goals (refine hK _ ?_; clear hK K)
  all_goals
    refine AW_seq ?_
    refine AW_r rfl rfl fun K hK => ?_
    simp (disch := omega) [wrap64, List.getElem?_eq_getElem, toNat_pred, DtId.cells, e2_id]
    repeat' first | (exfalso; omega) | (refine ⟨fun _ => ?_, fun _ => ?_⟩) | (refine ⟨by omega, ?_⟩) | (intro _)
    all_goals (refine hK _ ?_; clear hK K)
    all_goals
      refine AW_cond rfl (fun hc1 => ?_) (fun hc1 => ?_)
      · try simp [decB_true, decB_false, eqB_true, eqB_false, cmpI_lt, cmpI_ge] at hc1
        all_goals
          refine AW_r rfl rfl fun K hK => ?_
          simp (disch := omega) [wrap64, List.getElem?_eq_getElem, toNat_pred, DtId.cells, e2_id]
          repeat' first | (exfalso; omega) | (refine ⟨fun _ => ?_, fun _ => ?_⟩) | (refine ⟨by omega, ?_⟩) | (intro _)
          all_goals (refine hK _ ?_; clear hK K)
          all_goals
            refine AW_ret (end_s ?_)
            simp (disch := omega) [wrap64, List.getElem?_eq_getElem, toNat_pred, DtId.cells, e2_id]
            all_goals first | (exact eqB_of heq) | (refine eqB_ne fun heq => ?_; subst heq; simp_all; done)
      · try simp [decB_true, decB_false, eqB_true, eqB_false, cmpI_lt, cmpI_ge] at hc1
        all_goals
          refine AW_skip ?_
          refine AW_id ?_
          refine AW_seq ?_
          refine AW_r rfl rfl fun K hK => ?_
          simp (disch := omega) [wrap64, List.getElem?_eq_getElem, toNat_pred, DtId.cells, e2_id]
          repeat' first | (exfalso; omega) | (refine ⟨fun _ => ?_, fun _ => ?_⟩) | (refine ⟨by omega, ?_⟩) | (intro _)
          all_goals (refine hK _ ?_; clear hK K)
          all_goals
            refine AW_block ?_
            refine AW_loopS (fun mM sS => ∃ (i : Nat), mM = xs.length - i ∧ (i ≤ xs.length ∧ ∀ j, j < i → xs[j]? = ys[j]?) ∧ sS = { env := lkE [(0, .sl 2 (xs.map DtId.cells)), (1, .sl 2 (ys.map DtId.cells)), (5, (.g (.int .i64 ((i : Nat)))))], ob := formOb [] [] }) ?_ ?_
            · refine ⟨_, LeS.kp [(0, .sl 2 (xs.map DtId.cells)), (1, .sl 2 (ys.map DtId.cells)), (5, (.g (.int .i64 (((0) : Nat)))))] (by simp [KpE, upd_app, lkE_app, lk_cons]; try rfl), _, 0, rfl, ?_, rfl⟩
              · simp
            · rintro mM sS ⟨i, rfl, ⟨hi, hpre⟩, rfl⟩
              refine AW_seq ?_
              refine AW_r rfl rfl fun K hK => ?_
              simp (disch := omega) [wrap64, List.getElem?_eq_getElem, toNat_pred, DtId.cells, e2_id]
              repeat' first | (exfalso; omega) | (refine ⟨fun _ => ?_, fun _ => ?_⟩) | (refine ⟨by omega, ?_⟩) | (intro _)
              all_goals (refine hK _ ?_; clear hK K)
              all_goals
                refine AW_cond rfl (fun hc2 => ?_) (fun hc2 => ?_)
                · try simp [decB_true, decB_false, eqB_true, eqB_false, cmpI_lt, cmpI_ge] at hc2
                  all_goals
                    have h7 : i < ys.length := by omega
                    have hx := id_ext xs[i] ys[i]
                    refine AW_skip ?_
                    refine AW_id ?_
                    refine AW_seq ?_
                    refine AW_block ?_
                    refine AW_q rfl mix (by kernel_rfl) rfl fun K hK => ?_
                    simp (disch := omega) [wrap64, List.getElem?_eq_getElem, toNat_pred, DtId.cells, e2_id]
                    repeat' first | (exfalso; omega) | (refine ⟨fun _ => ?_, fun _ => ?_⟩) | (refine ⟨by omega, ?_⟩) | (intro _)
                    all_goals (refine hK _ ?_; clear hK K)
                    all_goals
                      refine AW_cond rfl (fun hc3 => ?_) (fun hc3 => ?_)
                      · try simp [decB_true, decB_false, eqB_true, eqB_false, cmpI_lt, cmpI_ge] at hc3
                        all_goals
                          refine AW_r rfl rfl fun K hK => ?_
                          simp (disch := omega) [wrap64, List.getElem?_eq_getElem, toNat_pred, DtId.cells, e2_id]
                          repeat' first | (exfalso; omega) | (refine ⟨fun _ => ?_, fun _ => ?_⟩) | (refine ⟨by omega, ?_⟩) | (intro _)
                          all_goals (refine hK _ ?_; clear hK K)
                          all_goals
                            refine AW_ret (end_s ?_)
                            simp (disch := omega) [wrap64, List.getElem?_eq_getElem, toNat_pred, DtId.cells, e2_id]
                            all_goals first | (exact eqB_of heq) | (refine eqB_ne fun heq => ?_; subst heq; simp_all; done)
                      · try simp [decB_true, decB_false, eqB_true, eqB_false, cmpI_lt, cmpI_ge] at hc3
                        all_goals
                          refine AW_skip ?_
                          refine AW_id ?_
                          refine AW_re rfl rfl fun K hK => ?_
                          simp (disch := omega) [wrap64, List.getElem?_eq_getElem, toNat_pred, DtId.cells, e2_id]
                          repeat' first | (exfalso; omega) | (refine ⟨fun _ => ?_, fun _ => ?_⟩) | (refine ⟨by omega, ?_⟩) | (intro _)
                          all_goals (refine hK _ ?_; clear hK K)
                          all_goals
                            refine ⟨_, LeS.kp [(0, .sl 2 (xs.map DtId.cells)), (1, .sl 2 (ys.map DtId.cells)), (5, (.g (.int .i64 (((i + 1) : Nat)))))] (by simp [KpE, upd_app, lkE_app, lk_cons]; try rfl), _, ?_, i + 1, rfl, ?_, rfl⟩
                            · omega
                            · refine ⟨by omega, fun j hj => ?_⟩
                              by_cases hji : j = i
                              · subst hji; simp_all
                              · exact hpre j (by omega)
                · try simp [decB_true, decB_false, eqB_true, eqB_false, cmpI_lt, cmpI_ge] at hc2
                  all_goals
                    have hi2 : i = xs.length := by omega
                    subst hi2
                    have heq : xs = ys := List.ext_getElem? fun j => by
                      by_cases hj : j < xs.length
                      · exact hpre j hj
                      · rw [List.getElem?_eq_none (by omega), List.getElem?_eq_none (by omega)]
                    refine AW_exit ?_
                    refine AW_id ?_
                    refine AW_r rfl rfl fun K hK => ?_
                    simp (disch := omega) [wrap64, List.getElem?_eq_getElem, toNat_pred, DtId.cells, e2_id]
                    repeat' first | (exfalso; omega) | (refine ⟨fun _ => ?_, fun _ => ?_⟩) | (refine ⟨by omega, ?_⟩) | (intro _)
                    all_goals (refine hK _ ?_; clear hK K)
                    all_goals
                      refine AW_ret (end_s ?_)
                      simp (disch := omega) [wrap64, List.getElem?_eq_getElem, toNat_pred, DtId.cells, e2_id]
                      all_goals first | (exact eqB_of heq) | (refine eqB_ne fun heq => ?_; subst heq; simp_all; done)
theorem equalId (xs ys : List DtId) (hn : xs.length ≤ 1048576) : PCall Tryz.prog 94 [.sl 2 (xs.map DtId.cells), .sl 2 (ys.map DtId.cells)] (.g (.bool (eqB xs ys))) := by
  refine gcall_of_walk Tryz.func94 (by rfl) (by rfl) (by rw [Tryz.ntmps94]; exact Nat.le_of_ble_eq_true rfl) rfl (by decide) ?_
  rw [Tryz.ntmps94]
  refine AW_k [(0, _), (1, _)] ⟨rfl, rfl, trivial⟩ ?_
  refine AW_r rfl rfl fun K hK => ?_
  simp (disch := omega) [wrap64, List.getElem?_eq_getElem, toNat_pred, DtId.cells, e2_id]
  repeat' first | (exfalso; omega) | (refine ⟨fun _ => ?_, fun _ => ?_⟩) | (refine ⟨by omega, ?_⟩) | (intro _)
  all_goals (refine hK _ ?_; clear hK K)
  all_goals
    refine AW_seq ?_
    refine AW_r rfl rfl fun K hK => ?_
    simp (disch := omega) [wrap64, List.getElem?_eq_getElem, toNat_pred, DtId.cells, e2_id]
    repeat' first | (exfalso; omega) | (refine ⟨fun _ => ?_, fun _ => ?_⟩) | (refine ⟨by omega, ?_⟩) | (intro _)
    all_goals (refine hK _ ?_; clear hK K)
    all_goals
      refine AW_cond rfl (fun hc4 => ?_) (fun hc4 => ?_)
      · try simp [decB_true, decB_false, eqB_true, eqB_false, cmpI_lt, cmpI_ge] at hc4
        all_goals
          refine AW_r rfl rfl fun K hK => ?_
          simp (disch := omega) [wrap64, List.getElem?_eq_getElem, toNat_pred, DtId.cells, e2_id]
          repeat' first | (exfalso; omega) | (refine ⟨fun _ => ?_, fun _ => ?_⟩) | (refine ⟨by omega, ?_⟩) | (intro _)
          all_goals (refine hK _ ?_; clear hK K)
          all_goals
            refine AW_ret (end_s ?_)
            simp (disch := omega) [wrap64, List.getElem?_eq_getElem, toNat_pred, DtId.cells, e2_id]
            all_goals first | (exact eqB_of heq) | (refine eqB_ne fun heq => ?_; subst heq; simp_all; done)
      · try simp [decB_true, decB_false, eqB_true, eqB_false, cmpI_lt, cmpI_ge] at hc4
        all_goals
          refine AW_skip ?_
          refine AW_id ?_
          refine AW_seq ?_
          refine AW_r rfl rfl fun K hK => ?_
          simp (disch := omega) [wrap64, List.getElem?_eq_getElem, toNat_pred, DtId.cells, e2_id]
          repeat' first | (exfalso; omega) | (refine ⟨fun _ => ?_, fun _ => ?_⟩) | (refine ⟨by omega, ?_⟩) | (intro _)
          all_goals (refine hK _ ?_; clear hK K)
          all_goals
            refine AW_block ?_
            refine AW_loopS (fun mM sS => ∃ (i : Nat), mM = xs.length - i ∧ (i ≤ xs.length ∧ ∀ j, j < i → xs[j]? = ys[j]?) ∧ sS = { env := lkE [(0, .sl 2 (xs.map DtId.cells)), (1, .sl 2 (ys.map DtId.cells)), (12, (.g (.int .i64 ((xs.length : Nat))))), (13, (.g (.int .i64 ((i : Nat)))))], ob := formOb [] [] }) ?_ ?_
            · refine ⟨_, LeS.kp [(0, .sl 2 (xs.map DtId.cells)), (1, .sl 2 (ys.map DtId.cells)), (12, (.g (.int .i64 ((xs.length : Nat))))), (13, (.g (.int .i64 (((0) : Nat)))))] (by simp [KpE, upd_app, lkE_app, lk_cons]; try rfl), _, 0, rfl, ?_, rfl⟩
              · simp
            · rintro mM sS ⟨i, rfl, ⟨hi, hpre⟩, rfl⟩
              refine AW_r rfl rfl fun K hK => ?_
              simp (disch := omega) [wrap64, List.getElem?_eq_getElem, toNat_pred, DtId.cells, e2_id]
              repeat' first | (exfalso; omega) | (refine ⟨fun _ => ?_, fun _ => ?_⟩) | (refine ⟨by omega, ?_⟩) | (intro _)
              all_goals (refine hK _ ?_; clear hK K)
              all_goals
                refine AW_seq ?_
                refine AW_cond rfl (fun hc5 => ?_) (fun hc5 => ?_)
                · try simp [decB_true, decB_false, eqB_true, eqB_false, cmpI_lt, cmpI_ge] at hc5
                  all_goals
                    have h7 : i < ys.length := by omega
                    have hx := id_ext xs[i] ys[i]
                    refine AW_skip ?_
                    refine AW_id ?_
                    refine AW_seq ?_
                    refine AW_block ?_
                    refine AW_r rfl rfl fun K hK => ?_
                    simp (disch := omega) [wrap64, List.getElem?_eq_getElem, toNat_pred, DtId.cells, e2_id]
                    repeat' first | (exfalso; omega) | (refine ⟨fun _ => ?_, fun _ => ?_⟩) | (refine ⟨by omega, ?_⟩) | (intro _)
                    all_goals (refine hK _ ?_; clear hK K)
                    all_goals
                      refine AW_q rfl mix (by kernel_rfl) rfl fun K hK => ?_
                      simp (disch := omega) [wrap64, List.getElem?_eq_getElem, toNat_pred, DtId.cells, e2_id]
                      repeat' first | (exfalso; omega) | (refine ⟨fun _ => ?_, fun _ => ?_⟩) | (refine ⟨by omega, ?_⟩) | (intro _)
                      all_goals (refine hK _ ?_; clear hK K)
                      all_goals
                        refine AW_cond rfl (fun hc6 => ?_) (fun hc6 => ?_)
                        · try simp [decB_true, decB_false, eqB_true, eqB_false, cmpI_lt, cmpI_ge] at hc6
                          all_goals
                            refine AW_r rfl rfl fun K hK => ?_
                            simp (disch := omega) [wrap64, List.getElem?_eq_getElem, toNat_pred, DtId.cells, e2_id]
                            repeat' first | (exfalso; omega) | (refine ⟨fun _ => ?_, fun _ => ?_⟩) | (refine ⟨by omega, ?_⟩) | (intro _)
                            all_goals (refine hK _ ?_; clear hK K)
                            all_goals
                              refine AW_ret (end_s ?_)
                              simp (disch := omega) [wrap64, List.getElem?_eq_getElem, toNat_pred, DtId.cells, e2_id]
                              all_goals first | (exact eqB_of heq) | (refine eqB_ne fun heq => ?_; subst heq; simp_all; done)
                        · try simp [decB_true, decB_false, eqB_true, eqB_false, cmpI_lt, cmpI_ge] at hc6
                          all_goals
                            refine AW_skip ?_
                            refine AW_id ?_
                            refine AW_re rfl rfl fun K hK => ?_
                            simp (disch := omega) [wrap64, List.getElem?_eq_getElem, toNat_pred, DtId.cells, e2_id]
                            repeat' first | (exfalso; omega) | (refine ⟨fun _ => ?_, fun _ => ?_⟩) | (refine ⟨by omega, ?_⟩) | (intro _)
                            all_goals (refine hK _ ?_; clear hK K)
                            all_goals
                              refine ⟨_, LeS.kp [(0, .sl 2 (xs.map DtId.cells)), (1, .sl 2 (ys.map DtId.cells)), (12, (.g (.int .i64 ((xs.length : Nat))))), (13, (.g (.int .i64 (((i + 1) : Nat)))))] (by simp [KpE, upd_app, lkE_app, lk_cons]; try rfl), _, ?_, i + 1, rfl, ?_, rfl⟩
                              · omega
                              · refine ⟨by omega, fun j hj => ?_⟩
                                by_cases hji : j = i
                                · subst hji; simp_all
                                · exact hpre j (by omega)
                · try simp [decB_true, decB_false, eqB_true, eqB_false, cmpI_lt, cmpI_ge] at hc5
                  all_goals
                    have hi2 : i = xs.length := by omega
                    subst hi2
                    have heq : xs = ys := List.ext_getElem? fun j => by
                      by_cases hj : j < xs.length
                      · exact hpre j hj
                      · rw [List.getElem?_eq_none (by omega), List.getElem?_eq_none (by omega)]
                    refine AW_exit ?_
                    refine AW_id ?_
                    refine AW_r rfl rfl fun K hK => ?_
                    simp (disch := omega) [wrap64, List.getElem?_eq_getElem, toNat_pred, DtId.cells, e2_id]
                    repeat' first | (exfalso; omega) | (refine ⟨fun _ => ?_, fun _ => ?_⟩) | (refine ⟨by omega, ?_⟩) | (intro _)
                    all_goals (refine hK _ ?_; clear hK K)
                    all_goals
                      refine AW_ret (end_s ?_)
                      simp (disch := omega) [wrap64, List.getElem?_eq_getElem, toNat_pred, DtId.cells, e2_id]
                      all_goals first | (exact eqB_of heq) | (refine eqB_ne fun heq => ?_; subst heq; simp_all; done)
theorem specSameMsg (a b : DtEMsg) (hd : a.fDeps.length ≤ 1048576) (hc : a.fCmd.fChunks.length ≤ 1048576) : PCall Tryz.prog 46 [.agg (DtEMsg.cells a), .agg (DtEMsg.cells b)] (.g (.bool (eqB a b))) := by
  have he := DtEMsg.ext_iff a b
  have hi := id_ext a.fId b.fId
  refine gcall_of_walk Tryz.func46 (by rfl) (by rfl) (by rw [Tryz.ntmps46]; exact Nat.le_of_ble_eq_true rfl) rfl (by decide) ?_
  rw [Tryz.ntmps46]
  refine AW_k [(0, _), (1, _)] ⟨rfl, rfl, trivial⟩ ?_
  refine AW_r rfl rfl fun K hK => ?_
  simp [DtEMsg.cells, DtId.cells, DtCmd.cells, e2_id]
  repeat' first | (refine ⟨fun _ => ?_, fun _ => ?_⟩) | (refine ⟨by omega, ?_⟩) | (intro _)
  all_goals (refine hK _ ?_; clear hK K)
  all_goals
    refine AW_r rfl rfl fun K hK => ?_
    simp [DtEMsg.cells, DtId.cells, DtCmd.cells, e2_id]
    repeat' first | (refine CKd_v (am2s_cons (am2_agg rfl) (am2s_cons (am2_agg rfl) am2s_nil)) (specSameCmd _ _ (by assumption)) rfl ?_; simp [DtEMsg.cells, DtId.cells, DtCmd.cells, e2_id]) | (refine CKd_v (am2s_cons am2_sl (am2s_cons am2_sl am2s_nil)) (l9Alike _ _ (by assumption)) rfl ?_; simp [DtEMsg.cells, DtId.cells, DtCmd.cells, e2_id]) | (refine ⟨fun _ => ?_, fun _ => ?_⟩) | (refine ⟨by omega, ?_⟩) | (intro _)
    all_goals (refine hK _ ?_; clear hK K)
    all_goals
      refine AW_ret (end_s ?_)
      simp [DtEMsg.cells, DtId.cells, DtCmd.cells, e2_id]
      all_goals first | (refine eqB_ne fun h => ?_; rw [he] at h; simp_all [eqB_true, eqB_false]; done) | (rw [Bool.eq_iff_iff, eqB_true, he]; simp_all [eqB_true]; done) | (rw [Bool.eq_iff_iff, eqB_true, he]; simp_all [eqB_true, eqB_false])
theorem implSameMsg (a b : DtEMsg) (hd : a.fDeps.length ≤ 1048576) (hc : a.fCmd.fChunks.length ≤ 1048576) : PCall Tryz.prog 63 [.agg (DtEMsg.cells a), .agg (DtEMsg.cells b)] (.g (.bool (eqB a b))) := by
  have he := DtEMsg.ext_iff a b
  have hi := id_ext a.fId b.fId
  refine gcall_of_walk Tryz.func63 (by rfl) (by rfl) (by rw [Tryz.ntmps63]; exact Nat.le_of_ble_eq_true rfl) rfl (by decide) ?_
  rw [Tryz.ntmps63]
  refine AW_k [(0, _), (1, _)] ⟨rfl, rfl, trivial⟩ ?_
  refine AW_r rfl rfl fun K hK => ?_
  simp [DtEMsg.cells, DtId.cells, DtCmd.cells, e2_id]
  repeat' first | (refine ⟨fun _ => ?_, fun _ => ?_⟩) | (refine ⟨by omega, ?_⟩) | (intro _)
  all_goals (refine hK _ ?_; clear hK K)
  all_goals
    refine AW_r rfl rfl fun K hK => ?_
    simp [DtEMsg.cells, DtId.cells, DtCmd.cells, e2_id]
    repeat' first | (refine CKd_v (am2s_cons (am2_agg rfl) (am2s_cons (am2_agg rfl) am2s_nil)) (implSameCmd _ _ (by assumption)) rfl ?_; simp [DtEMsg.cells, DtId.cells, DtCmd.cells, e2_id]) | (refine CKd_v (am2s_cons am2_sl (am2s_cons am2_sl am2s_nil)) (equalId _ _ (by assumption)) rfl ?_; simp [DtEMsg.cells, DtId.cells, DtCmd.cells, e2_id]) | (refine ⟨fun _ => ?_, fun _ => ?_⟩) | (refine ⟨by omega, ?_⟩) | (intro _)
    all_goals (refine hK _ ?_; clear hK K)
    all_goals
      refine AW_ret (end_s ?_)
      simp [DtEMsg.cells, DtId.cells, DtCmd.cells, e2_id]
      all_goals first | (refine eqB_ne fun h => ?_; rw [he] at h; simp_all [eqB_true, eqB_false]; done) | (rw [Bool.eq_iff_iff, eqB_true, he]; simp_all [eqB_true]; done) | (rw [Bool.eq_iff_iff, eqB_true, he]; simp_all [eqB_true, eqB_false])
def MsgP (m : DtEMsg) : Prop := 1 ≤ m.fKind ∧ m.fKind ≤ 7 ∧ 0 ≤ m.fFrom ∧ m.fFrom ≤ 2 ∧ 0 ≤ m.fTo ∧ m.fTo ≤ 2 ∧ m.fFrom ≠ m.fTo ∧ IdP m.fId ∧ 0 ≤ m.fBal ∧ m.fBal ≤ 600 ∧ CmdP m.fCmd ∧ 0 ≤ m.fSeq ∧ m.fSeq ≤ 60 ∧ IdsP m.fDeps ∧ ¬ m.fId ∈ m.fDeps ∧ 0 ≤ m.fStatus ∧ m.fStatus ≤ 3 ∧ -1 ≤ m.fVBal ∧ m.fVBal ≤ 600
theorem specEMsgOk (m : DtEMsg) (hd : m.fDeps.length ≤ 1048576) (hc : DtCmd.sz m.fCmd ≤ 1048576) : PCall Tryz.prog 22 [.agg (DtEMsg.cells m)] (.g (.bool (decB (MsgP m)))) := by
  refine gcall_of_walk Tryz.func22 (by rfl) (by rfl) (by rw [Tryz.ntmps22]; exact Nat.le_of_ble_eq_true rfl) rfl (by decide) ?_
  rw [Tryz.ntmps22]
  refine AW_k [(0, _)] ⟨rfl, trivial⟩ ?_
  refine AW_r rfl rfl fun K hK => ?_
  simp (disch := omega) [wrap64, List.getElem?_eq_getElem, toNat_pred, DtEMsg.cells, DtId.cells, DtCmd.cells, decB_true, decB_false]
  repeat' first | (exfalso; omega) | (refine ⟨fun _ => ?_, fun _ => ?_⟩) | (refine ⟨by omega, ?_⟩) | (intro _)
  all_goals (refine hK _ ?_; clear hK K)
  all_goals
    refine AW_r rfl rfl fun K hK => ?_
    simp (disch := omega) [wrap64, List.getElem?_eq_getElem, toNat_pred, DtEMsg.cells, DtId.cells, DtCmd.cells, decB_true, decB_false]
    repeat' first | (exfalso; omega) | (refine CKd_v (am2s_cons am2_g (am2s_cons am2_g (am2s_cons am2_g am2s_nil))) (l1In _ _ _) rfl ?_; simp (disch := omega) [wrap64, List.getElem?_eq_getElem, toNat_pred, DtEMsg.cells, DtId.cells, DtCmd.cells, decB_true, decB_false]) | (refine CKd_v (am2s_cons am2_g am2s_nil) (l9Node _) rfl ?_; simp (disch := omega) [wrap64, List.getElem?_eq_getElem, toNat_pred, DtEMsg.cells, DtId.cells, DtCmd.cells, decB_true, decB_false]) | (refine CKd_v (am2s_cons (am2_agg rfl) am2s_nil) (l8Id _) rfl ?_; simp (disch := omega) [wrap64, List.getElem?_eq_getElem, toNat_pred, DtEMsg.cells, DtId.cells, DtCmd.cells, decB_true, decB_false]) | (refine CKd_v (am2s_cons (am2_agg rfl) am2s_nil) (specCmdOk _ (by assumption)) rfl ?_; simp (disch := omega) [wrap64, List.getElem?_eq_getElem, toNat_pred, DtEMsg.cells, DtId.cells, DtCmd.cells, decB_true, decB_false]) | (refine CKd_v (am2s_cons am2_sl am2s_nil) (specIdsOk _ (by assumption)) rfl ?_; simp (disch := omega) [wrap64, List.getElem?_eq_getElem, toNat_pred, DtEMsg.cells, DtId.cells, DtCmd.cells, decB_true, decB_false]) | (refine CKd_v (am2s_cons am2_sl (am2s_cons (am2_agg rfl) am2s_nil)) (l8Has _ _ (by assumption)) rfl ?_; simp (disch := omega) [wrap64, List.getElem?_eq_getElem, toNat_pred, DtEMsg.cells, DtId.cells, DtCmd.cells, decB_true, decB_false]) | (refine ⟨fun _ => ?_, fun _ => ?_⟩) | (refine ⟨by omega, ?_⟩) | (intro _)
    all_goals (refine hK _ ?_; clear hK K)
    all_goals
      refine AW_ret (end_s ?_)
      simp (disch := omega) [wrap64, List.getElem?_eq_getElem, toNat_pred, DtEMsg.cells, DtId.cells, DtCmd.cells, decB_true, decB_false]
      all_goals first | grind [MsgP] | (refine decB_f fun h => ?_; grind [MsgP]) | (refine decB_t ?_; grind [MsgP]) | (rw [Bool.eq_iff_iff, decB_true]; simp; grind [MsgP])
theorem implEMsgOk (m : DtEMsg) (hd : m.fDeps.length ≤ 1048576) (hc : DtCmd.sz m.fCmd ≤ 1048576) : PCall Tryz.prog 27 [.agg (DtEMsg.cells m)] (.g (.bool (decB (MsgP m)))) := by
  refine gcall_of_walk Tryz.func27 (by rfl) (by rfl) (by rw [Tryz.ntmps27]; exact Nat.le_of_ble_eq_true rfl) rfl (by decide) ?_
  rw [Tryz.ntmps27]
  refine AW_k [(0, _)] ⟨rfl, trivial⟩ ?_
  refine AW_r rfl rfl fun K hK => ?_
  simp (disch := omega) [wrap64, List.getElem?_eq_getElem, toNat_pred, DtEMsg.cells, DtId.cells, DtCmd.cells, decB_true, decB_false]
  repeat' first | (exfalso; omega) | (refine ⟨fun _ => ?_, fun _ => ?_⟩) | (refine ⟨by omega, ?_⟩) | (intro _)
  all_goals (refine hK _ ?_; clear hK K)
  all_goals
    refine AW_r rfl rfl fun K hK => ?_
    simp (disch := omega) [wrap64, List.getElem?_eq_getElem, toNat_pred, DtEMsg.cells, DtId.cells, DtCmd.cells, decB_true, decB_false]
    repeat' first | (exfalso; omega) | (refine CKd_v (am2s_cons am2_g (am2s_cons am2_g (am2s_cons am2_g am2s_nil))) (within _ _ _) rfl ?_; simp (disch := omega) [wrap64, List.getElem?_eq_getElem, toNat_pred, DtEMsg.cells, DtId.cells, DtCmd.cells, decB_true, decB_false]) | (refine CKd_v (am2s_cons am2_g am2s_nil) (isRep _) rfl ?_; simp (disch := omega) [wrap64, List.getElem?_eq_getElem, toNat_pred, DtEMsg.cells, DtId.cells, DtCmd.cells, decB_true, decB_false]) | (refine CKd_v (am2s_cons (am2_agg rfl) am2s_nil) (idOk _) rfl ?_; simp (disch := omega) [wrap64, List.getElem?_eq_getElem, toNat_pred, DtEMsg.cells, DtId.cells, DtCmd.cells, decB_true, decB_false]) | (refine CKd_v (am2s_cons (am2_agg rfl) am2s_nil) (implCmdOk _ (by assumption)) rfl ?_; simp (disch := omega) [wrap64, List.getElem?_eq_getElem, toNat_pred, DtEMsg.cells, DtId.cells, DtCmd.cells, decB_true, decB_false]) | (refine CKd_v (am2s_cons am2_sl (am2s_cons (am2_agg rfl) am2s_nil)) (areDeps _ _ (by assumption)) rfl ?_; simp (disch := omega) [wrap64, List.getElem?_eq_getElem, toNat_pred, DtEMsg.cells, DtId.cells, DtCmd.cells, decB_true, decB_false]) | (refine ⟨fun _ => ?_, fun _ => ?_⟩) | (refine ⟨by omega, ?_⟩) | (intro _)
    all_goals (refine hK _ ?_; clear hK K)
    all_goals
      refine AW_ret (end_s ?_)
      simp (disch := omega) [wrap64, List.getElem?_eq_getElem, toNat_pred, DtEMsg.cells, DtId.cells, DtCmd.cells, decB_true, decB_false]
      all_goals first | grind [MsgP] | (refine decB_f fun h => ?_; grind [MsgP]) | (refine decB_t ?_; grind [MsgP]) | (rw [Bool.eq_iff_iff, decB_true]; simp; grind [MsgP])
end Go.Proofs.YtopeonnaalpmjaaGreat.Vs
