import Derived.Test.YtopeonnaalpmjaaGreatSE3
open Go Go.Proofs Go.Proofs.YtopeonnaalpmjaaGreat.Vs
namespace Go.Proofs.YtopeonnaalpmjaaGreat.Vs
set_option linter.unusedVariables false
set_option linter.unusedSimpArgs false
set_option linter.unusedSectionVars false
set_option linter.unnecessarySimpa false
set_option linter.all false
set_option linter.unusedSimpArgs false
set_option linter.unusedVariables false
set_option maxRecDepth 100000
def ENodeP (n : DtENode) : Prop := 0 ≤ n.fMe ∧ n.fMe ≤ 2 ∧ 1 ≤ n.fNext ∧ n.fNext ≤ 7 ∧ InstsP n.fInsts ∧ n.fLeads.length ≤ 8 ∧ (∀ (i : Nat) x, n.fInsts[i]? = some x → ¬ (x.fId.fRep = n.fMe ∧ n.fNext ≤ x.fId.fSlot)) ∧ ∀ (i : Nat) l, n.fLeads[i]? = some l → LeadP l ∧ leadAt n.fLeads l.fId = i
theorem nodeSz (n : DtENode) (hs : DtENode.sz n ≤ 1048576) : szS DtInst.sz n.fInsts ≤ 1048576 ∧ n.fInsts.length ≤ 1048576 ∧ n.fLeads.length ≤ 1048576 ∧ ∀ i (h : i < n.fLeads.length), n.fLeads[i].fDeps.length ≤ 1048576 ∧ n.fLeads[i].fFrom.length ≤ 1048576 := by
  have h0 := sumZ_nonneg DtInst.sz_nonneg n.fInsts
  have h1 := sumZ_nonneg DtLead.sz_nonneg n.fLeads
  simp only [DtENode.sz, szS] at hs
  refine ⟨by simp only [szS]; omega, by omega, by omega, fun i h => ?_⟩
  have h2 := sumZ_mem_le DtLead.sz_nonneg n.fLeads n.fLeads[i] (List.getElem_mem _)
  simp only [DtLead.sz] at h2
  omega
theorem specENodeOk (n : DtENode) (hs : DtENode.sz n ≤ 1048576) : PCall Tryz.prog 21 [.agg (DtENode.cells n)] (.g (.bool (decB (ENodeP n)))) := by
  have ⟨hl1, hl2, hl3, hl4⟩ := nodeSz n hs
  refine gcall_of_walk Tryz.func21 (by rfl) (by rfl) (by rw [Tryz.ntmps21]; exact Nat.le_of_ble_eq_true rfl) rfl (by decide) ?_
  rw [Tryz.ntmps21]
  refine AW_k [(0, _)] ⟨rfl, trivial⟩ ?_
  refine AW_r rfl rfl fun K hK => ?_
  simp (disch := omega) [wrap64, List.getElem?_eq_getElem, toNat_pred, DtENode.cells, DtInst.cells, DtLead.cells, DtId.cells, decB_true, decB_false]
  repeat' first | (exfalso; omega) | (refine ⟨fun _ => ?_, fun _ => ?_⟩) | (refine ⟨by omega, ?_⟩) | (intro _)
  all_goals (refine hK _ ?_; clear hK K)
  all_goals
    refine AW_seq ?_
    refine AW_r rfl rfl fun K hK => ?_
    simp (disch := omega) [wrap64, List.getElem?_eq_getElem, toNat_pred, DtENode.cells, DtInst.cells, DtLead.cells, DtId.cells, decB_true, decB_false]
    repeat' first | (exfalso; omega) | (refine CKd_v (am2s_cons am2_g am2s_nil) (l9Node _) rfl ?_; simp (disch := omega) [wrap64, List.getElem?_eq_getElem, toNat_pred, DtENode.cells, DtInst.cells, DtLead.cells, DtId.cells, decB_true, decB_false]) | (refine CKd_v (am2s_cons am2_g (am2s_cons am2_g (am2s_cons am2_g am2s_nil))) (l1In _ _ _) rfl ?_; simp (disch := omega) [wrap64, List.getElem?_eq_getElem, toNat_pred, DtENode.cells, DtInst.cells, DtLead.cells, DtId.cells, decB_true, decB_false]) | (refine CKd_v (am2s_cons am2_sl am2s_nil) (specInstsOk _ (by assumption)) rfl ?_; simp (disch := omega) [wrap64, List.getElem?_eq_getElem, toNat_pred, DtENode.cells, DtInst.cells, DtLead.cells, DtId.cells, decB_true, decB_false]) | (refine ⟨fun _ => ?_, fun _ => ?_⟩) | (refine ⟨by omega, ?_⟩) | (intro _)
    all_goals (refine hK _ ?_; clear hK K)
    all_goals
      refine AW_cond rfl (fun hc1 => ?_) (fun hc1 => ?_)
      · try simp [decB_true, decB_false, eqB_true, eqB_false, cmpI_lt, cmpI_ge] at hc1
        all_goals
          refine AW_r rfl rfl fun K hK => ?_
          simp (disch := omega) [wrap64, List.getElem?_eq_getElem, toNat_pred, DtENode.cells, DtInst.cells, DtLead.cells, DtId.cells, decB_true, decB_false]
          repeat' first | (exfalso; omega) | (refine ⟨fun _ => ?_, fun _ => ?_⟩) | (refine ⟨by omega, ?_⟩) | (intro _)
          all_goals (refine hK _ ?_; clear hK K)
          all_goals
            refine AW_ret (end_s ?_)
            simp (disch := omega) [wrap64, List.getElem?_eq_getElem, toNat_pred, DtENode.cells, DtInst.cells, DtLead.cells, DtId.cells, decB_true, decB_false]
            all_goals first | grind [ENodeP] | (refine decB_f fun h => ?_; grind [ENodeP]) | (refine decB_t ?_; grind [ENodeP])
      · try simp [decB_true, decB_false, eqB_true, eqB_false, cmpI_lt, cmpI_ge] at hc1
        all_goals
          refine AW_skip ?_
          refine AW_id ?_
          refine AW_seq ?_
          refine AW_r rfl rfl fun K hK => ?_
          simp (disch := omega) [wrap64, List.getElem?_eq_getElem, toNat_pred, DtENode.cells, DtInst.cells, DtLead.cells, DtId.cells, decB_true, decB_false]
          repeat' first | (exfalso; omega) | (refine ⟨fun _ => ?_, fun _ => ?_⟩) | (refine ⟨by omega, ?_⟩) | (intro _)
          all_goals (refine hK _ ?_; clear hK K)
          all_goals
            refine AW_block ?_
            refine AW_loopS (fun mM sS => ∃ (i : Nat), mM = n.fInsts.length - i ∧ (i ≤ n.fInsts.length ∧ ∀ (j : Nat) x, j < i → n.fInsts[j]? = some x → ¬ (x.fId.fRep = n.fMe ∧ n.fNext ≤ x.fId.fSlot)) ∧ sS = { env := lkE [(1, .ptr 32 0), (3, (.g (.int .i64 ((i : Nat)))))], ob := lk [(32, .cells (DtENode.cells n))] }) ?_ ?_
            · refine ⟨_, LeS.ko [(1, .ptr 32 0), (3, (.g (.int .i64 (((0) : Nat)))))] [(32, .cells (DtENode.cells n))] (by simp [KpE, upd_app, lkE_app, lk_cons, DtENode.cells]; try rfl) (by simp [KpO, upd_app, lk_cons, lk_nil, formOb_nn, DtENode.cells]; try rfl) (by rfl) (by simp) (by rfl), _, 0, rfl, ?_, rfl⟩
              · simp
            · rintro mM sS ⟨i, rfl, ⟨hi, hpre⟩, rfl⟩
              refine AW_seq ?_
              refine AW_r rfl rfl fun K hK => ?_
              simp (disch := omega) [wrap64, List.getElem?_eq_getElem, toNat_pred, DtENode.cells, DtInst.cells, DtLead.cells, DtId.cells, decB_true, decB_false]
              repeat' first | (exfalso; omega) | (refine ⟨fun _ => ?_, fun _ => ?_⟩) | (refine ⟨by omega, ?_⟩) | (intro _)
              all_goals (refine hK _ ?_; clear hK K)
              all_goals
                refine AW_cond rfl (fun hc2 => ?_) (fun hc2 => ?_)
                · try simp [decB_true, decB_false, eqB_true, eqB_false, cmpI_lt, cmpI_ge] at hc2
                  all_goals
                    have hg : n.fInsts[i]? = some n.fInsts[i] := List.getElem?_eq_getElem (by omega)
                    refine AW_skip ?_
                    refine AW_id ?_
                    refine AW_seq ?_
                    refine AW_block ?_
                    refine AW_q rfl mix (by kernel_rfl) rfl fun K hK => ?_
                    simp (disch := omega) [wrap64, List.getElem?_eq_getElem, toNat_pred, DtENode.cells, DtInst.cells, DtLead.cells, DtId.cells, decB_true, decB_false]
                    repeat' first | (exfalso; omega) | (refine ⟨fun _ => ?_, fun _ => ?_⟩) | (refine ⟨by omega, ?_⟩) | (intro _)
                    all_goals (refine hK _ ?_; clear hK K)
                    all_goals
                      refine AW_cond rfl (fun hc3 => ?_) (fun hc3 => ?_)
                      · try simp [decB_true, decB_false, eqB_true, eqB_false, cmpI_lt, cmpI_ge] at hc3
                        all_goals
                          refine AW_r rfl rfl fun K hK => ?_
                          simp (disch := omega) [wrap64, List.getElem?_eq_getElem, toNat_pred, DtENode.cells, DtInst.cells, DtLead.cells, DtId.cells, decB_true, decB_false]
                          repeat' first | (exfalso; omega) | (refine ⟨fun _ => ?_, fun _ => ?_⟩) | (refine ⟨by omega, ?_⟩) | (intro _)
                          all_goals (refine hK _ ?_; clear hK K)
                          all_goals
                            refine AW_ret (end_s ?_)
                            simp (disch := omega) [wrap64, List.getElem?_eq_getElem, toNat_pred, DtENode.cells, DtInst.cells, DtLead.cells, DtId.cells, decB_true, decB_false]
                            all_goals first | grind [ENodeP] | (refine decB_f fun h => ?_; grind [ENodeP]) | (refine decB_t ?_; grind [ENodeP])
                      · try simp [decB_true, decB_false, eqB_true, eqB_false, cmpI_lt, cmpI_ge] at hc3
                        all_goals
                          refine AW_skip ?_
                          refine AW_id ?_
                          refine AW_re rfl rfl fun K hK => ?_
                          simp (disch := omega) [wrap64, List.getElem?_eq_getElem, toNat_pred, DtENode.cells, DtInst.cells, DtLead.cells, DtId.cells, decB_true, decB_false]
                          repeat' first | (exfalso; omega) | (refine ⟨fun _ => ?_, fun _ => ?_⟩) | (refine ⟨by omega, ?_⟩) | (intro _)
                          all_goals (refine hK _ ?_; clear hK K)
                          all_goals
                            refine ⟨_, LeS.ko [(1, .ptr 32 0), (3, (.g (.int .i64 (((i + 1) : Nat)))))] [(32, .cells (DtENode.cells n))] (by simp [KpE, upd_app, lkE_app, lk_cons, DtENode.cells]; try rfl) (by simp [KpO, upd_app, lk_cons, lk_nil, formOb_nn, DtENode.cells]; try rfl) (by rfl) (by simp) (by rfl), _, ?_, i + 1, rfl, ?_, rfl⟩
                            · omega
                            · refine ⟨by omega, fun j x hj hx => ?_⟩
                              by_cases hji : j = i
                              · subst hji; rw [hg] at hx; cases hx; omega
                              · exact hpre j x (by omega) hx
                · try simp [decB_true, decB_false, eqB_true, eqB_false, cmpI_lt, cmpI_ge] at hc2
                  all_goals
                    have hall : ∀ (j : Nat) x, n.fInsts[j]? = some x → ¬ (x.fId.fRep = n.fMe ∧ n.fNext ≤ x.fId.fSlot) := fun j x hx => hpre j x (by have := (List.getElem?_eq_some_iff.1 hx).1; omega) hx
                    refine AW_exit ?_
                    refine AW_id ?_
                    refine AW_seq ?_
                    refine AW_r rfl rfl fun K hK => ?_
                    simp (disch := omega) [wrap64, List.getElem?_eq_getElem, toNat_pred, DtENode.cells, DtInst.cells, DtLead.cells, DtId.cells, decB_true, decB_false]
                    repeat' first | (exfalso; omega) | (refine ⟨fun _ => ?_, fun _ => ?_⟩) | (refine ⟨by omega, ?_⟩) | (intro _)
                    all_goals (refine hK _ ?_; clear hK K)
                    all_goals
                      refine AW_block ?_
                      refine AW_loopS (fun mM sS => ∃ (i : Nat), mM = n.fLeads.length - i ∧ (i ≤ n.fLeads.length ∧ ∀ (j : Nat) l, j < i → n.fLeads[j]? = some l → LeadP l ∧ leadAt n.fLeads l.fId = j) ∧ sS = { env := lkE [(1, .ptr 32 0), (4, (.g (.int .i64 ((i : Nat)))))], ob := lk [(32, .cells (DtENode.cells n))] }) ?_ ?_
                      · refine ⟨_, LeS.ko [(1, .ptr 32 0), (4, (.g (.int .i64 (((0) : Nat)))))] [(32, .cells (DtENode.cells n))] (by simp [KpE, upd_app, lkE_app, lk_cons, DtENode.cells]; try rfl) (by simp [KpO, upd_app, lk_cons, lk_nil, formOb_nn, DtENode.cells]; try rfl) (by rfl) (by simp) (by rfl), _, 0, rfl, ?_, rfl⟩
                        · simp
                      · rintro mM sS ⟨i, rfl, ⟨hi, hpre2⟩, rfl⟩
                        refine AW_seq ?_
                        refine AW_r rfl rfl fun K hK => ?_
                        simp (disch := omega) [wrap64, List.getElem?_eq_getElem, toNat_pred, DtENode.cells, DtInst.cells, DtLead.cells, DtId.cells, decB_true, decB_false]
                        repeat' first | (exfalso; omega) | (refine ⟨fun _ => ?_, fun _ => ?_⟩) | (refine ⟨by omega, ?_⟩) | (intro _)
                        all_goals (refine hK _ ?_; clear hK K)
                        all_goals
                          refine AW_cond rfl (fun hc4 => ?_) (fun hc4 => ?_)
                          · try simp [decB_true, decB_false, eqB_true, eqB_false, cmpI_lt, cmpI_ge] at hc4
                            all_goals
                              have hg2 : n.fLeads[i]? = some n.fLeads[i] := List.getElem?_eq_getElem (by omega)
                              have ⟨hm1, hm2⟩ := hl4 i (by omega)
                              refine AW_skip ?_
                              refine AW_id ?_
                              refine AW_seq ?_
                              refine AW_block ?_
                              refine AW_q rfl mix (by kernel_rfl) rfl fun K hK => ?_
                              simp (disch := omega) [wrap64, List.getElem?_eq_getElem, toNat_pred, DtENode.cells, DtInst.cells, DtLead.cells, DtId.cells, decB_true, decB_false]
                              repeat' first | (exfalso; omega) | (refine CKd_v (am2s_cons (am2_agg rfl) am2s_nil) (l9Lead _ (by assumption)) rfl ?_; simp (disch := omega) [wrap64, List.getElem?_eq_getElem, toNat_pred, DtENode.cells, DtInst.cells, DtLead.cells, DtId.cells, decB_true, decB_false]) | (refine CKd_v (am2s_cons (am2_agg rfl) (am2s_cons (am2_agg rfl) am2s_nil)) (l9At _ _ (by assumption)) rfl ?_; simp (disch := omega) [wrap64, List.getElem?_eq_getElem, toNat_pred, DtENode.cells, DtInst.cells, DtLead.cells, DtId.cells, decB_true, decB_false]) | (refine ⟨fun _ => ?_, fun _ => ?_⟩) | (refine ⟨by omega, ?_⟩) | (intro _)
                              all_goals (refine hK _ ?_; clear hK K)
                              all_goals
                                refine AW_cond rfl (fun hc5 => ?_) (fun hc5 => ?_)
                                · try simp [decB_true, decB_false, eqB_true, eqB_false, cmpI_lt, cmpI_ge] at hc5
                                  all_goals
                                    refine AW_r rfl rfl fun K hK => ?_
                                    simp (disch := omega) [wrap64, List.getElem?_eq_getElem, toNat_pred, DtENode.cells, DtInst.cells, DtLead.cells, DtId.cells, decB_true, decB_false]
                                    repeat' first | (exfalso; omega) | (refine ⟨fun _ => ?_, fun _ => ?_⟩) | (refine ⟨by omega, ?_⟩) | (intro _)
                                    all_goals (refine hK _ ?_; clear hK K)
                                    all_goals
                                      refine AW_ret (end_s ?_)
                                      simp (disch := omega) [wrap64, List.getElem?_eq_getElem, toNat_pred, DtENode.cells, DtInst.cells, DtLead.cells, DtId.cells, decB_true, decB_false]
                                      all_goals first | grind [ENodeP] | (refine decB_f fun h => ?_; grind [ENodeP]) | (refine decB_t ?_; grind [ENodeP])
                                · try simp [decB_true, decB_false, eqB_true, eqB_false, cmpI_lt, cmpI_ge] at hc5
                                  all_goals
                                    refine AW_skip ?_
                                    refine AW_id ?_
                                    refine AW_re rfl rfl fun K hK => ?_
                                    simp (disch := omega) [wrap64, List.getElem?_eq_getElem, toNat_pred, DtENode.cells, DtInst.cells, DtLead.cells, DtId.cells, decB_true, decB_false]
                                    repeat' first | (exfalso; omega) | (refine ⟨fun _ => ?_, fun _ => ?_⟩) | (refine ⟨by omega, ?_⟩) | (intro _)
                                    all_goals (refine hK _ ?_; clear hK K)
                                    all_goals
                                      refine ⟨_, LeS.ko [(1, .ptr 32 0), (4, (.g (.int .i64 (((i + 1) : Nat)))))] [(32, .cells (DtENode.cells n))] (by simp [KpE, upd_app, lkE_app, lk_cons, DtENode.cells]; try rfl) (by simp [KpO, upd_app, lk_cons, lk_nil, formOb_nn, DtENode.cells]; try rfl) (by rfl) (by simp) (by rfl), _, ?_, i + 1, rfl, ?_, rfl⟩
                                      · omega
                                      · refine ⟨by omega, ?_⟩; clear hl4 hall; grind
                          · try simp [decB_true, decB_false, eqB_true, eqB_false, cmpI_lt, cmpI_ge] at hc4
                            all_goals
                              refine AW_exit ?_
                              refine AW_id ?_
                              refine AW_r rfl rfl fun K hK => ?_
                              simp (disch := omega) [wrap64, List.getElem?_eq_getElem, toNat_pred, DtENode.cells, DtInst.cells, DtLead.cells, DtId.cells, decB_true, decB_false]
                              repeat' first | (exfalso; omega) | (refine ⟨fun _ => ?_, fun _ => ?_⟩) | (refine ⟨by omega, ?_⟩) | (intro _)
                              all_goals (refine hK _ ?_; clear hK K)
                              all_goals
                                refine AW_ret (end_s ?_)
                                simp (disch := omega) [wrap64, List.getElem?_eq_getElem, toNat_pred, DtENode.cells, DtInst.cells, DtLead.cells, DtId.cells, decB_true, decB_false]
                                all_goals first | grind [ENodeP] | (refine decB_f fun h => ?_; grind [ENodeP]) | (refine decB_t ?_; grind [ENodeP])
theorem implENodeOk (n : DtENode) (hs : DtENode.sz n ≤ 1048576) : PCall Tryz.prog 26 [.agg (DtENode.cells n)] (.g (.bool (decB (ENodeP n)))) := by
  have ⟨hl1, hl2, hl3, hl4⟩ := nodeSz n hs
  refine gcall_of_walk Tryz.func26 (by rfl) (by rfl) (by rw [Tryz.ntmps26]; exact Nat.le_of_ble_eq_true rfl) rfl (by decide) ?_
  rw [Tryz.ntmps26]
  refine AW_k [(0, _)] ⟨rfl, trivial⟩ ?_
  refine AW_r rfl rfl fun K hK => ?_
  simp (disch := omega) [wrap64, List.getElem?_eq_getElem, toNat_pred, DtENode.cells, DtInst.cells, DtLead.cells, DtId.cells, decB_true, decB_false]
  repeat' first | (exfalso; omega) | (refine ⟨fun _ => ?_, fun _ => ?_⟩) | (refine ⟨by omega, ?_⟩) | (intro _)
  all_goals (refine hK _ ?_; clear hK K)
  all_goals
    refine AW_seq ?_
    refine AW_r rfl rfl fun K hK => ?_
    simp (disch := omega) [wrap64, List.getElem?_eq_getElem, toNat_pred, DtENode.cells, DtInst.cells, DtLead.cells, DtId.cells, decB_true, decB_false]
    repeat' first | (exfalso; omega) | (refine CKd_v (am2s_cons am2_g am2s_nil) (isRep _) rfl ?_; simp (disch := omega) [wrap64, List.getElem?_eq_getElem, toNat_pred, DtENode.cells, DtInst.cells, DtLead.cells, DtId.cells, decB_true, decB_false]) | (refine CKd_v (am2s_cons am2_g (am2s_cons am2_g (am2s_cons am2_g am2s_nil))) (within _ _ _) rfl ?_; simp (disch := omega) [wrap64, List.getElem?_eq_getElem, toNat_pred, DtENode.cells, DtInst.cells, DtLead.cells, DtId.cells, decB_true, decB_false]) | (refine CKd_v (am2s_cons am2_sl am2s_nil) (implInstsOk _ (by assumption)) rfl ?_; simp (disch := omega) [wrap64, List.getElem?_eq_getElem, toNat_pred, DtENode.cells, DtInst.cells, DtLead.cells, DtId.cells, decB_true, decB_false]) | (refine ⟨fun _ => ?_, fun _ => ?_⟩) | (refine ⟨by omega, ?_⟩) | (intro _)
    all_goals (refine hK _ ?_; clear hK K)
    all_goals
      refine AW_cond rfl (fun hc6 => ?_) (fun hc6 => ?_)
      · try simp [decB_true, decB_false, eqB_true, eqB_false, cmpI_lt, cmpI_ge] at hc6
        all_goals
          refine AW_r rfl rfl fun K hK => ?_
          simp (disch := omega) [wrap64, List.getElem?_eq_getElem, toNat_pred, DtENode.cells, DtInst.cells, DtLead.cells, DtId.cells, decB_true, decB_false]
          repeat' first | (exfalso; omega) | (refine ⟨fun _ => ?_, fun _ => ?_⟩) | (refine ⟨by omega, ?_⟩) | (intro _)
          all_goals (refine hK _ ?_; clear hK K)
          all_goals
            refine AW_ret (end_s ?_)
            simp (disch := omega) [wrap64, List.getElem?_eq_getElem, toNat_pred, DtENode.cells, DtInst.cells, DtLead.cells, DtId.cells, decB_true, decB_false]
            all_goals first | grind [ENodeP] | (refine decB_f fun h => ?_; grind [ENodeP]) | (refine decB_t ?_; grind [ENodeP])
      · try simp [decB_true, decB_false, eqB_true, eqB_false, cmpI_lt, cmpI_ge] at hc6
        all_goals
          refine AW_skip ?_
          refine AW_id ?_
          refine AW_seq ?_
          refine AW_r rfl rfl fun K hK => ?_
          simp (disch := omega) [wrap64, List.getElem?_eq_getElem, toNat_pred, DtENode.cells, DtInst.cells, DtLead.cells, DtId.cells, decB_true, decB_false]
          repeat' first | (exfalso; omega) | (refine ⟨fun _ => ?_, fun _ => ?_⟩) | (refine ⟨by omega, ?_⟩) | (intro _)
          all_goals (refine hK _ ?_; clear hK K)
          all_goals
            refine AW_block ?_
            refine AW_loopS (fun mM sS => ∃ (i : Nat), mM = n.fInsts.length - i ∧ (i ≤ n.fInsts.length ∧ ∀ (j : Nat) x, j < i → n.fInsts[j]? = some x → ¬ (x.fId.fRep = n.fMe ∧ n.fNext ≤ x.fId.fSlot)) ∧ sS = { env := lkE [(1, .ptr 32 0), (30, .sl 16 (n.fInsts.map DtInst.cells)), (31, (.g (.int .i64 ((n.fInsts.length : Nat))))), (32, (.g (.int .i64 ((i : Nat)))))], ob := lk [(32, .cells (DtENode.cells n))] }) ?_ ?_
            · refine ⟨_, LeS.ko [(1, .ptr 32 0), (30, .sl 16 (n.fInsts.map DtInst.cells)), (31, (.g (.int .i64 ((n.fInsts.length : Nat))))), (32, (.g (.int .i64 (((0) : Nat)))))] [(32, .cells (DtENode.cells n))] (by simp [KpE, upd_app, lkE_app, lk_cons, DtENode.cells]; try rfl) (by simp [KpO, upd_app, lk_cons, lk_nil, formOb_nn, DtENode.cells]; try rfl) (by rfl) (by simp) (by rfl), _, 0, rfl, ?_, rfl⟩
              · simp
            · rintro mM sS ⟨i, rfl, ⟨hi, hpre⟩, rfl⟩
              refine AW_r rfl rfl fun K hK => ?_
              simp (disch := omega) [wrap64, List.getElem?_eq_getElem, toNat_pred, DtENode.cells, DtInst.cells, DtLead.cells, DtId.cells, decB_true, decB_false]
              repeat' first | (exfalso; omega) | (refine ⟨fun _ => ?_, fun _ => ?_⟩) | (refine ⟨by omega, ?_⟩) | (intro _)
              all_goals (refine hK _ ?_; clear hK K)
              all_goals
                refine AW_seq ?_
                refine AW_cond rfl (fun hc7 => ?_) (fun hc7 => ?_)
                · try simp [decB_true, decB_false, eqB_true, eqB_false, cmpI_lt, cmpI_ge] at hc7
                  all_goals
                    have hg : n.fInsts[i]? = some n.fInsts[i] := List.getElem?_eq_getElem (by omega)
                    refine AW_skip ?_
                    refine AW_id ?_
                    refine AW_seq ?_
                    refine AW_block ?_
                    refine AW_r rfl rfl fun K hK => ?_
                    simp (disch := omega) [wrap64, List.getElem?_eq_getElem, toNat_pred, DtENode.cells, DtInst.cells, DtLead.cells, DtId.cells, decB_true, decB_false]
                    repeat' first | (exfalso; omega) | (refine ⟨fun _ => ?_, fun _ => ?_⟩) | (refine ⟨by omega, ?_⟩) | (intro _)
                    all_goals (refine hK _ ?_; clear hK K)
                    all_goals
                      refine AW_r rfl rfl fun K hK => ?_
                      simp (disch := omega) [wrap64, List.getElem?_eq_getElem, toNat_pred, DtENode.cells, DtInst.cells, DtLead.cells, DtId.cells, decB_true, decB_false]
                      repeat' first | (exfalso; omega) | (refine CKd_r1 32 (.inl rfl) (am1s_plain (DtENode.cells n) rfl) (am2s_cons am2_ptr0 (am2s_cons (am2_agg rfl) am2s_nil)) (unknown n _) rfl ?_; simp (disch := omega) [wrap64, List.getElem?_eq_getElem, toNat_pred, DtENode.cells, DtInst.cells, DtLead.cells, DtId.cells, decB_true, decB_false]) | (refine ⟨fun _ => ?_, fun _ => ?_⟩) | (refine ⟨by omega, ?_⟩) | (intro _)
                      all_goals (refine hK _ ?_; clear hK K)
                      all_goals
                        refine AW_cond rfl (fun hc8 => ?_) (fun hc8 => ?_)
                        · try simp [decB_true, decB_false, eqB_true, eqB_false, cmpI_lt, cmpI_ge] at hc8
                          all_goals
                            refine AW_r rfl rfl fun K hK => ?_
                            simp (disch := omega) [wrap64, List.getElem?_eq_getElem, toNat_pred, DtENode.cells, DtInst.cells, DtLead.cells, DtId.cells, decB_true, decB_false]
                            repeat' first | (exfalso; omega) | (refine ⟨fun _ => ?_, fun _ => ?_⟩) | (refine ⟨by omega, ?_⟩) | (intro _)
                            all_goals (refine hK _ ?_; clear hK K)
                            all_goals
                              refine AW_ret (end_s ?_)
                              simp (disch := omega) [wrap64, List.getElem?_eq_getElem, toNat_pred, DtENode.cells, DtInst.cells, DtLead.cells, DtId.cells, decB_true, decB_false]
                              all_goals first | grind [ENodeP] | (refine decB_f fun h => ?_; grind [ENodeP]) | (refine decB_t ?_; grind [ENodeP])
                        · try simp [decB_true, decB_false, eqB_true, eqB_false, cmpI_lt, cmpI_ge] at hc8
                          all_goals
                            refine AW_skip ?_
                            refine AW_id ?_
                            refine AW_re rfl rfl fun K hK => ?_
                            simp (disch := omega) [wrap64, List.getElem?_eq_getElem, toNat_pred, DtENode.cells, DtInst.cells, DtLead.cells, DtId.cells, decB_true, decB_false]
                            repeat' first | (exfalso; omega) | (refine ⟨fun _ => ?_, fun _ => ?_⟩) | (refine ⟨by omega, ?_⟩) | (intro _)
                            all_goals (refine hK _ ?_; clear hK K)
                            all_goals
                              refine ⟨_, LeS.ko [(1, .ptr 32 0), (30, .sl 16 (n.fInsts.map DtInst.cells)), (31, (.g (.int .i64 ((n.fInsts.length : Nat))))), (32, (.g (.int .i64 (((i + 1) : Nat)))))] [(32, .cells (DtENode.cells n))] (by simp [KpE, upd_app, lkE_app, lk_cons, DtENode.cells]; try rfl) (by simp [KpO, upd_app, lk_cons, lk_nil, formOb_nn, DtENode.cells]; try rfl) (by rfl) (by simp) (by rfl), _, ?_, i + 1, rfl, ?_, rfl⟩
                              · omega
                              · refine ⟨by omega, fun j x hj hx => ?_⟩
                                by_cases hji : j = i
                                · subst hji; rw [hg] at hx; cases hx; omega
                                · exact hpre j x (by omega) hx
                · try simp [decB_true, decB_false, eqB_true, eqB_false, cmpI_lt, cmpI_ge] at hc7
                  all_goals
                    have hall : ∀ (j : Nat) x, n.fInsts[j]? = some x → ¬ (x.fId.fRep = n.fMe ∧ n.fNext ≤ x.fId.fSlot) := fun j x hx => hpre j x (by have := (List.getElem?_eq_some_iff.1 hx).1; omega) hx
                    refine AW_exit ?_
                    refine AW_id ?_
                    refine AW_seq ?_
                    refine AW_r rfl rfl fun K hK => ?_
                    simp (disch := omega) [wrap64, List.getElem?_eq_getElem, toNat_pred, DtENode.cells, DtInst.cells, DtLead.cells, DtId.cells, decB_true, decB_false]
                    repeat' first | (exfalso; omega) | (refine ⟨fun _ => ?_, fun _ => ?_⟩) | (refine ⟨by omega, ?_⟩) | (intro _)
                    all_goals (refine hK _ ?_; clear hK K)
                    all_goals
                      refine AW_block ?_
                      refine AW_loopS (fun mM sS => ∃ (i : Nat), mM = n.fLeads.length - i ∧ (i ≤ n.fLeads.length ∧ ∀ (j : Nat) l, j < i → n.fLeads[j]? = some l → LeadP l ∧ leadAt n.fLeads l.fId = j) ∧ sS = { env := lkE [(1, .ptr 32 0), (41, .sl 8 (n.fLeads.map DtLead.cells)), (42, (.g (.int .i64 ((n.fLeads.length : Nat))))), (43, (.g (.int .i64 ((i : Nat)))))], ob := lk [(32, .cells (DtENode.cells n))] }) ?_ ?_
                      · refine ⟨_, LeS.ko [(1, .ptr 32 0), (41, .sl 8 (n.fLeads.map DtLead.cells)), (42, (.g (.int .i64 ((n.fLeads.length : Nat))))), (43, (.g (.int .i64 (((0) : Nat)))))] [(32, .cells (DtENode.cells n))] (by simp [KpE, upd_app, lkE_app, lk_cons, DtENode.cells]; try rfl) (by simp [KpO, upd_app, lk_cons, lk_nil, formOb_nn, DtENode.cells]; try rfl) (by rfl) (by simp) (by rfl), _, 0, rfl, ?_, rfl⟩
                        · simp
                      · rintro mM sS ⟨i, rfl, ⟨hi, hpre2⟩, rfl⟩
                        refine AW_r rfl rfl fun K hK => ?_
                        simp (disch := omega) [wrap64, List.getElem?_eq_getElem, toNat_pred, DtENode.cells, DtInst.cells, DtLead.cells, DtId.cells, decB_true, decB_false]
                        repeat' first | (exfalso; omega) | (refine ⟨fun _ => ?_, fun _ => ?_⟩) | (refine ⟨by omega, ?_⟩) | (intro _)
                        all_goals (refine hK _ ?_; clear hK K)
                        all_goals
                          refine AW_seq ?_
                          refine AW_cond rfl (fun hc9 => ?_) (fun hc9 => ?_)
                          · try simp [decB_true, decB_false, eqB_true, eqB_false, cmpI_lt, cmpI_ge] at hc9
                            all_goals
                              have hg2 : n.fLeads[i]? = some n.fLeads[i] := List.getElem?_eq_getElem (by omega)
                              have ⟨hm1, hm2⟩ := hl4 i (by omega)
                              refine AW_skip ?_
                              refine AW_id ?_
                              refine AW_seq ?_
                              refine AW_block ?_
                              refine AW_r rfl rfl fun K hK => ?_
                              simp (disch := omega) [wrap64, List.getElem?_eq_getElem, toNat_pred, DtENode.cells, DtInst.cells, DtLead.cells, DtId.cells, decB_true, decB_false]
                              repeat' first | (exfalso; omega) | (refine ⟨fun _ => ?_, fun _ => ?_⟩) | (refine ⟨by omega, ?_⟩) | (intro _)
                              all_goals (refine hK _ ?_; clear hK K)
                              all_goals
                                refine AW_r rfl rfl fun K hK => ?_
                                simp (disch := omega) [wrap64, List.getElem?_eq_getElem, toNat_pred, DtENode.cells, DtInst.cells, DtLead.cells, DtId.cells, decB_true, decB_false]
                                repeat' first | (exfalso; omega) | (refine CKd_v (am2s_cons (am2_agg rfl) am2s_nil) (leadOk _ (by assumption) (by assumption)) rfl ?_; simp (disch := omega) [wrap64, List.getElem?_eq_getElem, toNat_pred, DtENode.cells, DtInst.cells, DtLead.cells, DtId.cells, decB_true, decB_false]) | (refine CKd_r1 32 (.inl rfl) (am1s_plain (DtENode.cells n) rfl) (am2s_cons am2_ptr0 (am2s_cons (am2_agg rfl) am2s_nil)) (lead n _ (by assumption)) rfl ?_; simp (disch := omega) [wrap64, List.getElem?_eq_getElem, toNat_pred, DtENode.cells, DtInst.cells, DtLead.cells, DtId.cells, decB_true, decB_false]) | (refine ⟨fun _ => ?_, fun _ => ?_⟩) | (refine ⟨by omega, ?_⟩) | (intro _)
                                all_goals (refine hK _ ?_; clear hK K)
                                all_goals
                                  refine AW_cond rfl (fun hc10 => ?_) (fun hc10 => ?_)
                                  · try simp [decB_true, decB_false, eqB_true, eqB_false, cmpI_lt, cmpI_ge] at hc10
                                    all_goals
                                      refine AW_r rfl rfl fun K hK => ?_
                                      simp (disch := omega) [wrap64, List.getElem?_eq_getElem, toNat_pred, DtENode.cells, DtInst.cells, DtLead.cells, DtId.cells, decB_true, decB_false]
                                      repeat' first | (exfalso; omega) | (refine ⟨fun _ => ?_, fun _ => ?_⟩) | (refine ⟨by omega, ?_⟩) | (intro _)
                                      all_goals (refine hK _ ?_; clear hK K)
                                      all_goals
                                        refine AW_ret (end_s ?_)
                                        simp (disch := omega) [wrap64, List.getElem?_eq_getElem, toNat_pred, DtENode.cells, DtInst.cells, DtLead.cells, DtId.cells, decB_true, decB_false]
                                        all_goals first | grind [ENodeP] | (refine decB_f fun h => ?_; grind [ENodeP]) | (refine decB_t ?_; grind [ENodeP])
                                  · try simp [decB_true, decB_false, eqB_true, eqB_false, cmpI_lt, cmpI_ge] at hc10
                                    all_goals
                                      refine AW_skip ?_
                                      refine AW_id ?_
                                      refine AW_re rfl rfl fun K hK => ?_
                                      simp (disch := omega) [wrap64, List.getElem?_eq_getElem, toNat_pred, DtENode.cells, DtInst.cells, DtLead.cells, DtId.cells, decB_true, decB_false]
                                      repeat' first | (exfalso; omega) | (refine ⟨fun _ => ?_, fun _ => ?_⟩) | (refine ⟨by omega, ?_⟩) | (intro _)
                                      all_goals (refine hK _ ?_; clear hK K)
                                      all_goals
                                        refine ⟨_, LeS.ko [(1, .ptr 32 0), (41, .sl 8 (n.fLeads.map DtLead.cells)), (42, (.g (.int .i64 ((n.fLeads.length : Nat))))), (43, (.g (.int .i64 (((i + 1) : Nat)))))] [(32, .cells (DtENode.cells n))] (by simp [KpE, upd_app, lkE_app, lk_cons, DtENode.cells]; try rfl) (by simp [KpO, upd_app, lk_cons, lk_nil, formOb_nn, DtENode.cells]; try rfl) (by rfl) (by simp) (by rfl), _, ?_, i + 1, rfl, ?_, rfl⟩
                                        · omega
                                        · refine ⟨by omega, ?_⟩; clear hl4 hall; grind
                          · try simp [decB_true, decB_false, eqB_true, eqB_false, cmpI_lt, cmpI_ge] at hc9
                            all_goals
                              refine AW_exit ?_
                              refine AW_id ?_
                              refine AW_r rfl rfl fun K hK => ?_
                              simp (disch := omega) [wrap64, List.getElem?_eq_getElem, toNat_pred, DtENode.cells, DtInst.cells, DtLead.cells, DtId.cells, decB_true, decB_false]
                              repeat' first | (exfalso; omega) | (refine ⟨fun _ => ?_, fun _ => ?_⟩) | (refine ⟨by omega, ?_⟩) | (intro _)
                              all_goals (refine hK _ ?_; clear hK K)
                              all_goals
                                refine AW_ret (end_s ?_)
                                simp (disch := omega) [wrap64, List.getElem?_eq_getElem, toNat_pred, DtENode.cells, DtInst.cells, DtLead.cells, DtId.cells, decB_true, decB_false]
                                all_goals first | grind [ENodeP] | (refine decB_f fun h => ?_; grind [ENodeP]) | (refine decB_t ?_; grind [ENodeP])
end Go.Proofs.YtopeonnaalpmjaaGreat.Vs
