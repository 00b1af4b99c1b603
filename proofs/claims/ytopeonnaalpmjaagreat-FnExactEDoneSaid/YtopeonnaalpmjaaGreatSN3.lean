import Derived.Test.YtopeonnaalpmjaaGreatSN2
open Go Go.Proofs Go.Proofs.YtopeonnaalpmjaaGreat.Vs
namespace Go.Proofs.YtopeonnaalpmjaaGreat.Vs
set_option linter.unusedVariables false
set_option linter.unusedSimpArgs false
set_option linter.unusedSectionVars false
set_option linter.unnecessarySimpa false
set_option linter.all false
set_option linter.unusedSimpArgs false
set_option linter.unusedVariables false
set_option maxRecDepth 100000
def NetP (x : DtENet) : Prop := x.fNodes.length = 3 ∧ x.fPool.length ≤ 160 ∧ (∀ (i : Nat) n, x.fNodes[i]? = some n → ENodeP n ∧ n.fMe = i) ∧ ∀ (i : Nat) m, x.fPool[i]? = some m → MsgP m ∧ ¬ m ∈ x.fPool.take i
theorem netSz (x : DtENet) (hs : DtENet.sz x ≤ 1048576) : x.fNodes.length ≤ 1048576 ∧ x.fPool.length ≤ 1048576 ∧ (∀ i (h : i < x.fNodes.length), DtENode.sz x.fNodes[i] ≤ 1048576) ∧ (∀ i (h : i < x.fPool.length), x.fPool[i].fDeps.length ≤ 1048576 ∧ DtCmd.sz x.fPool[i].fCmd ≤ 1048576) ∧ ∀ m ∈ x.fPool, MsgSm m := by
  have h0 := sumZ_nonneg DtENode.sz_nonneg x.fNodes
  have h1 := sumZ_nonneg DtEMsg.sz_nonneg x.fPool
  simp only [DtENet.sz, szS] at hs
  refine ⟨by omega, by omega, fun i h => ?_, fun i h => ?_, fun m hm => ?_⟩
  · have h2 := sumZ_mem_le DtENode.sz_nonneg x.fNodes x.fNodes[i] (List.getElem_mem _)
    omega
  · have h2 := sumZ_mem_le DtEMsg.sz_nonneg x.fPool x.fPool[i] (List.getElem_mem _)
    have h3 := DtCmd.sz_nonneg x.fPool[i].fCmd
    simp only [DtEMsg.sz] at h2
    omega
  · have h2 := sumZ_mem_le DtEMsg.sz_nonneg x.fPool m hm
    have h4 := sumZ_nonneg lenZ_nonneg m.fCmd.fChunks
    simp only [DtEMsg.sz, DtCmd.sz, szS] at h2
    unfold MsgSm
    omega
theorem specENetOk (x : DtENet) (hs : DtENet.sz x ≤ 1048576) : PCall Tryz.prog 11 [.agg (DtENet.cells x)] (.g (.bool (decB (NetP x)))) := by
  have ⟨hl1, hl2, hl3, hl4, hl5⟩ := netSz x hs
  refine gcall_of_walk Tryz.func11 (by rfl) (by rfl) (by rw [Tryz.ntmps11]; exact Nat.le_of_ble_eq_true rfl) rfl (by decide) ?_
  rw [Tryz.ntmps11]
  refine AW_k [(0, _)] ⟨rfl, trivial⟩ ?_
  refine AW_r rfl rfl fun K hK => ?_
  simp (disch := omega) [wrap64, List.getElem?_eq_getElem, toNat_pred, DtENet.cells, DtENode.cells, DtEMsg.cells, DtCmd.cells, decB_true, decB_false]
  repeat' first | (exfalso; omega) | (refine ⟨fun _ => ?_, fun _ => ?_⟩) | (refine ⟨by omega, ?_⟩) | (intro _)
  all_goals (refine hK _ ?_; clear hK K)
  all_goals
    refine AW_seq ?_
    refine AW_r rfl rfl fun K hK => ?_
    simp (disch := omega) [wrap64, List.getElem?_eq_getElem, toNat_pred, DtENet.cells, DtENode.cells, DtEMsg.cells, DtCmd.cells, decB_true, decB_false]
    repeat' first | (exfalso; omega) | (refine ⟨fun _ => ?_, fun _ => ?_⟩) | (refine ⟨by omega, ?_⟩) | (intro _)
    all_goals (refine hK _ ?_; clear hK K)
    all_goals
      refine AW_cond rfl (fun hc1 => ?_) (fun hc1 => ?_)
      · try simp [decB_true, decB_false, eqB_true, eqB_false, cmpI_lt, cmpI_ge] at hc1
        all_goals
          refine AW_r rfl rfl fun K hK => ?_
          simp (disch := omega) [wrap64, List.getElem?_eq_getElem, toNat_pred, DtENet.cells, DtENode.cells, DtEMsg.cells, DtCmd.cells, decB_true, decB_false]
          repeat' first | (exfalso; omega) | (refine ⟨fun _ => ?_, fun _ => ?_⟩) | (refine ⟨by omega, ?_⟩) | (intro _)
          all_goals (refine hK _ ?_; clear hK K)
          all_goals
            refine AW_ret (end_s ?_)
            simp (disch := omega) [wrap64, List.getElem?_eq_getElem, toNat_pred, DtENet.cells, DtENode.cells, DtEMsg.cells, DtCmd.cells, decB_true, decB_false]
            all_goals first | grind [NetP] | (refine decB_f fun h => ?_; grind [NetP]) | (refine decB_t ?_; grind [NetP])
      · try simp [decB_true, decB_false, eqB_true, eqB_false, cmpI_lt, cmpI_ge] at hc1
        all_goals
          refine AW_skip ?_
          refine AW_id ?_
          refine AW_seq ?_
          refine AW_r rfl rfl fun K hK => ?_
          simp (disch := omega) [wrap64, List.getElem?_eq_getElem, toNat_pred, DtENet.cells, DtENode.cells, DtEMsg.cells, DtCmd.cells, decB_true, decB_false]
          repeat' first | (exfalso; omega) | (refine ⟨fun _ => ?_, fun _ => ?_⟩) | (refine ⟨by omega, ?_⟩) | (intro _)
          all_goals (refine hK _ ?_; clear hK K)
          all_goals
            refine AW_block ?_
            refine AW_loopS (fun mM sS => ∃ (i : Nat), mM = 3 - i ∧ (i ≤ 3 ∧ ∀ (j : Nat) n, j < i → x.fNodes[j]? = some n → ENodeP n ∧ n.fMe = j) ∧ sS = { env := lkE [(1, .ptr 32 0), (3, (.g (.int .i64 ((i : Nat)))))], ob := lk [(32, .cells (DtENet.cells x))] }) ?_ ?_
            · refine ⟨_, LeS.ko [(1, .ptr 32 0), (3, (.g (.int .i64 (((0) : Nat)))))] [(32, .cells (DtENet.cells x))] (by simp [KpE, upd_app, lkE_app, lk_cons, DtENet.cells]; try rfl) (by simp [KpO, upd_app, lk_cons, lk_nil, formOb_nn, DtENet.cells]; try rfl) (by rfl) (by simp) (by rfl), _, 0, rfl, ?_, rfl⟩
              · simp
            · rintro mM sS ⟨i, rfl, ⟨hi, hpre⟩, rfl⟩
              refine AW_seq ?_
              refine AW_r rfl rfl fun K hK => ?_
              simp (disch := omega) [wrap64, List.getElem?_eq_getElem, toNat_pred, DtENet.cells, DtENode.cells, DtEMsg.cells, DtCmd.cells, decB_true, decB_false]
              repeat' first | (exfalso; omega) | (refine ⟨fun _ => ?_, fun _ => ?_⟩) | (refine ⟨by omega, ?_⟩) | (intro _)
              all_goals (refine hK _ ?_; clear hK K)
              all_goals
                refine AW_cond rfl (fun hc2 => ?_) (fun hc2 => ?_)
                · try simp [decB_true, decB_false, eqB_true, eqB_false, cmpI_lt, cmpI_ge] at hc2
                  all_goals
                    have hg : x.fNodes[i]? = some x.fNodes[i] := List.getElem?_eq_getElem (by omega)
                    have hm1 := hl3 i (by omega)
                    refine AW_skip ?_
                    refine AW_id ?_
                    refine AW_seq ?_
                    refine AW_block ?_
                    refine AW_r rfl rfl fun K hK => ?_
                    simp (disch := omega) [wrap64, List.getElem?_eq_getElem, toNat_pred, DtENet.cells, DtENode.cells, DtEMsg.cells, DtCmd.cells, decB_true, decB_false]
                    repeat' first | (exfalso; omega) | (refine CKd_v (am2s_cons (am2_agg rfl) am2s_nil) (specENodeOk _ (by assumption)) rfl ?_; simp (disch := omega) [wrap64, List.getElem?_eq_getElem, toNat_pred, DtENet.cells, DtENode.cells, DtEMsg.cells, DtCmd.cells, decB_true, decB_false]) | (refine ⟨fun _ => ?_, fun _ => ?_⟩) | (refine ⟨by omega, ?_⟩) | (intro _)
                    all_goals (refine hK _ ?_; clear hK K)
                    all_goals
                      refine AW_cond rfl (fun hc3 => ?_) (fun hc3 => ?_)
                      · try simp [decB_true, decB_false, eqB_true, eqB_false, cmpI_lt, cmpI_ge] at hc3
                        all_goals
                          refine AW_r rfl rfl fun K hK => ?_
                          simp (disch := omega) [wrap64, List.getElem?_eq_getElem, toNat_pred, DtENet.cells, DtENode.cells, DtEMsg.cells, DtCmd.cells, decB_true, decB_false]
                          repeat' first | (exfalso; omega) | (refine ⟨fun _ => ?_, fun _ => ?_⟩) | (refine ⟨by omega, ?_⟩) | (intro _)
                          all_goals (refine hK _ ?_; clear hK K)
                          all_goals
                            refine AW_ret (end_s ?_)
                            simp (disch := omega) [wrap64, List.getElem?_eq_getElem, toNat_pred, DtENet.cells, DtENode.cells, DtEMsg.cells, DtCmd.cells, decB_true, decB_false]
                            all_goals first | grind [NetP] | (refine decB_f fun h => ?_; grind [NetP]) | (refine decB_t ?_; grind [NetP])
                      · try simp [decB_true, decB_false, eqB_true, eqB_false, cmpI_lt, cmpI_ge] at hc3
                        all_goals
                          refine AW_skip ?_
                          refine AW_id ?_
                          refine AW_re rfl rfl fun K hK => ?_
                          simp (disch := omega) [wrap64, List.getElem?_eq_getElem, toNat_pred, DtENet.cells, DtENode.cells, DtEMsg.cells, DtCmd.cells, decB_true, decB_false]
                          repeat' first | (exfalso; omega) | (refine ⟨fun _ => ?_, fun _ => ?_⟩) | (refine ⟨by omega, ?_⟩) | (intro _)
                          all_goals (refine hK _ ?_; clear hK K)
                          all_goals
                            refine ⟨_, LeS.ko [(1, .ptr 32 0), (3, (.g (.int .i64 (((i + 1) : Nat)))))] [(32, .cells (DtENet.cells x))] (by simp [KpE, upd_app, lkE_app, lk_cons, DtENet.cells]; try rfl) (by simp [KpO, upd_app, lk_cons, lk_nil, formOb_nn, DtENet.cells]; try rfl) (by rfl) (by simp) (by rfl), _, ?_, i + 1, rfl, ?_, rfl⟩
                            · omega
                            · refine ⟨by omega, fun j n hj hx => ?_⟩
                              by_cases hji : j = i
                              · subst hji; rw [hg] at hx; cases hx; clear hl3 hl4 hl5; grind
                              · exact hpre j n (by omega) hx
                · try simp [decB_true, decB_false, eqB_true, eqB_false, cmpI_lt, cmpI_ge] at hc2
                  all_goals
                    have hall : ∀ (j : Nat) n, x.fNodes[j]? = some n → ENodeP n ∧ n.fMe = j := fun j n hx => hpre j n (by have := (List.getElem?_eq_some_iff.1 hx).1; omega) hx
                    refine AW_exit ?_
                    refine AW_id ?_
                    refine AW_seq ?_
                    refine AW_r rfl rfl fun K hK => ?_
                    simp (disch := omega) [wrap64, List.getElem?_eq_getElem, toNat_pred, DtENet.cells, DtENode.cells, DtEMsg.cells, DtCmd.cells, decB_true, decB_false]
                    repeat' first | (exfalso; omega) | (refine ⟨fun _ => ?_, fun _ => ?_⟩) | (refine ⟨by omega, ?_⟩) | (intro _)
                    all_goals (refine hK _ ?_; clear hK K)
                    all_goals
                      refine AW_block ?_
                      refine AW_loopS (fun mM sS => ∃ (i : Nat), mM = x.fPool.length - i ∧ (i ≤ x.fPool.length ∧ ∀ (j : Nat) m, j < i → x.fPool[j]? = some m → MsgP m ∧ ¬ m ∈ x.fPool.take j) ∧ sS = { env := lkE [(1, .ptr 32 0), (4, (.g (.int .i64 ((i : Nat)))))], ob := lk [(32, .cells (DtENet.cells x))] }) ?_ ?_
                      · refine ⟨_, LeS.ko [(1, .ptr 32 0), (4, (.g (.int .i64 (((0) : Nat)))))] [(32, .cells (DtENet.cells x))] (by simp [KpE, upd_app, lkE_app, lk_cons, DtENet.cells]; try rfl) (by simp [KpO, upd_app, lk_cons, lk_nil, formOb_nn, DtENet.cells]; try rfl) (by rfl) (by simp) (by rfl), _, 0, rfl, ?_, rfl⟩
                        · simp
                      · rintro mM sS ⟨i, rfl, ⟨hi, hpre2⟩, rfl⟩
                        refine AW_seq ?_
                        refine AW_r rfl rfl fun K hK => ?_
                        simp (disch := omega) [wrap64, List.getElem?_eq_getElem, toNat_pred, DtENet.cells, DtENode.cells, DtEMsg.cells, DtCmd.cells, decB_true, decB_false]
                        repeat' first | (exfalso; omega) | (refine ⟨fun _ => ?_, fun _ => ?_⟩) | (refine ⟨by omega, ?_⟩) | (intro _)
                        all_goals (refine hK _ ?_; clear hK K)
                        all_goals
                          refine AW_cond rfl (fun hc4 => ?_) (fun hc4 => ?_)
                          · try simp [decB_true, decB_false, eqB_true, eqB_false, cmpI_lt, cmpI_ge] at hc4
                            all_goals
                              have hg2 : x.fPool[i]? = some x.fPool[i] := List.getElem?_eq_getElem (by omega)
                              have ⟨hm1, hm2⟩ := hl4 i (by omega)
                              refine AW_skip ?_
                              refine AW_id ?_
                              refine AW_seq ?_
                              refine AW_block ?_
                              refine AW_q rfl mix (by kernel_rfl) rfl fun K hK => ?_
                              simp (disch := omega) [wrap64, List.getElem?_eq_getElem, toNat_pred, DtENet.cells, DtENode.cells, DtEMsg.cells, DtCmd.cells, decB_true, decB_false]
                              repeat' first | (exfalso; omega) | (refine CKd_v (am2s_cons (am2_agg rfl) am2s_nil) (specEMsgOk _ (by assumption) (by assumption)) rfl ?_; simp (disch := omega) [wrap64, List.getElem?_eq_getElem, toNat_pred, DtENet.cells, DtENode.cells, DtEMsg.cells, DtCmd.cells, decB_true, decB_false]) | (refine CKd_v (am2s_cons am2_sl (am2s_cons (am2_agg rfl) am2s_nil)) (l11HasT _ _ _ (by assumption) (by assumption)) rfl ?_; simp (disch := omega) [wrap64, List.getElem?_eq_getElem, toNat_pred, DtENet.cells, DtENode.cells, DtEMsg.cells, DtCmd.cells, decB_true, decB_false]) | (refine ⟨fun _ => ?_, fun _ => ?_⟩) | (refine ⟨by omega, ?_⟩) | (intro _)
                              all_goals (refine hK _ ?_; clear hK K)
                              all_goals
                                refine AW_cond rfl (fun hc5 => ?_) (fun hc5 => ?_)
                                · try simp [decB_true, decB_false, eqB_true, eqB_false, cmpI_lt, cmpI_ge] at hc5
                                  all_goals
                                    refine AW_r rfl rfl fun K hK => ?_
                                    simp (disch := omega) [wrap64, List.getElem?_eq_getElem, toNat_pred, DtENet.cells, DtENode.cells, DtEMsg.cells, DtCmd.cells, decB_true, decB_false]
                                    repeat' first | (exfalso; omega) | (refine ⟨fun _ => ?_, fun _ => ?_⟩) | (refine ⟨by omega, ?_⟩) | (intro _)
                                    all_goals (refine hK _ ?_; clear hK K)
                                    all_goals
                                      refine AW_ret (end_s ?_)
                                      simp (disch := omega) [wrap64, List.getElem?_eq_getElem, toNat_pred, DtENet.cells, DtENode.cells, DtEMsg.cells, DtCmd.cells, decB_true, decB_false]
                                      all_goals first | grind [NetP] | (refine decB_f fun h => ?_; grind [NetP]) | (refine decB_t ?_; grind [NetP])
                                · try simp [decB_true, decB_false, eqB_true, eqB_false, cmpI_lt, cmpI_ge] at hc5
                                  all_goals
                                    refine AW_skip ?_
                                    refine AW_id ?_
                                    refine AW_re rfl rfl fun K hK => ?_
                                    simp (disch := omega) [wrap64, List.getElem?_eq_getElem, toNat_pred, DtENet.cells, DtENode.cells, DtEMsg.cells, DtCmd.cells, decB_true, decB_false]
                                    repeat' first | (exfalso; omega) | (refine ⟨fun _ => ?_, fun _ => ?_⟩) | (refine ⟨by omega, ?_⟩) | (intro _)
                                    all_goals (refine hK _ ?_; clear hK K)
                                    all_goals
                                      refine ⟨_, LeS.ko [(1, .ptr 32 0), (4, (.g (.int .i64 (((i + 1) : Nat)))))] [(32, .cells (DtENet.cells x))] (by simp [KpE, upd_app, lkE_app, lk_cons, DtENet.cells]; try rfl) (by simp [KpO, upd_app, lk_cons, lk_nil, formOb_nn, DtENet.cells]; try rfl) (by rfl) (by simp) (by rfl), _, ?_, i + 1, rfl, ?_, rfl⟩
                                      · omega
                                      · refine ⟨by omega, fun j m hj hx => ?_⟩
                                        by_cases hji : j = i
                                        · subst hji; rw [hg2] at hx; cases hx; clear hl3 hl4 hl5; grind
                                        · exact hpre2 j m (by omega) hx
                          · try simp [decB_true, decB_false, eqB_true, eqB_false, cmpI_lt, cmpI_ge] at hc4
                            all_goals
                              refine AW_exit ?_
                              refine AW_id ?_
                              refine AW_r rfl rfl fun K hK => ?_
                              simp (disch := omega) [wrap64, List.getElem?_eq_getElem, toNat_pred, DtENet.cells, DtENode.cells, DtEMsg.cells, DtCmd.cells, decB_true, decB_false]
                              repeat' first | (exfalso; omega) | (refine ⟨fun _ => ?_, fun _ => ?_⟩) | (refine ⟨by omega, ?_⟩) | (intro _)
                              all_goals (refine hK _ ?_; clear hK K)
                              all_goals
                                refine AW_ret (end_s ?_)
                                simp (disch := omega) [wrap64, List.getElem?_eq_getElem, toNat_pred, DtENet.cells, DtENode.cells, DtEMsg.cells, DtCmd.cells, decB_true, decB_false]
                                all_goals first | grind [NetP] | (refine decB_f fun h => ?_; grind [NetP]) | (refine decB_t ?_; grind [NetP])
theorem implENetOk (x : DtENet) (hs : DtENet.sz x ≤ 1048576) : PCall Tryz.prog 15 [.agg (DtENet.cells x)] (.g (.bool (decB (NetP x)))) := by
  have ⟨hl1, hl2, hl3, hl4, hl5⟩ := netSz x hs
  refine gcall_of_walk Tryz.func15 (by rfl) (by rfl) (by rw [Tryz.ntmps15]; exact Nat.le_of_ble_eq_true rfl) rfl (by decide) ?_
  rw [Tryz.ntmps15]
  refine AW_k [(0, _)] ⟨rfl, trivial⟩ ?_
  refine AW_r rfl rfl fun K hK => ?_
  simp (disch := omega) [wrap64, List.getElem?_eq_getElem, toNat_pred, DtENet.cells, DtENode.cells, DtEMsg.cells, DtCmd.cells, decB_true, decB_false]
  repeat' first | (exfalso; omega) | (refine ⟨fun _ => ?_, fun _ => ?_⟩) | (refine ⟨by omega, ?_⟩) | (intro _)
  all_goals (refine hK _ ?_; clear hK K)
  all_goals
    refine AW_seq ?_
    refine AW_r rfl rfl fun K hK => ?_
    simp (disch := omega) [wrap64, List.getElem?_eq_getElem, toNat_pred, DtENet.cells, DtENode.cells, DtEMsg.cells, DtCmd.cells, decB_true, decB_false]
    repeat' first | (exfalso; omega) | (refine ⟨fun _ => ?_, fun _ => ?_⟩) | (refine ⟨by omega, ?_⟩) | (intro _)
    all_goals (refine hK _ ?_; clear hK K)
    all_goals
      refine AW_cond rfl (fun hc6 => ?_) (fun hc6 => ?_)
      · try simp [decB_true, decB_false, eqB_true, eqB_false, cmpI_lt, cmpI_ge] at hc6
        all_goals
          refine AW_r rfl rfl fun K hK => ?_
          simp (disch := omega) [wrap64, List.getElem?_eq_getElem, toNat_pred, DtENet.cells, DtENode.cells, DtEMsg.cells, DtCmd.cells, decB_true, decB_false]
          repeat' first | (exfalso; omega) | (refine ⟨fun _ => ?_, fun _ => ?_⟩) | (refine ⟨by omega, ?_⟩) | (intro _)
          all_goals (refine hK _ ?_; clear hK K)
          all_goals
            refine AW_ret (end_s ?_)
            simp (disch := omega) [wrap64, List.getElem?_eq_getElem, toNat_pred, DtENet.cells, DtENode.cells, DtEMsg.cells, DtCmd.cells, decB_true, decB_false]
            all_goals first | grind [NetP] | (refine decB_f fun h => ?_; grind [NetP]) | (refine decB_t ?_; grind [NetP])
      · try simp [decB_true, decB_false, eqB_true, eqB_false, cmpI_lt, cmpI_ge] at hc6
        all_goals
          refine AW_skip ?_
          refine AW_id ?_
          refine AW_seq ?_
          refine AW_r rfl rfl fun K hK => ?_
          simp (disch := omega) [wrap64, List.getElem?_eq_getElem, toNat_pred, DtENet.cells, DtENode.cells, DtEMsg.cells, DtCmd.cells, decB_true, decB_false]
          repeat' first | (exfalso; omega) | (refine ⟨fun _ => ?_, fun _ => ?_⟩) | (refine ⟨by omega, ?_⟩) | (intro _)
          all_goals (refine hK _ ?_; clear hK K)
          all_goals
            refine AW_block ?_
            refine AW_loopS (fun mM sS => ∃ (i : Nat), mM = x.fNodes.length - i ∧ (i ≤ x.fNodes.length ∧ ∀ (j : Nat) n, j < i → x.fNodes[j]? = some n → ENodeP n ∧ n.fMe = j) ∧ sS = { env := lkE [(1, .ptr 32 0), (18, .sl 4 (x.fNodes.map DtENode.cells)), (19, (.g (.int .i64 ((x.fNodes.length : Nat))))), (20, (.g (.int .i64 ((i : Nat)))))], ob := lk [(32, .cells (DtENet.cells x))] }) ?_ ?_
            · refine ⟨_, LeS.ko [(1, .ptr 32 0), (18, .sl 4 (x.fNodes.map DtENode.cells)), (19, (.g (.int .i64 ((x.fNodes.length : Nat))))), (20, (.g (.int .i64 (((0) : Nat)))))] [(32, .cells (DtENet.cells x))] (by simp [KpE, upd_app, lkE_app, lk_cons, DtENet.cells]; try rfl) (by simp [KpO, upd_app, lk_cons, lk_nil, formOb_nn, DtENet.cells]; try rfl) (by rfl) (by simp) (by rfl), _, 0, rfl, ?_, rfl⟩
              · simp
            · rintro mM sS ⟨i, rfl, ⟨hi, hpre⟩, rfl⟩
              refine AW_r rfl rfl fun K hK => ?_
              simp (disch := omega) [wrap64, List.getElem?_eq_getElem, toNat_pred, DtENet.cells, DtENode.cells, DtEMsg.cells, DtCmd.cells, decB_true, decB_false]
              repeat' first | (exfalso; omega) | (refine ⟨fun _ => ?_, fun _ => ?_⟩) | (refine ⟨by omega, ?_⟩) | (intro _)
              all_goals (refine hK _ ?_; clear hK K)
              all_goals
                refine AW_seq ?_
                refine AW_cond rfl (fun hc7 => ?_) (fun hc7 => ?_)
                · try simp [decB_true, decB_false, eqB_true, eqB_false, cmpI_lt, cmpI_ge] at hc7
                  all_goals
                    have hg : x.fNodes[i]? = some x.fNodes[i] := List.getElem?_eq_getElem (by omega)
                    have hm1 := hl3 i (by omega)
                    refine AW_skip ?_
                    refine AW_id ?_
                    refine AW_seq ?_
                    refine AW_block ?_
                    refine AW_r rfl rfl fun K hK => ?_
                    simp (disch := omega) [wrap64, List.getElem?_eq_getElem, toNat_pred, DtENet.cells, DtENode.cells, DtEMsg.cells, DtCmd.cells, decB_true, decB_false]
                    repeat' first | (exfalso; omega) | (refine ⟨fun _ => ?_, fun _ => ?_⟩) | (refine ⟨by omega, ?_⟩) | (intro _)
                    all_goals (refine hK _ ?_; clear hK K)
                    all_goals
                      refine AW_r rfl rfl fun K hK => ?_
                      simp (disch := omega) [wrap64, List.getElem?_eq_getElem, toNat_pred, DtENet.cells, DtENode.cells, DtEMsg.cells, DtCmd.cells, decB_true, decB_false]
                      repeat' first | (exfalso; omega) | (refine CKd_v (am2s_cons (am2_agg rfl) am2s_nil) (implENodeOk _ (by assumption)) rfl ?_; simp (disch := omega) [wrap64, List.getElem?_eq_getElem, toNat_pred, DtENet.cells, DtENode.cells, DtEMsg.cells, DtCmd.cells, decB_true, decB_false]) | (refine ⟨fun _ => ?_, fun _ => ?_⟩) | (refine ⟨by omega, ?_⟩) | (intro _)
                      all_goals (refine hK _ ?_; clear hK K)
                      all_goals
                        refine AW_cond rfl (fun hc8 => ?_) (fun hc8 => ?_)
                        · try simp [decB_true, decB_false, eqB_true, eqB_false, cmpI_lt, cmpI_ge] at hc8
                          all_goals
                            refine AW_r rfl rfl fun K hK => ?_
                            simp (disch := omega) [wrap64, List.getElem?_eq_getElem, toNat_pred, DtENet.cells, DtENode.cells, DtEMsg.cells, DtCmd.cells, decB_true, decB_false]
                            repeat' first | (exfalso; omega) | (refine ⟨fun _ => ?_, fun _ => ?_⟩) | (refine ⟨by omega, ?_⟩) | (intro _)
                            all_goals (refine hK _ ?_; clear hK K)
                            all_goals
                              refine AW_ret (end_s ?_)
                              simp (disch := omega) [wrap64, List.getElem?_eq_getElem, toNat_pred, DtENet.cells, DtENode.cells, DtEMsg.cells, DtCmd.cells, decB_true, decB_false]
                              all_goals first | grind [NetP] | (refine decB_f fun h => ?_; grind [NetP]) | (refine decB_t ?_; grind [NetP])
                        · try simp [decB_true, decB_false, eqB_true, eqB_false, cmpI_lt, cmpI_ge] at hc8
                          all_goals
                            refine AW_skip ?_
                            refine AW_id ?_
                            refine AW_re rfl rfl fun K hK => ?_
                            simp (disch := omega) [wrap64, List.getElem?_eq_getElem, toNat_pred, DtENet.cells, DtENode.cells, DtEMsg.cells, DtCmd.cells, decB_true, decB_false]
                            repeat' first | (exfalso; omega) | (refine ⟨fun _ => ?_, fun _ => ?_⟩) | (refine ⟨by omega, ?_⟩) | (intro _)
                            all_goals (refine hK _ ?_; clear hK K)
                            all_goals
                              refine ⟨_, LeS.ko [(1, .ptr 32 0), (18, .sl 4 (x.fNodes.map DtENode.cells)), (19, (.g (.int .i64 ((x.fNodes.length : Nat))))), (20, (.g (.int .i64 (((i + 1) : Nat)))))] [(32, .cells (DtENet.cells x))] (by simp [KpE, upd_app, lkE_app, lk_cons, DtENet.cells]; try rfl) (by simp [KpO, upd_app, lk_cons, lk_nil, formOb_nn, DtENet.cells]; try rfl) (by rfl) (by simp) (by rfl), _, ?_, i + 1, rfl, ?_, rfl⟩
                              · omega
                              · refine ⟨by omega, fun j n hj hx => ?_⟩
                                by_cases hji : j = i
                                · subst hji; rw [hg] at hx; cases hx; clear hl3 hl4 hl5; grind
                                · exact hpre j n (by omega) hx
                · try simp [decB_true, decB_false, eqB_true, eqB_false, cmpI_lt, cmpI_ge] at hc7
                  all_goals
                    have hall : ∀ (j : Nat) n, x.fNodes[j]? = some n → ENodeP n ∧ n.fMe = j := fun j n hx => hpre j n (by have := (List.getElem?_eq_some_iff.1 hx).1; omega) hx
                    refine AW_exit ?_
                    refine AW_id ?_
                    refine AW_seq ?_
                    refine AW_r rfl rfl fun K hK => ?_
                    simp (disch := omega) [wrap64, List.getElem?_eq_getElem, toNat_pred, DtENet.cells, DtENode.cells, DtEMsg.cells, DtCmd.cells, decB_true, decB_false]
                    repeat' first | (exfalso; omega) | (refine ⟨fun _ => ?_, fun _ => ?_⟩) | (refine ⟨by omega, ?_⟩) | (intro _)
                    all_goals (refine hK _ ?_; clear hK K)
                    all_goals
                      refine AW_block ?_
                      refine AW_loopS (fun mM sS => ∃ (i : Nat), mM = x.fPool.length - i ∧ (i ≤ x.fPool.length ∧ ∀ (j : Nat) m, j < i → x.fPool[j]? = some m → MsgP m ∧ ¬ m ∈ x.fPool.take j) ∧ sS = { env := lkE [(1, .ptr 32 0), (36, .sl 19 (x.fPool.map DtEMsg.cells)), (37, (.g (.int .i64 ((x.fPool.length : Nat))))), (38, (.g (.int .i64 ((i : Nat)))))], ob := lk [(32, .cells (DtENet.cells x))] }) ?_ ?_
                      · refine ⟨_, LeS.ko [(1, .ptr 32 0), (36, .sl 19 (x.fPool.map DtEMsg.cells)), (37, (.g (.int .i64 ((x.fPool.length : Nat))))), (38, (.g (.int .i64 (((0) : Nat)))))] [(32, .cells (DtENet.cells x))] (by simp [KpE, upd_app, lkE_app, lk_cons, DtENet.cells]; try rfl) (by simp [KpO, upd_app, lk_cons, lk_nil, formOb_nn, DtENet.cells]; try rfl) (by rfl) (by simp) (by rfl), _, 0, rfl, ?_, rfl⟩
                        · simp
                      · rintro mM sS ⟨i, rfl, ⟨hi, hpre2⟩, rfl⟩
                        refine AW_r rfl rfl fun K hK => ?_
                        simp (disch := omega) [wrap64, List.getElem?_eq_getElem, toNat_pred, DtENet.cells, DtENode.cells, DtEMsg.cells, DtCmd.cells, decB_true, decB_false]
                        repeat' first | (exfalso; omega) | (refine ⟨fun _ => ?_, fun _ => ?_⟩) | (refine ⟨by omega, ?_⟩) | (intro _)
                        all_goals (refine hK _ ?_; clear hK K)
                        all_goals
                          refine AW_seq ?_
                          refine AW_cond rfl (fun hc9 => ?_) (fun hc9 => ?_)
                          · try simp [decB_true, decB_false, eqB_true, eqB_false, cmpI_lt, cmpI_ge] at hc9
                            all_goals
                              have hg2 : x.fPool[i]? = some x.fPool[i] := List.getElem?_eq_getElem (by omega)
                              have ⟨hm1, hm2⟩ := hl4 i (by omega)
                              refine AW_skip ?_
                              refine AW_id ?_
                              refine AW_seq ?_
                              refine AW_block ?_
                              refine AW_r rfl rfl fun K hK => ?_
                              simp (disch := omega) [wrap64, List.getElem?_eq_getElem, toNat_pred, DtENet.cells, DtENode.cells, DtEMsg.cells, DtCmd.cells, decB_true, decB_false]
                              repeat' first | (exfalso; omega) | (refine ⟨fun _ => ?_, fun _ => ?_⟩) | (refine ⟨by omega, ?_⟩) | (intro _)
                              all_goals (refine hK _ ?_; clear hK K)
                              all_goals
                                refine AW_q rfl mix (by kernel_rfl) rfl fun K hK => ?_
                                simp (disch := omega) [wrap64, List.getElem?_eq_getElem, toNat_pred, DtENet.cells, DtENode.cells, DtEMsg.cells, DtCmd.cells, decB_true, decB_false]
                                repeat' first | (exfalso; omega) | (refine CKd_v (am2s_cons (am2_agg rfl) am2s_nil) (implEMsgOk _ (by assumption) (by assumption)) rfl ?_; simp (disch := omega) [wrap64, List.getElem?_eq_getElem, toNat_pred, DtENet.cells, DtENode.cells, DtEMsg.cells, DtCmd.cells, decB_true, decB_false]) | (refine CKd_v (am2s_cons am2_sl (am2s_cons (am2_agg rfl) am2s_nil)) (hasMsgT _ _ _ (by assumption) (by assumption)) rfl ?_; simp (disch := omega) [wrap64, List.getElem?_eq_getElem, toNat_pred, DtENet.cells, DtENode.cells, DtEMsg.cells, DtCmd.cells, decB_true, decB_false]) | (refine ⟨fun _ => ?_, fun _ => ?_⟩) | (refine ⟨by omega, ?_⟩) | (intro _)
                                all_goals (refine hK _ ?_; clear hK K)
                                all_goals
                                  refine AW_cond rfl (fun hc10 => ?_) (fun hc10 => ?_)
                                  · try simp [decB_true, decB_false, eqB_true, eqB_false, cmpI_lt, cmpI_ge] at hc10
                                    all_goals
                                      refine AW_r rfl rfl fun K hK => ?_
                                      simp (disch := omega) [wrap64, List.getElem?_eq_getElem, toNat_pred, DtENet.cells, DtENode.cells, DtEMsg.cells, DtCmd.cells, decB_true, decB_false]
                                      repeat' first | (exfalso; omega) | (refine ⟨fun _ => ?_, fun _ => ?_⟩) | (refine ⟨by omega, ?_⟩) | (intro _)
                                      all_goals (refine hK _ ?_; clear hK K)
                                      all_goals
                                        refine AW_ret (end_s ?_)
                                        simp (disch := omega) [wrap64, List.getElem?_eq_getElem, toNat_pred, DtENet.cells, DtENode.cells, DtEMsg.cells, DtCmd.cells, decB_true, decB_false]
                                        all_goals first | grind [NetP] | (refine decB_f fun h => ?_; grind [NetP]) | (refine decB_t ?_; grind [NetP])
                                  · try simp [decB_true, decB_false, eqB_true, eqB_false, cmpI_lt, cmpI_ge] at hc10
                                    all_goals
                                      refine AW_skip ?_
                                      refine AW_id ?_
                                      refine AW_re rfl rfl fun K hK => ?_
                                      simp (disch := omega) [wrap64, List.getElem?_eq_getElem, toNat_pred, DtENet.cells, DtENode.cells, DtEMsg.cells, DtCmd.cells, decB_true, decB_false]
                                      repeat' first | (exfalso; omega) | (refine ⟨fun _ => ?_, fun _ => ?_⟩) | (refine ⟨by omega, ?_⟩) | (intro _)
                                      all_goals (refine hK _ ?_; clear hK K)
                                      all_goals
                                        refine ⟨_, LeS.ko [(1, .ptr 32 0), (36, .sl 19 (x.fPool.map DtEMsg.cells)), (37, (.g (.int .i64 ((x.fPool.length : Nat))))), (38, (.g (.int .i64 (((i + 1) : Nat)))))] [(32, .cells (DtENet.cells x))] (by simp [KpE, upd_app, lkE_app, lk_cons, DtENet.cells]; try rfl) (by simp [KpO, upd_app, lk_cons, lk_nil, formOb_nn, DtENet.cells]; try rfl) (by rfl) (by simp) (by rfl), _, ?_, i + 1, rfl, ?_, rfl⟩
                                        · omega
                                        · refine ⟨by omega, fun j m hj hx => ?_⟩
                                          by_cases hji : j = i
                                          · subst hji; rw [hg2] at hx; cases hx; clear hl3 hl4 hl5; grind
                                          · exact hpre2 j m (by omega) hx
                          · try simp [decB_true, decB_false, eqB_true, eqB_false, cmpI_lt, cmpI_ge] at hc9
                            all_goals
                              refine AW_exit ?_
                              refine AW_id ?_
                              refine AW_r rfl rfl fun K hK => ?_
                              simp (disch := omega) [wrap64, List.getElem?_eq_getElem, toNat_pred, DtENet.cells, DtENode.cells, DtEMsg.cells, DtCmd.cells, decB_true, decB_false]
                              repeat' first | (exfalso; omega) | (refine ⟨fun _ => ?_, fun _ => ?_⟩) | (refine ⟨by omega, ?_⟩) | (intro _)
                              all_goals (refine hK _ ?_; clear hK K)
                              all_goals
                                refine AW_ret (end_s ?_)
                                simp (disch := omega) [wrap64, List.getElem?_eq_getElem, toNat_pred, DtENet.cells, DtENode.cells, DtEMsg.cells, DtCmd.cells, decB_true, decB_false]
                                all_goals first | grind [NetP] | (refine decB_f fun h => ?_; grind [NetP]) | (refine decB_t ?_; grind [NetP])
end Go.Proofs.YtopeonnaalpmjaaGreat.Vs
