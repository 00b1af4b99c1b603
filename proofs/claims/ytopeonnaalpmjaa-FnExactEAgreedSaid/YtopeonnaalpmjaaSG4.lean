import Derived.Test.YtopeonnaalpmjaaSG3
open Go Go.Proofs Go.Proofs.Ytopeonnaalpmjaa.Vs
namespace Go.Proofs.Ytopeonnaalpmjaa.Vs
set_option linter.unusedVariables false
set_option linter.unusedSimpArgs false
set_option linter.unusedSectionVars false
set_option linter.unnecessarySimpa false
set_option linter.all false
set_option linter.unusedSimpArgs false
set_option linter.unusedVariables false
set_option maxRecDepth 100000
theorem instSm (x : DtInst) (hs : DtInst.sz x ≤ 1048576) : InstSm x := by
  have h4 := sumZ_nonneg lenZ_nonneg x.fCmd.fChunks
  have h1 := DtCmd.sz_nonneg x.fCmd
  unfold InstSm
  simp only [DtInst.sz, DtCmd.sz, szS] at hs h1 ⊢
  omega
theorem commSm (x : DtENet) (hs : DtENet.sz x ≤ 1048576) : (commL x.fNodes).length ≤ 1048576 ∧ ∀ i (h : i < (commL x.fNodes).length), InstSm (commL x.fNodes)[i] := by
  refine ⟨?_, fun i h => ?_⟩
  · have := (accBd x hs).1 x.fNodes.length
    rwa [List.take_length] at this
  · obtain ⟨a, n, ha, hp, -⟩ := mem_commL.1 (List.getElem_mem h)
    have h2 := (netSz x hs).2.2.1 a (List.getElem?_eq_some_iff.1 ha).1
    rw [(List.getElem?_eq_some_iff.1 ha).2] at h2
    have h3 := (nodeSz _ h2).1
    obtain ⟨j, hj⟩ := List.getElem?_of_mem hp
    have h4 := (instsSz _ h3).2 j (List.getElem?_eq_some_iff.1 hj).1
    rw [(List.getElem?_eq_some_iff.1 hj).2] at h4
    exact instSm _ h4
def LinkQ (p q : DtInst) : Prop := ¬ p.fId = q.fId → ClashP p.fCmd q.fCmd → q.fId ∈ p.fDeps ∨ p.fId ∈ q.fDeps
def PairsP (R : DtInst → DtInst → Prop) (l : List DtInst) : Prop := ∀ (i k : Nat) p q, k < i → l[i]? = some p → l[k]? = some q → R p q
def LinkedP (x : DtENet) : Prop := NetP x ∧ PairsP LinkQ (commL x.fNodes)
theorem pairs_step {R : DtInst → DtInst → Prop} {l : List DtInst} {i : Nat} {p : DtInst} (hg : l[i]? = some p) (h : ∀ (a b : Nat) p q, a < i → b < a → l[a]? = some p → l[b]? = some q → R p q) (h2 : ∀ (b : Nat) q, b < i → l[b]? = some q → R p q) : ∀ (a b : Nat) p q, a < i + 1 → b < a → l[a]? = some p → l[b]? = some q → R p q := by
  intro a b u v ha hb hu hv
  by_cases e : a = i
  · subst e; rw [hg] at hu; cases hu; exact h2 b v hb hv
  · exact h a b u v (by omega) hb hu hv
theorem specELinked (x : DtENet) (hs : DtENet.sz x ≤ 1048576) : PCall Try.prog 19 [.agg (DtENet.cells x)] (.g (.bool (decB (LinkedP x)))) := by
  have ⟨hl1, hl2⟩ := commSm x hs
  obtain ⟨l, hl⟩ : ∃ l, commL x.fNodes = l := ⟨_, rfl⟩
  have hL : LinkedP x = (NetP x ∧ PairsP LinkQ l) := by rw [← hl]; rfl
  rw [hl] at hl1 hl2
  have h14 := l14All x hs
  rw [hl] at h14
  refine gcall_of_walk Try.func19 (by rfl) (by rfl) (by rw [Try.ntmps19]; exact Nat.le_of_ble_eq_true rfl) rfl (by decide) ?_
  rw [Try.ntmps19]
  refine AW_k [(0, _)] ⟨rfl, trivial⟩ ?_
  refine AW_r rfl rfl fun K hK => ?_
  simp (disch := omega) [wrap64, List.getElem?_eq_getElem, toNat_pred, DtENet.cells, DtENode.cells, DtInst.cells, DtId.cells, e2_id, decB_true, decB_false]
  repeat' first | (exfalso; omega) | (refine ⟨fun _ => ?_, fun _ => ?_⟩) | (refine ⟨by omega, ?_⟩) | (intro _)
  all_goals (refine hK _ ?_; clear hK K)
  all_goals
    refine AW_seq ?_
    refine AW_r rfl rfl fun K hK => ?_
    simp (disch := omega) [wrap64, List.getElem?_eq_getElem, toNat_pred, DtENet.cells, DtENode.cells, DtInst.cells, DtId.cells, e2_id, decB_true, decB_false]
    repeat' first | (exfalso; omega) | (refine CKd_v (am2s_cons (am2_agg rfl) am2s_nil) (specENetOk _ (by assumption)) rfl ?_; simp (disch := omega) [wrap64, List.getElem?_eq_getElem, toNat_pred, DtENet.cells, DtENode.cells, DtInst.cells, DtId.cells, e2_id, decB_true, decB_false]) | (refine ⟨fun _ => ?_, fun _ => ?_⟩) | (refine ⟨by omega, ?_⟩) | (intro _)
    all_goals (refine hK _ ?_; clear hK K)
    all_goals
      refine AW_cond rfl (fun hc1 => ?_) (fun hc1 => ?_)
      · try simp [decB_true, decB_false, eqB_true, eqB_false, cmpI_lt, cmpI_ge] at hc1
        all_goals
          refine AW_r rfl rfl fun K hK => ?_
          simp (disch := omega) [wrap64, List.getElem?_eq_getElem, toNat_pred, DtENet.cells, DtENode.cells, DtInst.cells, DtId.cells, e2_id, decB_true, decB_false]
          repeat' first | (exfalso; omega) | (refine ⟨fun _ => ?_, fun _ => ?_⟩) | (refine ⟨by omega, ?_⟩) | (intro _)
          all_goals (refine hK _ ?_; clear hK K)
          all_goals
            refine AW_ret (end_s ?_)
            simp (disch := omega) [wrap64, List.getElem?_eq_getElem, toNat_pred, DtENet.cells, DtENode.cells, DtInst.cells, DtId.cells, e2_id, decB_true, decB_false]
            all_goals first | (rw [hL]; intro h; have hh := h.2 i k _ _ (by omega) hg hg2; clear hpre hpre2 hl2; grind [LinkQ]; done) | (rw [hL]; grind; done) | (refine decB_f fun h => ?_; grind [LinkQ, PairsP]) | (refine decB_t ?_; grind)
      · try simp [decB_true, decB_false, eqB_true, eqB_false, cmpI_lt, cmpI_ge] at hc1
        all_goals
          refine AW_skip ?_
          refine AW_id ?_
          refine AW_r rfl rfl fun K hK => ?_
          simp (disch := omega) [wrap64, List.getElem?_eq_getElem, toNat_pred, DtENet.cells, DtENode.cells, DtInst.cells, DtId.cells, e2_id, decB_true, decB_false]
          repeat' first | (exfalso; omega) | (refine CKd_v (am2s_cons (am2_agg rfl) am2s_nil) (h14) rfl ?_; simp (disch := omega) [wrap64, List.getElem?_eq_getElem, toNat_pred, DtENet.cells, DtENode.cells, DtInst.cells, DtId.cells, e2_id, decB_true, decB_false]) | (refine ⟨fun _ => ?_, fun _ => ?_⟩) | (refine ⟨by omega, ?_⟩) | (intro _)
          all_goals (refine hK _ ?_; clear hK K)
          all_goals
            refine AW_seq ?_
            refine AW_r rfl rfl fun K hK => ?_
            simp (disch := omega) [wrap64, List.getElem?_eq_getElem, toNat_pred, DtENet.cells, DtENode.cells, DtInst.cells, DtId.cells, e2_id, decB_true, decB_false]
            repeat' first | (exfalso; omega) | (refine ⟨fun _ => ?_, fun _ => ?_⟩) | (refine ⟨by omega, ?_⟩) | (intro _)
            all_goals (refine hK _ ?_; clear hK K)
            all_goals
              refine AW_block ?_
              refine AW_loopS (fun mM sS => ∃ (i : Nat), mM = l.length - i ∧ (i ≤ l.length ∧ ∀ (a b : Nat) p q, a < i → b < a → l[a]? = some p → l[b]? = some q → LinkQ p q) ∧ sS = { env := lkE [(1, .ptr 32 0), (3, .sl 16 (l.map DtInst.cells)), (4, (.g (.int .i64 ((i : Nat)))))], ob := lk [(32, .cells (DtENet.cells x))] }) ?_ ?_
              · refine ⟨_, LeS.ko [(1, .ptr 32 0), (3, .sl 16 (l.map DtInst.cells)), (4, (.g (.int .i64 (((0) : Nat)))))] [(32, .cells (DtENet.cells x))] (by simp [KpE, upd_app, lkE_app, lk_cons, DtENet.cells]; try rfl) (by simp [KpO, upd_app, lk_cons, lk_nil, formOb_nn, DtENet.cells]; try rfl) (by rfl) (by simp) (by rfl), _, 0, rfl, ?_, rfl⟩
                · simp
              · rintro mM sS ⟨i, rfl, ⟨hi, hpre⟩, rfl⟩
                refine AW_seq ?_
                refine AW_r rfl rfl fun K hK => ?_
                simp (disch := omega) [wrap64, List.getElem?_eq_getElem, toNat_pred, DtENet.cells, DtENode.cells, DtInst.cells, DtId.cells, e2_id, decB_true, decB_false]
                repeat' first | (exfalso; omega) | (refine ⟨fun _ => ?_, fun _ => ?_⟩) | (refine ⟨by omega, ?_⟩) | (intro _)
                all_goals (refine hK _ ?_; clear hK K)
                all_goals
                  refine AW_cond rfl (fun hc2 => ?_) (fun hc2 => ?_)
                  · try simp [decB_true, decB_false, eqB_true, eqB_false, cmpI_lt, cmpI_ge] at hc2
                    all_goals
                      have hg : l[i]? = some l[i] := List.getElem?_eq_getElem (by omega)
                      have hm1 := hl2 i (by omega)
                      refine AW_skip ?_
                      refine AW_id ?_
                      refine AW_seq ?_
                      refine AW_block ?_
                      refine AW_r rfl rfl fun K hK => ?_
                      simp (disch := omega) [wrap64, List.getElem?_eq_getElem, toNat_pred, DtENet.cells, DtENode.cells, DtInst.cells, DtId.cells, e2_id, decB_true, decB_false]
                      repeat' first | (exfalso; omega) | (refine ⟨fun _ => ?_, fun _ => ?_⟩) | (refine ⟨by omega, ?_⟩) | (intro _)
                      all_goals (refine hK _ ?_; clear hK K)
                      all_goals
                        refine AW_block ?_
                        refine AW_loopS (fun mM sS => ∃ (k : Nat), mM = i - k ∧ (k ≤ i ∧ ∀ (b : Nat) q, b < k → l[b]? = some q → LinkQ l[i] q) ∧ sS = { env := lkE [(1, .ptr 32 0), (3, .sl 16 (l.map DtInst.cells)), (4, (.g (.int .i64 ((i : Nat))))), (5, (.g (.int .i64 ((k : Nat)))))], ob := lk [(32, .cells (DtENet.cells x))] }) ?_ ?_
                        · refine ⟨_, LeS.ko [(1, .ptr 32 0), (3, .sl 16 (l.map DtInst.cells)), (4, (.g (.int .i64 ((i : Nat))))), (5, (.g (.int .i64 (((0) : Nat)))))] [(32, .cells (DtENet.cells x))] (by simp [KpE, upd_app, lkE_app, lk_cons, DtENet.cells]; try rfl) (by simp [KpO, upd_app, lk_cons, lk_nil, formOb_nn, DtENet.cells]; try rfl) (by rfl) (by simp) (by rfl), _, 0, rfl, ?_, rfl⟩
                          · simp
                        · rintro mM sS ⟨k, rfl, ⟨hk, hpre2⟩, rfl⟩
                          refine AW_seq ?_
                          refine AW_r rfl rfl fun K hK => ?_
                          simp (disch := omega) [wrap64, List.getElem?_eq_getElem, toNat_pred, DtENet.cells, DtENode.cells, DtInst.cells, DtId.cells, e2_id, decB_true, decB_false]
                          repeat' first | (exfalso; omega) | (refine ⟨fun _ => ?_, fun _ => ?_⟩) | (refine ⟨by omega, ?_⟩) | (intro _)
                          all_goals (refine hK _ ?_; clear hK K)
                          all_goals
                            refine AW_cond rfl (fun hc3 => ?_) (fun hc3 => ?_)
                            · try simp [decB_true, decB_false, eqB_true, eqB_false, cmpI_lt, cmpI_ge] at hc3
                              all_goals
                                have hg2 : l[k]? = some l[k] := List.getElem?_eq_getElem (by omega)
                                have hm2 := hl2 k (by omega)
                                have he := id_ext l[i].fId l[k].fId
                                have hc1 := hm1.2.1
                                have hc2 := hm1.2.2
                                have hc3 := hm2.2.1
                                have hc4 := hm2.2.2
                                refine AW_skip ?_
                                refine AW_id ?_
                                refine AW_seq ?_
                                refine AW_block ?_
                                refine AW_q rfl mix (by kernel_rfl) rfl fun K hK => ?_
                                simp (disch := omega) [wrap64, List.getElem?_eq_getElem, toNat_pred, DtENet.cells, DtENode.cells, DtInst.cells, DtId.cells, e2_id, decB_true, decB_false]
                                repeat' first | (exfalso; omega) | (refine CKd_v (am2s_cons (am2_agg rfl) (am2s_cons (am2_agg rfl) am2s_nil)) (specClash _ _ (by assumption) (by assumption)) rfl ?_; simp (disch := omega) [wrap64, List.getElem?_eq_getElem, toNat_pred, DtENet.cells, DtENode.cells, DtInst.cells, DtId.cells, e2_id, decB_true, decB_false]) | (refine CKd_v (am2s_cons am2_sl (am2s_cons (am2_agg rfl) am2s_nil)) (l8Has _ _ (by assumption)) rfl ?_; simp (disch := omega) [wrap64, List.getElem?_eq_getElem, toNat_pred, DtENet.cells, DtENode.cells, DtInst.cells, DtId.cells, e2_id, decB_true, decB_false]) | (refine ⟨fun _ => ?_, fun _ => ?_⟩) | (refine ⟨by omega, ?_⟩) | (intro _)
                                all_goals (refine hK _ ?_; clear hK K)
                                all_goals
                                  refine AW_cond rfl (fun hc4 => ?_) (fun hc4 => ?_)
                                  · try simp [decB_true, decB_false, eqB_true, eqB_false, cmpI_lt, cmpI_ge] at hc4
                                    all_goals
                                      refine AW_r rfl rfl fun K hK => ?_
                                      simp (disch := omega) [wrap64, List.getElem?_eq_getElem, toNat_pred, DtENet.cells, DtENode.cells, DtInst.cells, DtId.cells, e2_id, decB_true, decB_false]
                                      repeat' first | (exfalso; omega) | (refine ⟨fun _ => ?_, fun _ => ?_⟩) | (refine ⟨by omega, ?_⟩) | (intro _)
                                      all_goals (refine hK _ ?_; clear hK K)
                                      all_goals
                                        refine AW_ret (end_s ?_)
                                        simp (disch := omega) [wrap64, List.getElem?_eq_getElem, toNat_pred, DtENet.cells, DtENode.cells, DtInst.cells, DtId.cells, e2_id, decB_true, decB_false]
                                        all_goals first | (rw [hL]; intro h; have hh := h.2 i k _ _ (by omega) hg hg2; clear hpre hpre2 hl2; grind [LinkQ]; done) | (rw [hL]; grind; done) | (refine decB_f fun h => ?_; grind [LinkQ, PairsP]) | (refine decB_t ?_; grind)
                                  · try simp [decB_true, decB_false, eqB_true, eqB_false, cmpI_lt, cmpI_ge] at hc4
                                    all_goals
                                      refine AW_skip ?_
                                      refine AW_id ?_
                                      refine AW_re rfl rfl fun K hK => ?_
                                      simp (disch := omega) [wrap64, List.getElem?_eq_getElem, toNat_pred, DtENet.cells, DtENode.cells, DtInst.cells, DtId.cells, e2_id, decB_true, decB_false]
                                      repeat' first | (exfalso; omega) | (refine ⟨fun _ => ?_, fun _ => ?_⟩) | (refine ⟨by omega, ?_⟩) | (intro _)
                                      all_goals (refine hK _ ?_; clear hK K)
                                      all_goals
                                        refine ⟨_, LeS.ko [(1, .ptr 32 0), (3, .sl 16 (l.map DtInst.cells)), (4, (.g (.int .i64 ((i : Nat))))), (5, (.g (.int .i64 (((k + 1) : Nat)))))] [(32, .cells (DtENet.cells x))] (by simp [KpE, upd_app, lkE_app, lk_cons, DtENet.cells]; try rfl) (by simp [KpO, upd_app, lk_cons, lk_nil, formOb_nn, DtENet.cells]; try rfl) (by rfl) (by simp) (by rfl), _, ?_, k + 1, rfl, ?_, rfl⟩
                                        · omega
                                        · refine ⟨by omega, fun b q hb hq => ?_⟩
                                          by_cases hbk : b = k
                                          · subst hbk; rw [hg2] at hq; cases hq; clear hpre hpre2; grind [LinkQ]
                                          · exact hpre2 b q (by omega) hq
                            · try simp [decB_true, decB_false, eqB_true, eqB_false, cmpI_lt, cmpI_ge] at hc3
                              all_goals
                                have hall : ∀ (b : Nat) q, b < i → l[b]? = some q → LinkQ l[i] q := fun b q hb hq => hpre2 b q (by omega) hq
                                refine AW_exit ?_
                                refine AW_id ?_
                                refine AW_re rfl rfl fun K hK => ?_
                                simp (disch := omega) [wrap64, List.getElem?_eq_getElem, toNat_pred, DtENet.cells, DtENode.cells, DtInst.cells, DtId.cells, e2_id, decB_true, decB_false]
                                repeat' first | (exfalso; omega) | (refine ⟨fun _ => ?_, fun _ => ?_⟩) | (refine ⟨by omega, ?_⟩) | (intro _)
                                all_goals (refine hK _ ?_; clear hK K)
                                all_goals
                                  refine ⟨_, LeS.ko [(1, .ptr 32 0), (3, .sl 16 (l.map DtInst.cells)), (4, (.g (.int .i64 (((i + 1) : Nat)))))] [(32, .cells (DtENet.cells x))] (by simp [KpE, upd_app, lkE_app, lk_cons, DtENet.cells]; try rfl) (by simp [KpO, upd_app, lk_cons, lk_nil, formOb_nn, DtENet.cells]; try rfl) (by rfl) (by simp) (by rfl), _, ?_, i + 1, rfl, ?_, rfl⟩
                                  · omega
                                  · exact ⟨by omega, pairs_step hg hpre hall⟩
                  · try simp [decB_true, decB_false, eqB_true, eqB_false, cmpI_lt, cmpI_ge] at hc2
                    all_goals
                      have hP : PairsP LinkQ l := fun a b p q hb hp hq => hpre a b p q (by have := (List.getElem?_eq_some_iff.1 hp).1; omega) hb hp hq
                      refine AW_exit ?_
                      refine AW_id ?_
                      refine AW_r rfl rfl fun K hK => ?_
                      simp (disch := omega) [wrap64, List.getElem?_eq_getElem, toNat_pred, DtENet.cells, DtENode.cells, DtInst.cells, DtId.cells, e2_id, decB_true, decB_false]
                      repeat' first | (exfalso; omega) | (refine ⟨fun _ => ?_, fun _ => ?_⟩) | (refine ⟨by omega, ?_⟩) | (intro _)
                      all_goals (refine hK _ ?_; clear hK K)
                      all_goals
                        refine AW_ret (end_s ?_)
                        simp (disch := omega) [wrap64, List.getElem?_eq_getElem, toNat_pred, DtENet.cells, DtENode.cells, DtInst.cells, DtId.cells, e2_id, decB_true, decB_false]
                        all_goals first | (rw [hL]; intro h; have hh := h.2 i k _ _ (by omega) hg hg2; clear hpre hpre2 hl2; grind [LinkQ]; done) | (rw [hL]; grind; done) | (refine decB_f fun h => ?_; grind [LinkQ, PairsP]) | (refine decB_t ?_; grind)
theorem implELinked (x : DtENet) (hs : DtENet.sz x ≤ 1048576) : PCall Try.prog 20 [.agg (DtENet.cells x)] (.g (.bool (decB (LinkedP x)))) := by
  have ⟨hl1, hl2⟩ := commSm x hs
  obtain ⟨l, hl⟩ : ∃ l, commL x.fNodes = l := ⟨_, rfl⟩
  have hL : LinkedP x = (NetP x ∧ PairsP LinkQ l) := by rw [← hl]; rfl
  rw [hl] at hl1 hl2
  have h14 := committed x hs
  rw [hl] at h14
  refine gcall_of_walk Try.func20 (by rfl) (by rfl) (by rw [Try.ntmps20]; exact Nat.le_of_ble_eq_true rfl) rfl (by decide) ?_
  rw [Try.ntmps20]
  refine AW_k [(0, _)] ⟨rfl, trivial⟩ ?_
  refine AW_r rfl rfl fun K hK => ?_
  simp (disch := omega) [wrap64, List.getElem?_eq_getElem, toNat_pred, DtENet.cells, DtENode.cells, DtInst.cells, DtId.cells, e2_id, decB_true, decB_false]
  repeat' first | (exfalso; omega) | (refine ⟨fun _ => ?_, fun _ => ?_⟩) | (refine ⟨by omega, ?_⟩) | (intro _)
  all_goals (refine hK _ ?_; clear hK K)
  all_goals
    refine AW_seq ?_
    refine AW_r rfl rfl fun K hK => ?_
    simp (disch := omega) [wrap64, List.getElem?_eq_getElem, toNat_pred, DtENet.cells, DtENode.cells, DtInst.cells, DtId.cells, e2_id, decB_true, decB_false]
    repeat' first | (exfalso; omega) | (refine CKd_v (am2s_cons (am2_agg rfl) am2s_nil) (implENetOk _ (by assumption)) rfl ?_; simp (disch := omega) [wrap64, List.getElem?_eq_getElem, toNat_pred, DtENet.cells, DtENode.cells, DtInst.cells, DtId.cells, e2_id, decB_true, decB_false]) | (refine ⟨fun _ => ?_, fun _ => ?_⟩) | (refine ⟨by omega, ?_⟩) | (intro _)
    all_goals (refine hK _ ?_; clear hK K)
    all_goals
      refine AW_cond rfl (fun hc5 => ?_) (fun hc5 => ?_)
      · try simp [decB_true, decB_false, eqB_true, eqB_false, cmpI_lt, cmpI_ge] at hc5
        all_goals
          refine AW_r rfl rfl fun K hK => ?_
          simp (disch := omega) [wrap64, List.getElem?_eq_getElem, toNat_pred, DtENet.cells, DtENode.cells, DtInst.cells, DtId.cells, e2_id, decB_true, decB_false]
          repeat' first | (exfalso; omega) | (refine ⟨fun _ => ?_, fun _ => ?_⟩) | (refine ⟨by omega, ?_⟩) | (intro _)
          all_goals (refine hK _ ?_; clear hK K)
          all_goals
            refine AW_ret (end_s ?_)
            simp (disch := omega) [wrap64, List.getElem?_eq_getElem, toNat_pred, DtENet.cells, DtENode.cells, DtInst.cells, DtId.cells, e2_id, decB_true, decB_false]
            all_goals first | (rw [hL]; intro h; have hh := h.2 i k _ _ (by omega) hg hg2; clear hpre hpre2 hl2; grind [LinkQ]; done) | (rw [hL]; grind; done) | (refine decB_f fun h => ?_; grind [LinkQ, PairsP]) | (refine decB_t ?_; grind)
      · try simp [decB_true, decB_false, eqB_true, eqB_false, cmpI_lt, cmpI_ge] at hc5
        all_goals
          refine AW_skip ?_
          refine AW_id ?_
          refine AW_r rfl rfl fun K hK => ?_
          simp (disch := omega) [wrap64, List.getElem?_eq_getElem, toNat_pred, DtENet.cells, DtENode.cells, DtInst.cells, DtId.cells, e2_id, decB_true, decB_false]
          repeat' first | (exfalso; omega) | (refine CKd_v (am2s_cons (am2_agg rfl) am2s_nil) (h14) rfl ?_; simp (disch := omega) [wrap64, List.getElem?_eq_getElem, toNat_pred, DtENet.cells, DtENode.cells, DtInst.cells, DtId.cells, e2_id, decB_true, decB_false]) | (refine ⟨fun _ => ?_, fun _ => ?_⟩) | (refine ⟨by omega, ?_⟩) | (intro _)
          all_goals (refine hK _ ?_; clear hK K)
          all_goals
            refine AW_seq ?_
            refine AW_r rfl rfl fun K hK => ?_
            simp (disch := omega) [wrap64, List.getElem?_eq_getElem, toNat_pred, DtENet.cells, DtENode.cells, DtInst.cells, DtId.cells, e2_id, decB_true, decB_false]
            repeat' first | (exfalso; omega) | (refine ⟨fun _ => ?_, fun _ => ?_⟩) | (refine ⟨by omega, ?_⟩) | (intro _)
            all_goals (refine hK _ ?_; clear hK K)
            all_goals
              refine AW_block ?_
              refine AW_loopS (fun mM sS => ∃ (i : Nat), mM = l.length - i ∧ (i ≤ l.length ∧ ∀ (a b : Nat) p q, a < i → b < a → l[a]? = some p → l[b]? = some q → LinkQ p q) ∧ sS = { env := lkE [(1, .ptr 32 0), (3, .sl 16 (l.map DtInst.cells)), (13, .sl 16 (l.map DtInst.cells)), (14, (.g (.int .i64 ((l.length : Nat))))), (15, (.g (.int .i64 ((i : Nat)))))], ob := lk [(32, .cells (DtENet.cells x))] }) ?_ ?_
              · refine ⟨_, LeS.ko [(1, .ptr 32 0), (3, .sl 16 (l.map DtInst.cells)), (13, .sl 16 (l.map DtInst.cells)), (14, (.g (.int .i64 ((l.length : Nat))))), (15, (.g (.int .i64 (((0) : Nat)))))] [(32, .cells (DtENet.cells x))] (by simp [KpE, upd_app, lkE_app, lk_cons, DtENet.cells, DtInst.cells]; try rfl) (by simp [KpO, upd_app, lk_cons, lk_nil, formOb_nn, DtENet.cells, DtInst.cells]; try rfl) (by rfl) (by simp) (by rfl), _, 0, rfl, ?_, rfl⟩
                · simp
              · rintro mM sS ⟨i, rfl, ⟨hi, hpre⟩, rfl⟩
                refine AW_r rfl rfl fun K hK => ?_
                simp (disch := omega) [wrap64, List.getElem?_eq_getElem, toNat_pred, DtENet.cells, DtENode.cells, DtInst.cells, DtId.cells, e2_id, decB_true, decB_false]
                repeat' first | (exfalso; omega) | (refine ⟨fun _ => ?_, fun _ => ?_⟩) | (refine ⟨by omega, ?_⟩) | (intro _)
                all_goals (refine hK _ ?_; clear hK K)
                all_goals
                  refine AW_seq ?_
                  refine AW_cond rfl (fun hc6 => ?_) (fun hc6 => ?_)
                  · try simp [decB_true, decB_false, eqB_true, eqB_false, cmpI_lt, cmpI_ge] at hc6
                    all_goals
                      have hg : l[i]? = some l[i] := List.getElem?_eq_getElem (by omega)
                      have hm1 := hl2 i (by omega)
                      refine AW_skip ?_
                      refine AW_id ?_
                      refine AW_seq ?_
                      refine AW_block ?_
                      refine AW_r rfl rfl fun K hK => ?_
                      simp (disch := omega) [wrap64, List.getElem?_eq_getElem, toNat_pred, DtENet.cells, DtENode.cells, DtInst.cells, DtId.cells, e2_id, decB_true, decB_false]
                      repeat' first | (exfalso; omega) | (refine ⟨fun _ => ?_, fun _ => ?_⟩) | (refine ⟨by omega, ?_⟩) | (intro _)
                      all_goals (refine hK _ ?_; clear hK K)
                      all_goals
                        refine AW_r rfl rfl fun K hK => ?_
                        simp (disch := omega) [wrap64, List.getElem?_eq_getElem, toNat_pred, DtENet.cells, DtENode.cells, DtInst.cells, DtId.cells, e2_id, decB_true, decB_false]
                        repeat' first | (exfalso; omega) | (refine ⟨fun _ => ?_, fun _ => ?_⟩) | (refine ⟨by omega, ?_⟩) | (intro _)
                        all_goals (refine hK _ ?_; clear hK K)
                        all_goals
                          refine AW_block ?_
                          refine AW_loopS (fun mM sS => ∃ (k : Nat), mM = i - k ∧ (k ≤ i ∧ ∀ (b : Nat) q, b < k → l[b]? = some q → LinkQ l[i] q) ∧ sS = { env := lkE [(1, .ptr 32 0), (3, .sl 16 (l.map DtInst.cells)), (5, .ptr 96 0), (13, .sl 16 (l.map DtInst.cells)), (14, (.g (.int .i64 ((l.length : Nat))))), (15, (.g (.int .i64 ((i : Nat))))), (22, .sl 16 ((l.map DtInst.cells).take i)), (23, (.g (.int .i64 ((i : Nat))))), (24, (.g (.int .i64 ((k : Nat)))))], ob := lk [(32, .cells (DtENet.cells x)), (96, .cells (DtInst.cells l[i]))] }) ?_ ?_
                          · refine ⟨_, LeS.ko [(1, .ptr 32 0), (3, .sl 16 (l.map DtInst.cells)), (5, .ptr 96 0), (13, .sl 16 (l.map DtInst.cells)), (14, (.g (.int .i64 ((l.length : Nat))))), (15, (.g (.int .i64 ((i : Nat))))), (22, .sl 16 ((l.map DtInst.cells).take i)), (23, (.g (.int .i64 ((i : Nat))))), (24, (.g (.int .i64 (((0) : Nat)))))] [(32, .cells (DtENet.cells x)), (96, .cells (DtInst.cells l[i]))] (by simp [KpE, upd_app, lkE_app, lk_cons, DtENet.cells, DtInst.cells]; try rfl) (by simp [KpO, upd_app, lk_cons, lk_nil, formOb_nn, DtENet.cells, DtInst.cells]; try rfl) (by rfl) (by simp) (by rfl), _, 0, rfl, ?_, rfl⟩
                            · simp
                          · rintro mM sS ⟨k, rfl, ⟨hk, hpre2⟩, rfl⟩
                            refine AW_r rfl rfl fun K hK => ?_
                            simp (disch := omega) [wrap64, List.getElem?_eq_getElem, toNat_pred, DtENet.cells, DtENode.cells, DtInst.cells, DtId.cells, e2_id, decB_true, decB_false]
                            repeat' first | (exfalso; omega) | (refine ⟨fun _ => ?_, fun _ => ?_⟩) | (refine ⟨by omega, ?_⟩) | (intro _)
                            all_goals (refine hK _ ?_; clear hK K)
                            all_goals
                              refine AW_seq ?_
                              refine AW_cond rfl (fun hc7 => ?_) (fun hc7 => ?_)
                              · try simp [decB_true, decB_false, eqB_true, eqB_false, cmpI_lt, cmpI_ge] at hc7
                                all_goals
                                  have hg2 : l[k]? = some l[k] := List.getElem?_eq_getElem (by omega)
                                  have hm2 := hl2 k (by omega)
                                  have he := id_ext l[i].fId l[k].fId
                                  have hc1 := hm1.2.1
                                  have hc2 := hm1.2.2
                                  have hc3 := hm2.2.1
                                  have hc4 := hm2.2.2
                                  refine AW_skip ?_
                                  refine AW_id ?_
                                  refine AW_seq ?_
                                  refine AW_block ?_
                                  refine AW_r rfl rfl fun K hK => ?_
                                  simp (disch := omega) [wrap64, List.getElem?_eq_getElem, toNat_pred, DtENet.cells, DtENode.cells, DtInst.cells, DtId.cells, e2_id, decB_true, decB_false]
                                  repeat' first | (exfalso; omega) | (refine ⟨fun _ => ?_, fun _ => ?_⟩) | (refine ⟨by omega, ?_⟩) | (intro _)
                                  all_goals (refine hK _ ?_; clear hK K)
                                  all_goals
                                    refine AW_r rfl rfl fun K hK => ?_
                                    simp (disch := omega) [wrap64, List.getElem?_eq_getElem, toNat_pred, DtENet.cells, DtENode.cells, DtInst.cells, DtId.cells, e2_id, decB_true, decB_false]
                                    repeat' first | (exfalso; omega) | (refine CKd_v (am2s_cons (am2_agg rfl) (am2s_cons (am2_agg rfl) am2s_nil)) (implClash _ _ (by assumption) (by assumption)) rfl ?_; simp (disch := omega) [wrap64, List.getElem?_eq_getElem, toNat_pred, DtENet.cells, DtENode.cells, DtInst.cells, DtId.cells, e2_id, decB_true, decB_false]) | (refine CKd_v (am2s_cons am2_sl (am2s_cons (am2_agg rfl) am2s_nil)) (containsId _ _ (by assumption)) rfl ?_; simp (disch := omega) [wrap64, List.getElem?_eq_getElem, toNat_pred, DtENet.cells, DtENode.cells, DtInst.cells, DtId.cells, e2_id, decB_true, decB_false]) | (refine ⟨fun _ => ?_, fun _ => ?_⟩) | (refine ⟨by omega, ?_⟩) | (intro _)
                                    all_goals (refine hK _ ?_; clear hK K)
                                    all_goals
                                      refine AW_cond rfl (fun hc8 => ?_) (fun hc8 => ?_)
                                      · try simp [decB_true, decB_false, eqB_true, eqB_false, cmpI_lt, cmpI_ge] at hc8
                                        all_goals
                                          refine AW_r rfl rfl fun K hK => ?_
                                          simp (disch := omega) [wrap64, List.getElem?_eq_getElem, toNat_pred, DtENet.cells, DtENode.cells, DtInst.cells, DtId.cells, e2_id, decB_true, decB_false]
                                          repeat' first | (exfalso; omega) | (refine ⟨fun _ => ?_, fun _ => ?_⟩) | (refine ⟨by omega, ?_⟩) | (intro _)
                                          all_goals (refine hK _ ?_; clear hK K)
                                          all_goals
                                            refine AW_ret (end_s ?_)
                                            simp (disch := omega) [wrap64, List.getElem?_eq_getElem, toNat_pred, DtENet.cells, DtENode.cells, DtInst.cells, DtId.cells, e2_id, decB_true, decB_false]
                                            all_goals first | (rw [hL]; intro h; have hh := h.2 i k _ _ (by omega) hg hg2; clear hpre hpre2 hl2; grind [LinkQ]; done) | (rw [hL]; grind; done) | (refine decB_f fun h => ?_; grind [LinkQ, PairsP]) | (refine decB_t ?_; grind)
                                      · try simp [decB_true, decB_false, eqB_true, eqB_false, cmpI_lt, cmpI_ge] at hc8
                                        all_goals
                                          refine AW_skip ?_
                                          refine AW_id ?_
                                          refine AW_re rfl rfl fun K hK => ?_
                                          simp (disch := omega) [wrap64, List.getElem?_eq_getElem, toNat_pred, DtENet.cells, DtENode.cells, DtInst.cells, DtId.cells, e2_id, decB_true, decB_false]
                                          repeat' first | (exfalso; omega) | (refine ⟨fun _ => ?_, fun _ => ?_⟩) | (refine ⟨by omega, ?_⟩) | (intro _)
                                          all_goals (refine hK _ ?_; clear hK K)
                                          all_goals
                                            refine ⟨_, LeS.ko [(1, .ptr 32 0), (3, .sl 16 (l.map DtInst.cells)), (5, .ptr 96 0), (13, .sl 16 (l.map DtInst.cells)), (14, (.g (.int .i64 ((l.length : Nat))))), (15, (.g (.int .i64 ((i : Nat))))), (22, .sl 16 ((l.map DtInst.cells).take i)), (23, (.g (.int .i64 ((i : Nat))))), (24, (.g (.int .i64 (((k + 1) : Nat)))))] [(32, .cells (DtENet.cells x)), (96, .cells (DtInst.cells l[i]))] (by simp [KpE, upd_app, lkE_app, lk_cons, DtENet.cells, DtInst.cells]; try rfl) (by simp [KpO, upd_app, lk_cons, lk_nil, formOb_nn, DtENet.cells, DtInst.cells]; try rfl) (by rfl) (by simp) (by rfl), _, ?_, k + 1, rfl, ?_, rfl⟩
                                            · omega
                                            · refine ⟨by omega, fun b q hb hq => ?_⟩
                                              by_cases hbk : b = k
                                              · subst hbk; rw [hg2] at hq; cases hq; clear hpre hpre2; grind [LinkQ]
                                              · exact hpre2 b q (by omega) hq
                              · try simp [decB_true, decB_false, eqB_true, eqB_false, cmpI_lt, cmpI_ge] at hc7
                                all_goals
                                  have hall : ∀ (b : Nat) q, b < i → l[b]? = some q → LinkQ l[i] q := fun b q hb hq => hpre2 b q (by omega) hq
                                  refine AW_exit ?_
                                  refine AW_id ?_
                                  refine AW_re rfl rfl fun K hK => ?_
                                  simp (disch := omega) [wrap64, List.getElem?_eq_getElem, toNat_pred, DtENet.cells, DtENode.cells, DtInst.cells, DtId.cells, e2_id, decB_true, decB_false]
                                  repeat' first | (exfalso; omega) | (refine ⟨fun _ => ?_, fun _ => ?_⟩) | (refine ⟨by omega, ?_⟩) | (intro _)
                                  all_goals (refine hK _ ?_; clear hK K)
                                  all_goals
                                    refine ⟨_, LeS.ko [(1, .ptr 32 0), (3, .sl 16 (l.map DtInst.cells)), (13, .sl 16 (l.map DtInst.cells)), (14, (.g (.int .i64 ((l.length : Nat))))), (15, (.g (.int .i64 (((i + 1) : Nat)))))] [(32, .cells (DtENet.cells x))] (by simp [KpE, upd_app, lkE_app, lk_cons, DtENet.cells, DtInst.cells]; try rfl) (by simp [KpO, upd_app, lk_cons, lk_nil, formOb_nn, DtENet.cells, DtInst.cells]; try rfl) (by rfl) (by simp) (by rfl), _, ?_, i + 1, rfl, ?_, rfl⟩
                                    · omega
                                    · exact ⟨by omega, pairs_step hg hpre hall⟩
                  · try simp [decB_true, decB_false, eqB_true, eqB_false, cmpI_lt, cmpI_ge] at hc6
                    all_goals
                      have hP : PairsP LinkQ l := fun a b p q hb hp hq => hpre a b p q (by have := (List.getElem?_eq_some_iff.1 hp).1; omega) hb hp hq
                      refine AW_exit ?_
                      refine AW_id ?_
                      refine AW_r rfl rfl fun K hK => ?_
                      simp (disch := omega) [wrap64, List.getElem?_eq_getElem, toNat_pred, DtENet.cells, DtENode.cells, DtInst.cells, DtId.cells, e2_id, decB_true, decB_false]
                      repeat' first | (exfalso; omega) | (refine ⟨fun _ => ?_, fun _ => ?_⟩) | (refine ⟨by omega, ?_⟩) | (intro _)
                      all_goals (refine hK _ ?_; clear hK K)
                      all_goals
                        refine AW_ret (end_s ?_)
                        simp (disch := omega) [wrap64, List.getElem?_eq_getElem, toNat_pred, DtENet.cells, DtENode.cells, DtInst.cells, DtId.cells, e2_id, decB_true, decB_false]
                        all_goals first | (rw [hL]; intro h; have hh := h.2 i k _ _ (by omega) hg hg2; clear hpre hpre2 hl2; grind [LinkQ]; done) | (rw [hL]; grind; done) | (refine decB_f fun h => ?_; grind [LinkQ, PairsP]) | (refine decB_t ?_; grind)
theorem lawELinked (u : DtENet) (hw : DtENet.wf u) : PCall Try.prog 6 [.agg (DtENet.cells u)] (.g (.bool (true))) := by
  have hq := DtENet.sz_nonneg u
  by_cases h : (1048576 : Int) - DtENet.sz u < 0
  · have e : szR 1048576 (DtENet.sz u) = -1 := by unfold szR; rw [if_pos h]
    refine gcall_of_walk Try.func6 (by rfl) (by rfl) (by rw [Try.ntmps6]; exact Nat.le_of_ble_eq_true rfl) rfl (by decide) ?_
    rw [Try.ntmps6]
    refine AW_k [(0, _)] ⟨rfl, trivial⟩ ?_
    refine AW_r rfl rfl fun K hK => ?_
    simp (disch := omega) [wrap64, List.getElem?_eq_getElem, toNat_pred, e, DtENet.cells]
    repeat' first | (exfalso; omega) | (refine ⟨fun _ => ?_, fun _ => ?_⟩) | (refine ⟨by omega, ?_⟩) | (intro _)
    all_goals (refine hK _ ?_; clear hK K)
    all_goals
      refine AW_r rfl rfl fun K hK => ?_
      simp (disch := omega) [wrap64, List.getElem?_eq_getElem, toNat_pred, e, DtENet.cells]
      repeat' first | (exfalso; omega) | (refine ⟨fun _ => ?_, fun _ => ?_⟩) | (refine ⟨by omega, ?_⟩) | (intro _)
      all_goals (refine hK _ ?_; clear hK K)
      all_goals
        refine AW_r rfl rfl fun K hK => ?_
        simp (disch := omega) [wrap64, List.getElem?_eq_getElem, toNat_pred, e, DtENet.cells]
        repeat' first | (exfalso; omega) | (refine CKd_v (am2s_cons (am2_agg rfl) (am2s_cons am2_g am2s_nil)) (szENet _ _ (by omega) hw) rfl ?_; simp (disch := omega) [wrap64, List.getElem?_eq_getElem, toNat_pred, e, DtENet.cells]) | (refine ⟨fun _ => ?_, fun _ => ?_⟩) | (refine ⟨by omega, ?_⟩) | (intro _)
        all_goals (refine hK _ ?_; clear hK K)
        all_goals
          refine AW_seq ?_
          refine AW_r rfl rfl fun K hK => ?_
          simp (disch := omega) [wrap64, List.getElem?_eq_getElem, toNat_pred, e, DtENet.cells]
          repeat' first | (exfalso; omega) | (refine ⟨fun _ => ?_, fun _ => ?_⟩) | (refine ⟨by omega, ?_⟩) | (intro _)
          all_goals (refine hK _ ?_; clear hK K)
          all_goals
            refine AW_cond rfl (fun hc9 => ?_) (fun hc9 => ?_)
            · try simp [decB_true, decB_false, eqB_true, eqB_false, cmpI_lt, cmpI_ge] at hc9
              all_goals
                refine AW_r rfl rfl fun K hK => ?_
                simp (disch := omega) [wrap64, List.getElem?_eq_getElem, toNat_pred, e, DtENet.cells]
                repeat' first | (exfalso; omega) | (refine ⟨fun _ => ?_, fun _ => ?_⟩) | (refine ⟨by omega, ?_⟩) | (intro _)
                all_goals (refine hK _ ?_; clear hK K)
                all_goals
                  refine AW_ret (end_s ?_)
                  simp (disch := omega) [wrap64, List.getElem?_eq_getElem, toNat_pred, e, DtENet.cells]
                  all_goals first | omega | (simp_all; done) | (simp [List.take_of_length_le]; done) | ((try simp_all); (try simp (disch := omega) only [wrap64, Int.tdiv_eq_ediv_of_nonneg, Int.tmod_eq_emod_of_nonneg, and_true, true_and]); done) | ((try simp_all); (try simp (disch := omega) only [wrap64, Int.tdiv_eq_ediv_of_nonneg, Int.tmod_eq_emod_of_nonneg, and_true, true_and] at *); omega)
            · try simp [decB_true, decB_false, eqB_true, eqB_false, cmpI_lt, cmpI_ge] at hc9
              all_goals
                refine AW_skip ?_
                refine AW_id ?_
                refine AW_r rfl rfl fun K hK => ?_
                simp (disch := omega) [wrap64, List.getElem?_eq_getElem, toNat_pred, e, DtENet.cells]
                repeat' first | (exfalso; omega) | (refine ⟨fun _ => ?_, fun _ => ?_⟩) | (refine ⟨by omega, ?_⟩) | (intro _)
                all_goals (refine hK _ ?_; clear hK K)
                all_goals
                  refine AW_r rfl rfl fun K hK => ?_
                  simp (disch := omega) [wrap64, List.getElem?_eq_getElem, toNat_pred, e, DtENet.cells]
                  repeat' first | (exfalso; omega) | (refine ⟨fun _ => ?_, fun _ => ?_⟩) | (refine ⟨by omega, ?_⟩) | (intro _)
                  all_goals (refine hK _ ?_; clear hK K)
                  all_goals
                    refine AW_r rfl rfl fun K hK => ?_
                    simp (disch := omega) [wrap64, List.getElem?_eq_getElem, toNat_pred, e, DtENet.cells]
                    repeat' first | (exfalso; omega) | (refine ⟨fun _ => ?_, fun _ => ?_⟩) | (refine ⟨by omega, ?_⟩) | (intro _)
                    all_goals (refine hK _ ?_; clear hK K)
                    all_goals
                      refine AW_seq ?_
                      refine AW_r rfl rfl fun K hK => ?_
                      simp (disch := omega) [wrap64, List.getElem?_eq_getElem, toNat_pred, e, DtENet.cells]
                      repeat' first | (exfalso; omega) | (refine ⟨fun _ => ?_, fun _ => ?_⟩) | (refine ⟨by omega, ?_⟩) | (intro _)
                      all_goals (refine hK _ ?_; clear hK K)
                      all_goals
                        refine AW_cond rfl (fun hc10 => ?_) (fun hc10 => ?_)
                        · try simp [decB_true, decB_false, eqB_true, eqB_false, cmpI_lt, cmpI_ge] at hc10
                          all_goals
                            refine AW_r rfl rfl fun K hK => ?_
                            simp (disch := omega) [wrap64, List.getElem?_eq_getElem, toNat_pred, e, DtENet.cells]
                            repeat' first | (exfalso; omega) | (refine ⟨fun _ => ?_, fun _ => ?_⟩) | (refine ⟨by omega, ?_⟩) | (intro _)
                            all_goals (refine hK _ ?_; clear hK K)
                            all_goals
                              refine AW_ret (end_s ?_)
                              simp (disch := omega) [wrap64, List.getElem?_eq_getElem, toNat_pred, e, DtENet.cells]
                              all_goals first | omega | (simp_all; done) | (simp [List.take_of_length_le]; done) | ((try simp_all); (try simp (disch := omega) only [wrap64, Int.tdiv_eq_ediv_of_nonneg, Int.tmod_eq_emod_of_nonneg, and_true, true_and]); done) | ((try simp_all); (try simp (disch := omega) only [wrap64, Int.tdiv_eq_ediv_of_nonneg, Int.tmod_eq_emod_of_nonneg, and_true, true_and] at *); omega)
                        · try simp [decB_true, decB_false, eqB_true, eqB_false, cmpI_lt, cmpI_ge] at hc10
                          all_goals
                            refine AW_skip ?_
                            refine AW_id ?_
                            refine AW_seq ?_
                            refine AW_q rfl mix (by kernel_rfl) rfl fun K hK => ?_
                            simp (disch := omega) [wrap64, List.getElem?_eq_getElem, toNat_pred, e, DtENet.cells]
                            repeat' first | (exfalso; omega) | (refine ⟨fun _ => ?_, fun _ => ?_⟩) | (refine ⟨by omega, ?_⟩) | (intro _)
                            all_goals (refine hK _ ?_; clear hK K)
                            all_goals
                              refine AW_cond rfl (fun hc11 => ?_) (fun hc11 => ?_)
                              · try simp [decB_true, decB_false, eqB_true, eqB_false, cmpI_lt, cmpI_ge] at hc11
                                all_goals
                                  refine AW_r rfl rfl fun K hK => ?_
                                  simp (disch := omega) [wrap64, List.getElem?_eq_getElem, toNat_pred, e, DtENet.cells]
                                  repeat' first | (exfalso; omega) | (refine ⟨fun _ => ?_, fun _ => ?_⟩) | (refine ⟨by omega, ?_⟩) | (intro _)
                                  all_goals (refine hK _ ?_; clear hK K)
                                  all_goals
                                    refine AW_ret (end_s ?_)
                                    simp (disch := omega) [wrap64, List.getElem?_eq_getElem, toNat_pred, e, DtENet.cells]
                                    all_goals first | omega | (simp_all; done) | (simp [List.take_of_length_le]; done) | ((try simp_all); (try simp (disch := omega) only [wrap64, Int.tdiv_eq_ediv_of_nonneg, Int.tmod_eq_emod_of_nonneg, and_true, true_and]); done) | ((try simp_all); (try simp (disch := omega) only [wrap64, Int.tdiv_eq_ediv_of_nonneg, Int.tmod_eq_emod_of_nonneg, and_true, true_and] at *); omega)
                              · try simp [decB_true, decB_false, eqB_true, eqB_false, cmpI_lt, cmpI_ge] at hc11
                                all_goals
                                  refine AW_skip ?_
                                  refine AW_id ?_
                                  refine AW_r rfl rfl fun K hK => ?_
                                  simp (disch := omega) [wrap64, List.getElem?_eq_getElem, toNat_pred, e, DtENet.cells]
                                  repeat' first | (exfalso; omega) | (refine ⟨fun _ => ?_, fun _ => ?_⟩) | (refine ⟨by omega, ?_⟩) | (intro _)
                                  all_goals (refine hK _ ?_; clear hK K)
                                  all_goals
                                    refine AW_ret (end_s ?_)
                                    simp (disch := omega) [wrap64, List.getElem?_eq_getElem, toNat_pred, e, DtENet.cells]
                                    all_goals first | omega | (simp_all; done) | (simp [List.take_of_length_le]; done) | ((try simp_all); (try simp (disch := omega) only [wrap64, Int.tdiv_eq_ediv_of_nonneg, Int.tmod_eq_emod_of_nonneg, and_true, true_and]); done) | ((try simp_all); (try simp (disch := omega) only [wrap64, Int.tdiv_eq_ediv_of_nonneg, Int.tmod_eq_emod_of_nonneg, and_true, true_and] at *); omega)
  · have e : szR 1048576 (DtENet.sz u) = 1048576 - DtENet.sz u := by unfold szR; rw [if_neg h]
    have e2 : (0 : Int) ≤ 1048576 - DtENet.sz u := by omega
    refine gcall_of_walk Try.func6 (by rfl) (by rfl) (by rw [Try.ntmps6]; exact Nat.le_of_ble_eq_true rfl) rfl (by decide) ?_
    rw [Try.ntmps6]
    refine AW_k [(0, _)] ⟨rfl, trivial⟩ ?_
    refine AW_r rfl rfl fun K hK => ?_
    simp (disch := omega) [wrap64, List.getElem?_eq_getElem, toNat_pred, e, e2, eqB_self, DtENet.cells]
    repeat' first | (exfalso; omega) | (refine ⟨fun _ => ?_, fun _ => ?_⟩) | (refine ⟨by omega, ?_⟩) | (intro _)
    all_goals (refine hK _ ?_; clear hK K)
    all_goals
      refine AW_r rfl rfl fun K hK => ?_
      simp (disch := omega) [wrap64, List.getElem?_eq_getElem, toNat_pred, e, e2, eqB_self, DtENet.cells]
      repeat' first | (exfalso; omega) | (refine ⟨fun _ => ?_, fun _ => ?_⟩) | (refine ⟨by omega, ?_⟩) | (intro _)
      all_goals (refine hK _ ?_; clear hK K)
      all_goals
        refine AW_r rfl rfl fun K hK => ?_
        simp (disch := omega) [wrap64, List.getElem?_eq_getElem, toNat_pred, e, e2, eqB_self, DtENet.cells]
        repeat' first | (exfalso; omega) | (refine CKd_v (am2s_cons (am2_agg rfl) (am2s_cons am2_g am2s_nil)) (szENet _ _ (by omega) hw) rfl ?_; simp (disch := omega) [wrap64, List.getElem?_eq_getElem, toNat_pred, e, e2, eqB_self, DtENet.cells]) | (refine ⟨fun _ => ?_, fun _ => ?_⟩) | (refine ⟨by omega, ?_⟩) | (intro _)
        all_goals (refine hK _ ?_; clear hK K)
        all_goals
          refine AW_seq ?_
          refine AW_r rfl rfl fun K hK => ?_
          simp (disch := omega) [wrap64, List.getElem?_eq_getElem, toNat_pred, e, e2, eqB_self, DtENet.cells]
          repeat' first | (exfalso; omega) | (refine ⟨fun _ => ?_, fun _ => ?_⟩) | (refine ⟨by omega, ?_⟩) | (intro _)
          all_goals (refine hK _ ?_; clear hK K)
          all_goals
            refine AW_cond rfl (fun hc12 => ?_) (fun hc12 => ?_)
            · try simp [decB_true, decB_false, eqB_true, eqB_false, cmpI_lt, cmpI_ge] at hc12
              all_goals
                refine AW_r rfl rfl fun K hK => ?_
                simp (disch := omega) [wrap64, List.getElem?_eq_getElem, toNat_pred, e, e2, eqB_self, DtENet.cells]
                repeat' first | (exfalso; omega) | (refine ⟨fun _ => ?_, fun _ => ?_⟩) | (refine ⟨by omega, ?_⟩) | (intro _)
                all_goals (refine hK _ ?_; clear hK K)
                all_goals
                  refine AW_ret (end_s ?_)
                  simp (disch := omega) [wrap64, List.getElem?_eq_getElem, toNat_pred, e, e2, eqB_self, DtENet.cells]
                  all_goals first | omega | (simp_all; done) | (simp [List.take_of_length_le]; done) | ((try simp_all); (try simp (disch := omega) only [wrap64, Int.tdiv_eq_ediv_of_nonneg, Int.tmod_eq_emod_of_nonneg, and_true, true_and]); done) | ((try simp_all); (try simp (disch := omega) only [wrap64, Int.tdiv_eq_ediv_of_nonneg, Int.tmod_eq_emod_of_nonneg, and_true, true_and] at *); omega)
            · try simp [decB_true, decB_false, eqB_true, eqB_false, cmpI_lt, cmpI_ge] at hc12
              all_goals
                refine AW_skip ?_
                refine AW_id ?_
                refine AW_r rfl rfl fun K hK => ?_
                simp (disch := omega) [wrap64, List.getElem?_eq_getElem, toNat_pred, e, e2, eqB_self, DtENet.cells]
                repeat' first | (exfalso; omega) | (refine CKd_v (am2s_cons (am2_agg rfl) am2s_nil) (toENet _ (by omega)) rfl ?_; simp (disch := omega) [wrap64, List.getElem?_eq_getElem, toNat_pred, e, e2, eqB_self, DtENet.cells]) | (refine CKd_v (am2s_cons (am2_agg rfl) am2s_nil) (specELinked _ (by omega)) rfl ?_; simp (disch := omega) [wrap64, List.getElem?_eq_getElem, toNat_pred, e, e2, eqB_self, DtENet.cells]) | (refine ⟨fun _ => ?_, fun _ => ?_⟩) | (refine ⟨by omega, ?_⟩) | (intro _)
                all_goals (refine hK _ ?_; clear hK K)
                all_goals
                  refine AW_r rfl rfl fun K hK => ?_
                  simp (disch := omega) [wrap64, List.getElem?_eq_getElem, toNat_pred, e, e2, eqB_self, DtENet.cells]
                  repeat' first | (exfalso; omega) | (refine CKd_v (am2s_cons (am2_agg rfl) am2s_nil) (toENet _ (by omega)) rfl ?_; simp (disch := omega) [wrap64, List.getElem?_eq_getElem, toNat_pred, e, e2, eqB_self, DtENet.cells]) | (refine ⟨fun _ => ?_, fun _ => ?_⟩) | (refine ⟨by omega, ?_⟩) | (intro _)
                  all_goals (refine hK _ ?_; clear hK K)
                  all_goals
                    refine AW_r rfl rfl fun K hK => ?_
                    simp (disch := omega) [wrap64, List.getElem?_eq_getElem, toNat_pred, e, e2, eqB_self, DtENet.cells]
                    repeat' first | (exfalso; omega) | (refine CKd_v (am2s_cons (am2_agg rfl) am2s_nil) (implELinked _ (by omega)) rfl ?_; simp (disch := omega) [wrap64, List.getElem?_eq_getElem, toNat_pred, e, e2, eqB_self, DtENet.cells]) | (refine ⟨fun _ => ?_, fun _ => ?_⟩) | (refine ⟨by omega, ?_⟩) | (intro _)
                    all_goals (refine hK _ ?_; clear hK K)
                    all_goals
                      refine AW_seq ?_
                      refine AW_r rfl rfl fun K hK => ?_
                      simp (disch := omega) [wrap64, List.getElem?_eq_getElem, toNat_pred, e, e2, eqB_self, DtENet.cells]
                      repeat' first | (exfalso; omega) | (refine ⟨fun _ => ?_, fun _ => ?_⟩) | (refine ⟨by omega, ?_⟩) | (intro _)
                      all_goals (refine hK _ ?_; clear hK K)
                      all_goals
                        refine AW_cond rfl (fun hc13 => ?_) (fun hc13 => ?_)
                        · try simp [decB_true, decB_false, eqB_true, eqB_false, cmpI_lt, cmpI_ge] at hc13
                          all_goals
                            refine AW_r rfl rfl fun K hK => ?_
                            simp (disch := omega) [wrap64, List.getElem?_eq_getElem, toNat_pred, e, e2, eqB_self, DtENet.cells]
                            repeat' first | (exfalso; omega) | (refine ⟨fun _ => ?_, fun _ => ?_⟩) | (refine ⟨by omega, ?_⟩) | (intro _)
                            all_goals (refine hK _ ?_; clear hK K)
                            all_goals
                              refine AW_ret (end_s ?_)
                              simp (disch := omega) [wrap64, List.getElem?_eq_getElem, toNat_pred, e, e2, eqB_self, DtENet.cells]
                              all_goals first | omega | (simp_all; done) | (simp [List.take_of_length_le]; done) | ((try simp_all); (try simp (disch := omega) only [wrap64, Int.tdiv_eq_ediv_of_nonneg, Int.tmod_eq_emod_of_nonneg, and_true, true_and]); done) | ((try simp_all); (try simp (disch := omega) only [wrap64, Int.tdiv_eq_ediv_of_nonneg, Int.tmod_eq_emod_of_nonneg, and_true, true_and] at *); omega)
                        · try simp [decB_true, decB_false, eqB_true, eqB_false, cmpI_lt, cmpI_ge] at hc13
                          all_goals
                            refine AW_skip ?_
                            refine AW_id ?_
                            refine AW_seq ?_
                            refine AW_q rfl mix (by kernel_rfl) rfl fun K hK => ?_
                            simp (disch := omega) [wrap64, List.getElem?_eq_getElem, toNat_pred, e, e2, eqB_self, DtENet.cells]
                            repeat' first | (exfalso; omega) | (refine CKd_v (am2s_cons (am2_agg rfl) am2s_nil) (toENet _ (by omega)) rfl ?_; simp (disch := omega) [wrap64, List.getElem?_eq_getElem, toNat_pred, e, e2, eqB_self, DtENet.cells]) | (refine CKd_v (am2s_cons (am2_agg rfl) (am2s_cons (am2_agg rfl) am2s_nil)) (eqENet _ _ (by omega)) rfl ?_; simp (disch := omega) [wrap64, List.getElem?_eq_getElem, toNat_pred, e, e2, eqB_self, DtENet.cells]) | (refine ⟨fun _ => ?_, fun _ => ?_⟩) | (refine ⟨by omega, ?_⟩) | (intro _)
                            all_goals (refine hK _ ?_; clear hK K)
                            all_goals
                              refine AW_cond rfl (fun hc14 => ?_) (fun hc14 => ?_)
                              · try simp [decB_true, decB_false, eqB_true, eqB_false, cmpI_lt, cmpI_ge] at hc14
                                all_goals
                                  refine AW_r rfl rfl fun K hK => ?_
                                  simp (disch := omega) [wrap64, List.getElem?_eq_getElem, toNat_pred, e, e2, eqB_self, DtENet.cells]
                                  repeat' first | (exfalso; omega) | (refine ⟨fun _ => ?_, fun _ => ?_⟩) | (refine ⟨by omega, ?_⟩) | (intro _)
                                  all_goals (refine hK _ ?_; clear hK K)
                                  all_goals
                                    refine AW_ret (end_s ?_)
                                    simp (disch := omega) [wrap64, List.getElem?_eq_getElem, toNat_pred, e, e2, eqB_self, DtENet.cells]
                                    all_goals first | omega | (simp_all; done) | (simp [List.take_of_length_le]; done) | ((try simp_all); (try simp (disch := omega) only [wrap64, Int.tdiv_eq_ediv_of_nonneg, Int.tmod_eq_emod_of_nonneg, and_true, true_and]); done) | ((try simp_all); (try simp (disch := omega) only [wrap64, Int.tdiv_eq_ediv_of_nonneg, Int.tmod_eq_emod_of_nonneg, and_true, true_and] at *); omega)
                              · try simp [decB_true, decB_false, eqB_true, eqB_false, cmpI_lt, cmpI_ge] at hc14
                                all_goals
                                  refine AW_skip ?_
                                  refine AW_id ?_
                                  refine AW_r rfl rfl fun K hK => ?_
                                  simp (disch := omega) [wrap64, List.getElem?_eq_getElem, toNat_pred, e, e2, eqB_self, DtENet.cells]
                                  repeat' first | (exfalso; omega) | (refine ⟨fun _ => ?_, fun _ => ?_⟩) | (refine ⟨by omega, ?_⟩) | (intro _)
                                  all_goals (refine hK _ ?_; clear hK K)
                                  all_goals
                                    refine AW_ret (end_s ?_)
                                    simp (disch := omega) [wrap64, List.getElem?_eq_getElem, toNat_pred, e, e2, eqB_self, DtENet.cells]
                                    all_goals first | omega | (simp_all; done) | (simp [List.take_of_length_le]; done) | ((try simp_all); (try simp (disch := omega) only [wrap64, Int.tdiv_eq_ediv_of_nonneg, Int.tmod_eq_emod_of_nonneg, and_true, true_and]); done) | ((try simp_all); (try simp (disch := omega) only [wrap64, Int.tdiv_eq_ediv_of_nonneg, Int.tmod_eq_emod_of_nonneg, and_true, true_and] at *); omega)
end Go.Proofs.Ytopeonnaalpmjaa.Vs
