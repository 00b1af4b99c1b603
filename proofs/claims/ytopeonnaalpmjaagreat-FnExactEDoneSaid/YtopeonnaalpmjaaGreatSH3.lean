import Derived.Test.YtopeonnaalpmjaaGreatSH2
open Go Go.Proofs Go.Proofs.YtopeonnaalpmjaaGreat.Vs
namespace Go.Proofs.YtopeonnaalpmjaaGreat.Vs
set_option linter.unusedVariables false
set_option linter.unusedSimpArgs false
set_option linter.unusedSectionVars false
set_option linter.unnecessarySimpa false
set_option linter.all false
set_option linter.unusedSimpArgs false
set_option linter.unusedVariables false
set_option maxRecDepth 100000
noncomputable def cAt (l : List DtInst) (id : DtId) : Int := idxZ (fun x => eqB x.fId id && decide (x.fStatus = 3)) l
theorem cAt_iff (l : List DtInst) (id : DtId) : 0 ≤ cAt l id ↔ CommAt l id := by
  unfold cAt idxZ CommAt
  cases h : l.findIdx? (fun x => eqB x.fId id && decide (x.fStatus = 3)) with
  | none =>
    rw [List.findIdx?_eq_none_iff] at h
    constructor
    · intro hh; simp at hh
    · rintro ⟨y, hy, h1, h2⟩
      have := h y hy
      rw [eqB_of h1] at this; simp [h2] at this
  | some i =>
    obtain ⟨h1, h2, h3⟩ := List.findIdx?_eq_some_iff_getElem.1 h
    simp only [Bool.and_eq_true, eqB_true, decide_eq_true_eq] at h2
    exact ⟨fun _ => ⟨l[i], List.getElem_mem _, h2.1, h2.2⟩, fun _ => by simp⟩
theorem l12Find (l : List DtInst) (id : DtId) (hn : l.length ≤ 1048576) : PCall Tryz.prog 12 [.sl 16 (l.map DtInst.cells), .agg (DtId.cells id)] (.g (.int .i64 (cAt l id))) := by
  refine gcall_of_walk Tryz.func12 (by rfl) (by rfl) (by rw [Tryz.ntmps12]; exact Nat.le_of_ble_eq_true rfl) rfl (by decide) ?_
  rw [Tryz.ntmps12]
  refine AW_k [(0, _), (1, _)] ⟨rfl, rfl, trivial⟩ ?_
  refine AW_r rfl rfl fun K hK => ?_
  simp (disch := omega) [wrap64, List.getElem?_eq_getElem, toNat_pred, DtInst.cells, DtCmd.cells, DtId.cells, e2_id]
  repeat' first | (exfalso; omega) | (refine ⟨fun _ => ?_, fun _ => ?_⟩) | (refine ⟨by omega, ?_⟩) | (intro _)
  all_goals (refine hK _ ?_; clear hK K)
  all_goals
    refine AW_seq ?_
    refine AW_r rfl rfl fun K hK => ?_
    simp (disch := omega) [wrap64, List.getElem?_eq_getElem, toNat_pred, DtInst.cells, DtCmd.cells, DtId.cells, e2_id]
    repeat' first | (exfalso; omega) | (refine ⟨fun _ => ?_, fun _ => ?_⟩) | (refine ⟨by omega, ?_⟩) | (intro _)
    all_goals (refine hK _ ?_; clear hK K)
    all_goals
      refine AW_block ?_
      refine AW_loopS (fun mM sS => ∃ (i : Nat), mM = l.length - i ∧ (i ≤ l.length ∧ ∀ (j : Nat) y, j < i → l[j]? = some y → (eqB y.fId id && decide (y.fStatus = 3)) = false) ∧ sS = { env := lkE [(0, .sl 16 (l.map DtInst.cells)), (3, .ptr 64 0), (5, (.g (.int .i64 ((i : Nat)))))], ob := lk [(64, .cells (DtId.cells id))] }) ?_ ?_
      · refine ⟨_, LeS.ko [(0, .sl 16 (l.map DtInst.cells)), (3, .ptr 64 0), (5, (.g (.int .i64 (((0) : Nat)))))] [(64, .cells (DtId.cells id))] (by simp [KpE, upd_app, lkE_app, lk_cons, DtId.cells]; try rfl) (by simp [KpO, upd_app, lk_cons, lk_nil, formOb_nn, DtId.cells]; try rfl) (by rfl) (by simp) (by rfl), _, 0, rfl, ?_, rfl⟩
        · simp
      · rintro mM sS ⟨i, rfl, ⟨hi, hpre⟩, rfl⟩
        refine AW_seq ?_
        refine AW_r rfl rfl fun K hK => ?_
        simp (disch := omega) [wrap64, List.getElem?_eq_getElem, toNat_pred, DtInst.cells, DtCmd.cells, DtId.cells, e2_id]
        repeat' first | (exfalso; omega) | (refine ⟨fun _ => ?_, fun _ => ?_⟩) | (refine ⟨by omega, ?_⟩) | (intro _)
        all_goals (refine hK _ ?_; clear hK K)
        all_goals
          refine AW_cond rfl (fun hc1 => ?_) (fun hc1 => ?_)
          · try simp [decB_true, decB_false, eqB_true, eqB_false, cmpI_lt, cmpI_ge] at hc1
            all_goals
              have hg : l[i]? = some l[i] := List.getElem?_eq_getElem (by omega)
              have he := id_ext l[i].fId id
              refine AW_skip ?_
              refine AW_id ?_
              refine AW_seq ?_
              refine AW_block ?_
              refine AW_q rfl mix (by kernel_rfl) rfl fun K hK => ?_
              simp (disch := omega) [wrap64, List.getElem?_eq_getElem, toNat_pred, DtInst.cells, DtCmd.cells, DtId.cells, e2_id]
              repeat' first | (exfalso; omega) | (refine ⟨fun _ => ?_, fun _ => ?_⟩) | (refine ⟨by omega, ?_⟩) | (intro _)
              all_goals (refine hK _ ?_; clear hK K)
              all_goals
                refine AW_cond rfl (fun hc2 => ?_) (fun hc2 => ?_)
                · try simp [decB_true, decB_false, eqB_true, eqB_false, cmpI_lt, cmpI_ge] at hc2
                  all_goals
                    refine AW_r rfl rfl fun K hK => ?_
                    simp (disch := omega) [wrap64, List.getElem?_eq_getElem, toNat_pred, DtInst.cells, DtCmd.cells, DtId.cells, e2_id]
                    repeat' first | (exfalso; omega) | (refine ⟨fun _ => ?_, fun _ => ?_⟩) | (refine ⟨by omega, ?_⟩) | (intro _)
                    all_goals (refine hK _ ?_; clear hK K)
                    all_goals
                      refine AW_ret (end_s ?_)
                      simp (disch := omega) [wrap64, List.getElem?_eq_getElem, toNat_pred, DtInst.cells, DtCmd.cells, DtId.cells, e2_id]
                      all_goals first | (exact idxZ_found (by assumption) (by rw [Bool.and_eq_true, eqB_true]; grind) hpre) | (exact idxZ_none (fun j x h => hpre j x (by omega)))
                · try simp [decB_true, decB_false, eqB_true, eqB_false, cmpI_lt, cmpI_ge] at hc2
                  all_goals
                    refine AW_skip ?_
                    refine AW_id ?_
                    refine AW_re rfl rfl fun K hK => ?_
                    simp (disch := omega) [wrap64, List.getElem?_eq_getElem, toNat_pred, DtInst.cells, DtCmd.cells, DtId.cells, e2_id]
                    repeat' first | (exfalso; omega) | (refine ⟨fun _ => ?_, fun _ => ?_⟩) | (refine ⟨by omega, ?_⟩) | (intro _)
                    all_goals (refine hK _ ?_; clear hK K)
                    all_goals
                      refine ⟨_, LeS.ko [(0, .sl 16 (l.map DtInst.cells)), (3, .ptr 64 0), (5, (.g (.int .i64 (((i + 1) : Nat)))))] [(64, .cells (DtId.cells id))] (by simp [KpE, upd_app, lkE_app, lk_cons, DtId.cells]; try rfl) (by simp [KpO, upd_app, lk_cons, lk_nil, formOb_nn, DtId.cells]; try rfl) (by rfl) (by simp) (by rfl), _, ?_, i + 1, rfl, ?_, rfl⟩
                      · omega
                      · refine ⟨by omega, fun j y hj hy => ?_⟩
                        by_cases hji : j = i
                        · subst hji; rw [hg] at hy; cases hy; rw [Bool.and_eq_false_iff, eqB_false]; grind
                        · exact hpre j y (by omega) hy
          · try simp [decB_true, decB_false, eqB_true, eqB_false, cmpI_lt, cmpI_ge] at hc1
            all_goals
              refine AW_exit ?_
              refine AW_id ?_
              refine AW_r rfl rfl fun K hK => ?_
              simp (disch := omega) [wrap64, List.getElem?_eq_getElem, toNat_pred, DtInst.cells, DtCmd.cells, DtId.cells, e2_id]
              repeat' first | (exfalso; omega) | (refine ⟨fun _ => ?_, fun _ => ?_⟩) | (refine ⟨by omega, ?_⟩) | (intro _)
              all_goals (refine hK _ ?_; clear hK K)
              all_goals
                refine AW_ret (end_s ?_)
                simp (disch := omega) [wrap64, List.getElem?_eq_getElem, toNat_pred, DtInst.cells, DtCmd.cells, DtId.cells, e2_id]
                all_goals first | (exact idxZ_found (by assumption) (by rw [Bool.and_eq_true, eqB_true]; grind) hpre) | (exact idxZ_none (fun j x h => hpre j x (by omega)))
theorem doneG_app (x : DtENet) (a b : List DtId) : doneG x (a ++ b) = doneG x a + doneG x b := by simp [doneG, List.filter_append]
theorem doneG_le (x : DtENet) (a : List DtId) : doneG x a ≤ a.length := List.length_filter_le _ _
theorem doneG_yes (x : DtENet) (r s : Nat) (h : AllAt x 3 (idAt r (s + 1))) : doneG x (grid r ++ grid1 r (s + 1)) = doneG x (grid r ++ grid1 r s) + 1 := by
  rw [grid1_succ, ← List.append_assoc, doneG_app x _ [idAt r (s + 1)]]
  simp [doneG, decB_t h]
theorem doneG_no (x : DtENet) (r s : Nat) (h : ¬ AllAt x 3 (idAt r (s + 1))) : doneG x (grid r ++ grid1 r (s + 1)) = doneG x (grid r ++ grid1 r s) := by
  rw [grid1_succ, ← List.append_assoc, doneG_app x _ [idAt r (s + 1)]]
  simp [doneG, decB_f h]
noncomputable def doneZ (x : DtENet) : Nat := bif decB (NetP x) then doneG x (grid 3) else 0
theorem netSm (x : DtENet) (hs : DtENet.sz x ≤ 1048576) : ∀ a (h : a < x.fNodes.length), x.fNodes[a].fInsts.length ≤ 1048576 ∧ ∀ y ∈ x.fNodes[a].fInsts, InstSm y := by
  intro a h
  have h0 := (netSz x hs).2.2.1 a h
  have h3 := nodeSz _ h0
  refine ⟨h3.2.1, fun y hy => ?_⟩
  obtain ⟨j, hj⟩ := List.getElem?_of_mem hy
  have h4 := (instsSz _ h3.1).2 j (List.getElem?_eq_some_iff.1 hj).1
  rw [(List.getElem?_eq_some_iff.1 hj).2] at h4
  have h6 := sumZ_nonneg lenZ_nonneg y.fCmd.fChunks
  have h5 := DtCmd.sz_nonneg y.fCmd
  unfold InstSm
  simp only [DtInst.sz, DtCmd.sz, szS] at h4 h5 ⊢
  omega
theorem allAt_step {x : DtENet} {a : Nat} {id : DtId} {n : DtENode} (hg : x.fNodes[a]? = some n) : AllAt x (a + 1) id ↔ AllAt x a id ∧ CommAt n.fInsts id := by
  constructor
  · intro h
    exact ⟨fun b m hb hm => h b m (by omega) hm, h a n (by omega) hg⟩
  · rintro ⟨h1, h2⟩ b m hb hm
    by_cases e : b = a
    · subst e; rw [hg] at hm; cases hm; exact h2
    · exact h1 b m (by omega) hm
theorem specEDone (x : DtENet) (hs : DtENet.sz x ≤ 1048576) : PCall Tryz.prog 5 [.agg (DtENet.cells x)] (.g (.int .i64 ((doneZ x : Nat)))) := by
  have hl := netSm x hs
  refine gcall_of_walk Tryz.func5 (by rfl) (by rfl) (by rw [Tryz.ntmps5]; exact Nat.le_of_ble_eq_true rfl) rfl (by decide) ?_
  rw [Tryz.ntmps5]
  refine AW_k [(0, _)] ⟨rfl, trivial⟩ ?_
  refine AW_r rfl rfl fun K hK => ?_
  simp (disch := omega) [wrap64, List.getElem?_eq_getElem, toNat_pred, DtENet.cells, DtENode.cells, DtInst.cells, DtCmd.cells, DtId.cells, decB_true, decB_false]
  repeat' first | (exfalso; omega) | (refine ⟨fun _ => ?_, fun _ => ?_⟩) | (refine ⟨by omega, ?_⟩) | (intro _)
  all_goals (refine hK _ ?_; clear hK K)
  all_goals
    refine AW_r rfl rfl fun K hK => ?_
    simp (disch := omega) [wrap64, List.getElem?_eq_getElem, toNat_pred, DtENet.cells, DtENode.cells, DtInst.cells, DtCmd.cells, DtId.cells, decB_true, decB_false]
    repeat' first | (exfalso; omega) | (refine ⟨fun _ => ?_, fun _ => ?_⟩) | (refine ⟨by omega, ?_⟩) | (intro _)
    all_goals (refine hK _ ?_; clear hK K)
    all_goals
      refine AW_seq ?_
      refine AW_r rfl rfl fun K hK => ?_
      simp (disch := omega) [wrap64, List.getElem?_eq_getElem, toNat_pred, DtENet.cells, DtENode.cells, DtInst.cells, DtCmd.cells, DtId.cells, decB_true, decB_false]
      repeat' first | (exfalso; omega) | (refine ⟨fun _ => ?_, fun _ => ?_⟩) | (refine ⟨by omega, ?_⟩) | (intro _)
      all_goals (refine hK _ ?_; clear hK K)
      all_goals
        refine AW_block ?_
        refine AW_loopS (fun mM sS => ∃ (r : Nat) (n : Nat), mM = 3 - r ∧ (r ≤ 3 ∧ n = doneG x (grid r) ∧ (0 < r → NetP x)) ∧ sS = { env := lkE [(1, .ptr 32 0), (3, (.g (.int .i64 ((n : Nat))))), (4, (.g (.int .i64 ((r : Nat)))))], ob := lk [(32, .cells (DtENet.cells x))] }) ?_ ?_
        · refine ⟨_, LeS.ko [(1, .ptr 32 0), (3, (.g (.int .i64 (((0) : Nat))))), (4, (.g (.int .i64 (((0) : Nat)))))] [(32, .cells (DtENet.cells x))] (by simp [KpE, upd_app, lkE_app, lk_cons, DtENet.cells]; try rfl) (by simp [KpO, upd_app, lk_cons, lk_nil, formOb_nn, DtENet.cells]; try rfl) (by rfl) (by simp) (by rfl), _, 0, 0, rfl, ?_, rfl⟩
          · simp [grid, doneG]
        · rintro mM sS ⟨r, n, rfl, ⟨hr, hn, hN⟩, rfl⟩
          refine AW_seq ?_
          refine AW_r rfl rfl fun K hK => ?_
          simp (disch := omega) [wrap64, List.getElem?_eq_getElem, toNat_pred, DtENet.cells, DtENode.cells, DtInst.cells, DtCmd.cells, DtId.cells, decB_true, decB_false]
          repeat' first | (exfalso; omega) | (refine CKd_v (am2s_cons (am2_agg rfl) am2s_nil) (specENetOk _ (by assumption)) rfl ?_; simp (disch := omega) [wrap64, List.getElem?_eq_getElem, toNat_pred, DtENet.cells, DtENode.cells, DtInst.cells, DtCmd.cells, DtId.cells, decB_true, decB_false]) | (refine ⟨fun _ => ?_, fun _ => ?_⟩) | (refine ⟨by omega, ?_⟩) | (intro _)
          all_goals (refine hK _ ?_; clear hK K)
          all_goals
            refine AW_cond rfl (fun hc3 => ?_) (fun hc3 => ?_)
            · try simp [decB_true, decB_false, eqB_true, eqB_false, cmpI_lt, cmpI_ge] at hc3
              all_goals
                refine AW_skip ?_
                refine AW_id ?_
                refine AW_seq ?_
                refine AW_block ?_
                refine AW_r rfl rfl fun K hK => ?_
                simp (disch := omega) [wrap64, List.getElem?_eq_getElem, toNat_pred, DtENet.cells, DtENode.cells, DtInst.cells, DtCmd.cells, DtId.cells, decB_true, decB_false]
                repeat' first | (exfalso; omega) | (refine ⟨fun _ => ?_, fun _ => ?_⟩) | (refine ⟨by omega, ?_⟩) | (intro _)
                all_goals (refine hK _ ?_; clear hK K)
                all_goals
                  refine AW_block ?_
                  refine AW_loopS (fun mM sS => ∃ (s : Nat) (n2 : Nat), mM = 7 - s ∧ (1 ≤ s ∧ s ≤ 7 ∧ n2 = doneG x (grid r ++ grid1 r (s - 1))) ∧ sS = { env := lkE [(1, .ptr 32 0), (3, (.g (.int .i64 ((n2 : Nat))))), (4, (.g (.int .i64 ((r : Nat))))), (5, (.g (.int .i64 ((s : Nat)))))], ob := lk [(32, .cells (DtENet.cells x))] }) ?_ ?_
                  · refine ⟨_, LeS.ko [(1, .ptr 32 0), (3, (.g (.int .i64 (((n) : Nat))))), (4, (.g (.int .i64 ((r : Nat))))), (5, (.g (.int .i64 (((1) : Nat)))))] [(32, .cells (DtENet.cells x))] (by simp [KpE, upd_app, lkE_app, lk_cons, DtENet.cells]; try rfl) (by simp [KpO, upd_app, lk_cons, lk_nil, formOb_nn, DtENet.cells]; try rfl) (by rfl) (by simp) (by rfl), _, 1, n, rfl, ?_, rfl⟩
                    · simp [hn, grid1]
                  · rintro mM sS ⟨s, n2, rfl, ⟨hs1, hs2, hn2⟩, rfl⟩
                    have hx3 : x.fNodes.length = 3 := by have := (by assumption : NetP x); exact this.1
                    have hle := doneG_le x (grid r ++ grid1 r (s - 1))
                    rw [List.length_append, grid_len] at hle
                    have hle2 : (grid1 r (s - 1)).length = s - 1 := by simp [grid1]
                    rw [hle2] at hle
                    refine AW_seq ?_
                    refine AW_r rfl rfl fun K hK => ?_
                    simp (disch := omega) [wrap64, List.getElem?_eq_getElem, toNat_pred, DtENet.cells, DtENode.cells, DtInst.cells, DtCmd.cells, DtId.cells, decB_true, decB_false]
                    repeat' first | (exfalso; omega) | (refine ⟨fun _ => ?_, fun _ => ?_⟩) | (refine ⟨by omega, ?_⟩) | (intro _)
                    all_goals (refine hK _ ?_; clear hK K)
                    all_goals
                      refine AW_cond rfl (fun hc4 => ?_) (fun hc4 => ?_)
                      · try simp [decB_true, decB_false, eqB_true, eqB_false, cmpI_lt, cmpI_ge] at hc4
                        all_goals
                          refine AW_skip ?_
                          refine AW_id ?_
                          refine AW_seq ?_
                          refine AW_block ?_
                          refine AW_r rfl rfl fun K hK => ?_
                          simp (disch := omega) [wrap64, List.getElem?_eq_getElem, toNat_pred, DtENet.cells, DtENode.cells, DtInst.cells, DtCmd.cells, DtId.cells, decB_true, decB_false]
                          repeat' first | (exfalso; omega) | (refine ⟨fun _ => ?_, fun _ => ?_⟩) | (refine ⟨by omega, ?_⟩) | (intro _)
                          all_goals (refine hK _ ?_; clear hK K)
                          all_goals
                            refine AW_seq ?_
                            refine AW_r rfl rfl fun K hK => ?_
                            simp (disch := omega) [wrap64, List.getElem?_eq_getElem, toNat_pred, DtENet.cells, DtENode.cells, DtInst.cells, DtCmd.cells, DtId.cells, decB_true, decB_false]
                            repeat' first | (exfalso; omega) | (refine ⟨fun _ => ?_, fun _ => ?_⟩) | (refine ⟨by omega, ?_⟩) | (intro _)
                            all_goals (refine hK _ ?_; clear hK K)
                            all_goals
                              refine AW_block ?_
                              refine AW_loopS (fun mM sS => ∃ (a : Nat) (k : Nat), mM = 3 - a ∧ (a ≤ 3 ∧ k ≤ a ∧ (k = a ↔ AllAt x a (idAt r s))) ∧ sS = { env := lkE [(1, .ptr 32 0), (3, (.g (.int .i64 ((n2 : Nat))))), (4, (.g (.int .i64 ((r : Nat))))), (5, (.g (.int .i64 ((s : Nat))))), (6, (.g (.int .i64 ((k : Nat))))), (7, (.g (.int .i64 ((a : Nat)))))], ob := lk [(32, .cells (DtENet.cells x))] }) ?_ ?_
                              · refine ⟨_, LeS.ko [(1, .ptr 32 0), (3, (.g (.int .i64 ((n2 : Nat))))), (4, (.g (.int .i64 ((r : Nat))))), (5, (.g (.int .i64 ((s : Nat))))), (6, (.g (.int .i64 (((0) : Nat))))), (7, (.g (.int .i64 (((0) : Nat)))))] [(32, .cells (DtENet.cells x))] (by simp [KpE, upd_app, lkE_app, lk_cons, DtENet.cells]; try rfl) (by simp [KpO, upd_app, lk_cons, lk_nil, formOb_nn, DtENet.cells]; try rfl) (by rfl) (by simp) (by rfl), _, 0, 0, rfl, ?_, rfl⟩
                                · exact ⟨by omega, by omega, by simp [AllAt]⟩
                              · rintro mM sS ⟨a, k, rfl, ⟨ha, hk, hall⟩, rfl⟩
                                refine AW_seq ?_
                                refine AW_r rfl rfl fun K hK => ?_
                                simp (disch := omega) [wrap64, List.getElem?_eq_getElem, toNat_pred, DtENet.cells, DtENode.cells, DtInst.cells, DtCmd.cells, DtId.cells, decB_true, decB_false]
                                repeat' first | (exfalso; omega) | (refine ⟨fun _ => ?_, fun _ => ?_⟩) | (refine ⟨by omega, ?_⟩) | (intro _)
                                all_goals (refine hK _ ?_; clear hK K)
                                all_goals
                                  refine AW_cond rfl (fun hc5 => ?_) (fun hc5 => ?_)
                                  · try simp [decB_true, decB_false, eqB_true, eqB_false, cmpI_lt, cmpI_ge] at hc5
                                    all_goals
                                      have hg : x.fNodes[a]? = some x.fNodes[a] := List.getElem?_eq_getElem (by omega)
                                      have hm1 := (hl a (by omega)).1
                                      have hc := cAt_iff (x.fNodes[a]).fInsts (idAt r s)
                                      have hst := allAt_step (id := idAt r s) hg
                                      refine AW_skip ?_
                                      refine AW_id ?_
                                      refine AW_seq ?_
                                      refine AW_block ?_
                                      refine AW_r rfl rfl fun K hK => ?_
                                      simp (disch := omega) [wrap64, List.getElem?_eq_getElem, toNat_pred, DtENet.cells, DtENode.cells, DtInst.cells, DtCmd.cells, DtId.cells, decB_true, decB_false]
                                      repeat' first | (exfalso; omega) | (refine CKd_v (am2s_cons am2_sl (am2s_cons (b := .agg (DtId.cells (idAt r s))) (am2_agg rfl) am2s_nil)) (l12Find _ (idAt r s) (by assumption)) rfl ?_; simp (disch := omega) [wrap64, List.getElem?_eq_getElem, toNat_pred, DtENet.cells, DtENode.cells, DtInst.cells, DtCmd.cells, DtId.cells, decB_true, decB_false]) | (refine ⟨fun _ => ?_, fun _ => ?_⟩) | (refine ⟨by omega, ?_⟩) | (intro _)
                                      all_goals (refine hK _ ?_; clear hK K)
                                      all_goals
                                        refine AW_cond rfl (fun hc6 => ?_) (fun hc6 => ?_)
                                        · try simp [decB_true, decB_false, eqB_true, eqB_false, cmpI_lt, cmpI_ge] at hc6
                                          all_goals
                                            refine AW_re rfl rfl fun K hK => ?_
                                            simp (disch := omega) [wrap64, List.getElem?_eq_getElem, toNat_pred, DtENet.cells, DtENode.cells, DtInst.cells, DtCmd.cells, DtId.cells, decB_true, decB_false]
                                            repeat' first | (exfalso; omega) | (refine ⟨fun _ => ?_, fun _ => ?_⟩) | (refine ⟨by omega, ?_⟩) | (intro _)
                                            all_goals (refine hK _ ?_; clear hK K)
                                            all_goals
                                              refine AW_id ?_
                                              refine AW_re rfl rfl fun K hK => ?_
                                              simp (disch := omega) [wrap64, List.getElem?_eq_getElem, toNat_pred, DtENet.cells, DtENode.cells, DtInst.cells, DtCmd.cells, DtId.cells, decB_true, decB_false]
                                              repeat' first | (exfalso; omega) | (refine ⟨fun _ => ?_, fun _ => ?_⟩) | (refine ⟨by omega, ?_⟩) | (intro _)
                                              all_goals (refine hK _ ?_; clear hK K)
                                              all_goals
                                                refine ⟨_, LeS.ko [(1, .ptr 32 0), (3, (.g (.int .i64 ((n2 : Nat))))), (4, (.g (.int .i64 ((r : Nat))))), (5, (.g (.int .i64 ((s : Nat))))), (6, (.g (.int .i64 (((k + 1) : Nat))))), (7, (.g (.int .i64 (((a + 1) : Nat)))))] [(32, .cells (DtENet.cells x))] (by simp [KpE, upd_app, lkE_app, lk_cons, DtENet.cells]; try rfl) (by simp [KpO, upd_app, lk_cons, lk_nil, formOb_nn, DtENet.cells]; try rfl) (by rfl) (by simp) (by rfl), _, ?_, a + 1, k + 1, rfl, ?_, rfl⟩
                                                · omega
                                                · refine ⟨by omega, by omega, ?_⟩
                                                  rw [hst]; grind
                                        · try simp [decB_true, decB_false, eqB_true, eqB_false, cmpI_lt, cmpI_ge] at hc6
                                          all_goals
                                            refine AW_skip ?_
                                            refine AW_id ?_
                                            refine AW_re rfl rfl fun K hK => ?_
                                            simp (disch := omega) [wrap64, List.getElem?_eq_getElem, toNat_pred, DtENet.cells, DtENode.cells, DtInst.cells, DtCmd.cells, DtId.cells, decB_true, decB_false]
                                            repeat' first | (exfalso; omega) | (refine ⟨fun _ => ?_, fun _ => ?_⟩) | (refine ⟨by omega, ?_⟩) | (intro _)
                                            all_goals (refine hK _ ?_; clear hK K)
                                            all_goals
                                              refine ⟨_, LeS.ko [(1, .ptr 32 0), (3, (.g (.int .i64 ((n2 : Nat))))), (4, (.g (.int .i64 ((r : Nat))))), (5, (.g (.int .i64 ((s : Nat))))), (6, (.g (.int .i64 (((k) : Nat))))), (7, (.g (.int .i64 (((a + 1) : Nat)))))] [(32, .cells (DtENet.cells x))] (by simp [KpE, upd_app, lkE_app, lk_cons, DtENet.cells]; try rfl) (by simp [KpO, upd_app, lk_cons, lk_nil, formOb_nn, DtENet.cells]; try rfl) (by rfl) (by simp) (by rfl), _, ?_, a + 1, k, rfl, ?_, rfl⟩
                                              · omega
                                              · refine ⟨by omega, by omega, ?_⟩
                                                rw [hst]; grind
                                  · try simp [decB_true, decB_false, eqB_true, eqB_false, cmpI_lt, cmpI_ge] at hc5
                                    all_goals
                                      have ha3 : a = 3 := by omega
                                      subst ha3
                                      refine AW_exit ?_
                                      refine AW_id ?_
                                      refine AW_r rfl rfl fun K hK => ?_
                                      simp (disch := omega) [wrap64, List.getElem?_eq_getElem, toNat_pred, DtENet.cells, DtENode.cells, DtInst.cells, DtCmd.cells, DtId.cells, decB_true, decB_false]
                                      repeat' first | (exfalso; omega) | (refine ⟨fun _ => ?_, fun _ => ?_⟩) | (refine ⟨by omega, ?_⟩) | (intro _)
                                      all_goals (refine hK _ ?_; clear hK K)
                                      all_goals
                                        refine AW_cond rfl (fun hc7 => ?_) (fun hc7 => ?_)
                                        · try simp [decB_true, decB_false, eqB_true, eqB_false, cmpI_lt, cmpI_ge] at hc7
                                          all_goals
                                            refine AW_re rfl rfl fun K hK => ?_
                                            simp (disch := omega) [wrap64, List.getElem?_eq_getElem, toNat_pred, DtENet.cells, DtENode.cells, DtInst.cells, DtCmd.cells, DtId.cells, decB_true, decB_false]
                                            repeat' first | (exfalso; omega) | (refine ⟨fun _ => ?_, fun _ => ?_⟩) | (refine ⟨by omega, ?_⟩) | (intro _)
                                            all_goals (refine hK _ ?_; clear hK K)
                                            all_goals
                                              refine AW_id ?_
                                              refine AW_re rfl rfl fun K hK => ?_
                                              simp (disch := omega) [wrap64, List.getElem?_eq_getElem, toNat_pred, DtENet.cells, DtENode.cells, DtInst.cells, DtCmd.cells, DtId.cells, decB_true, decB_false]
                                              repeat' first | (exfalso; omega) | (refine ⟨fun _ => ?_, fun _ => ?_⟩) | (refine ⟨by omega, ?_⟩) | (intro _)
                                              all_goals (refine hK _ ?_; clear hK K)
                                              all_goals
                                                refine ⟨_, LeS.ko [(1, .ptr 32 0), (3, (.g (.int .i64 (((n2 + 1) : Nat))))), (4, (.g (.int .i64 ((r : Nat))))), (5, (.g (.int .i64 (((s + 1) : Nat)))))] [(32, .cells (DtENet.cells x))] (by simp [KpE, upd_app, lkE_app, lk_cons, DtENet.cells]; try rfl) (by simp [KpO, upd_app, lk_cons, lk_nil, formOb_nn, DtENet.cells]; try rfl) (by rfl) (by simp) (by rfl), _, ?_, s + 1, n2 + 1, rfl, ?_, rfl⟩
                                                · omega
                                                · refine ⟨by omega, by omega, ?_⟩
                                                  obtain ⟨q, rfl⟩ : ∃ q, s = q + 1 := ⟨s - 1, by omega⟩
                                                  first | (rw [show q + 1 + 1 - 1 = q + 1 by omega, doneG_yes x r q (by grind), hn2, show q + 1 - 1 = q by omega]; done) | (rw [show q + 1 + 1 - 1 = q + 1 by omega, doneG_no x r q (by grind), hn2, show q + 1 - 1 = q by omega]; done)
                                        · try simp [decB_true, decB_false, eqB_true, eqB_false, cmpI_lt, cmpI_ge] at hc7
                                          all_goals
                                            refine AW_skip ?_
                                            refine AW_id ?_
                                            refine AW_re rfl rfl fun K hK => ?_
                                            simp (disch := omega) [wrap64, List.getElem?_eq_getElem, toNat_pred, DtENet.cells, DtENode.cells, DtInst.cells, DtCmd.cells, DtId.cells, decB_true, decB_false]
                                            repeat' first | (exfalso; omega) | (refine ⟨fun _ => ?_, fun _ => ?_⟩) | (refine ⟨by omega, ?_⟩) | (intro _)
                                            all_goals (refine hK _ ?_; clear hK K)
                                            all_goals
                                              refine ⟨_, LeS.ko [(1, .ptr 32 0), (3, (.g (.int .i64 (((n2) : Nat))))), (4, (.g (.int .i64 ((r : Nat))))), (5, (.g (.int .i64 (((s + 1) : Nat)))))] [(32, .cells (DtENet.cells x))] (by simp [KpE, upd_app, lkE_app, lk_cons, DtENet.cells]; try rfl) (by simp [KpO, upd_app, lk_cons, lk_nil, formOb_nn, DtENet.cells]; try rfl) (by rfl) (by simp) (by rfl), _, ?_, s + 1, n2, rfl, ?_, rfl⟩
                                              · omega
                                              · refine ⟨by omega, by omega, ?_⟩
                                                obtain ⟨q, rfl⟩ : ∃ q, s = q + 1 := ⟨s - 1, by omega⟩
                                                first | (rw [show q + 1 + 1 - 1 = q + 1 by omega, doneG_yes x r q (by grind), hn2, show q + 1 - 1 = q by omega]; done) | (rw [show q + 1 + 1 - 1 = q + 1 by omega, doneG_no x r q (by grind), hn2, show q + 1 - 1 = q by omega]; done)
                      · try simp [decB_true, decB_false, eqB_true, eqB_false, cmpI_lt, cmpI_ge] at hc4
                        all_goals
                          refine AW_exit ?_
                          refine AW_id ?_
                          refine AW_re rfl rfl fun K hK => ?_
                          simp (disch := omega) [wrap64, List.getElem?_eq_getElem, toNat_pred, DtENet.cells, DtENode.cells, DtInst.cells, DtCmd.cells, DtId.cells, decB_true, decB_false]
                          repeat' first | (exfalso; omega) | (refine ⟨fun _ => ?_, fun _ => ?_⟩) | (refine ⟨by omega, ?_⟩) | (intro _)
                          all_goals (refine hK _ ?_; clear hK K)
                          all_goals
                            refine ⟨_, LeS.ko [(1, .ptr 32 0), (3, (.g (.int .i64 (((n2) : Nat))))), (4, (.g (.int .i64 (((r + 1) : Nat)))))] [(32, .cells (DtENet.cells x))] (by simp [KpE, upd_app, lkE_app, lk_cons, DtENet.cells]; try rfl) (by simp [KpO, upd_app, lk_cons, lk_nil, formOb_nn, DtENet.cells]; try rfl) (by rfl) (by simp) (by rfl), _, ?_, r + 1, n2, rfl, ?_, rfl⟩
                            · omega
                            · refine ⟨by omega, by rw [hn2, grid_succ, show s - 1 = 6 by omega], fun _ => by assumption⟩
            · try simp [decB_true, decB_false, eqB_true, eqB_false, cmpI_lt, cmpI_ge] at hc3
              all_goals
                refine AW_exit ?_
                refine AW_id ?_
                refine AW_r rfl rfl fun K hK => ?_
                simp (disch := omega) [wrap64, List.getElem?_eq_getElem, toNat_pred, DtENet.cells, DtENode.cells, DtInst.cells, DtCmd.cells, DtId.cells, decB_true, decB_false]
                repeat' first | (exfalso; omega) | (refine ⟨fun _ => ?_, fun _ => ?_⟩) | (refine ⟨by omega, ?_⟩) | (intro _)
                all_goals (refine hK _ ?_; clear hK K)
                all_goals
                  refine AW_ret (end_s ?_)
                  simp (disch := omega) [wrap64, List.getElem?_eq_getElem, toNat_pred, DtENet.cells, DtENode.cells, DtInst.cells, DtCmd.cells, DtId.cells, decB_true, decB_false]
                  all_goals first | (have h0 : r = 0 := Classical.byContradiction fun h0 => absurd (hN (by omega)) (by assumption); subst h0; rw [hn, doneZ, decB_f (by assumption)]; simp [grid, doneG]; done) | (have h3 : r = 3 := (by omega); subst h3; simp [doneZ, decB_t (hN (by omega)), hn]; done)
/-- Committed at the first j nodes, as the program asks. -/
theorem allAt_stat {x : DtENet} {j : Nat} {id : DtId} {m : DtENode} (hg : x.fNodes[j]? = some m) (hI : InstsP m.fInsts) : AllAt x (j + 1) id ↔ AllAt x j id ∧ (instAt m.fInsts id).fStatus = 3 := by
  rw [allAt_step hg, commAt_iff hI]
theorem doneI_succ (x : DtENet) (l : List DtInst) (i : Nat) (h : i < l.length) : doneI x (l.take (i + 1)) = doneI x (l.take i) + (bif decB (AllAt x 3 l[i].fId) then 1 else 0) := by
  unfold doneI
  rw [List.take_succ_eq_append_getElem h, List.filter_append, List.length_append]
  cases hb : decB (AllAt x 3 l[i].fId) <;> simp [List.filter_cons, hb]
theorem doneI_le (x : DtENet) (l : List DtInst) (i : Nat) : doneI x (l.take i) ≤ i := by
  have h1 : doneI x (l.take i) ≤ (l.take i).length := List.length_filter_le _ _
  have h2 := List.length_take_le i l
  omega
theorem implEDone0 (x : DtENet) (hs : DtENet.sz x ≤ 1048576) (hN : ¬ NetP x) : PCall Tryz.prog 7 [.agg (DtENet.cells x)] (.g (.int .i64 ((doneZ x : Nat)))) := by
  have e0 := decB_f hN
  refine gcall_of_walk Tryz.func7 (by rfl) (by rfl) (by rw [Tryz.ntmps7]; exact Nat.le_of_ble_eq_true rfl) rfl (by decide) ?_
  rw [Tryz.ntmps7]
  refine AW_k [(0, _)] ⟨rfl, trivial⟩ ?_
  refine AW_r rfl rfl fun K hK => ?_
  simp (disch := omega) [wrap64, List.getElem?_eq_getElem, toNat_pred, DtENet.cells, DtENode.cells, DtInst.cells, DtCmd.cells, DtId.cells, e0]
  repeat' first | (exfalso; omega) | (refine ⟨fun _ => ?_, fun _ => ?_⟩) | (refine ⟨by omega, ?_⟩) | (intro _)
  all_goals (refine hK _ ?_; clear hK K)
  all_goals
    refine AW_seq ?_
    refine AW_r rfl rfl fun K hK => ?_
    simp (disch := omega) [wrap64, List.getElem?_eq_getElem, toNat_pred, DtENet.cells, DtENode.cells, DtInst.cells, DtCmd.cells, DtId.cells, e0]
    repeat' first | (exfalso; omega) | (refine CKd_v (am2s_cons (am2_agg rfl) am2s_nil) (implENetOk _ (by assumption)) rfl ?_; simp (disch := omega) [wrap64, List.getElem?_eq_getElem, toNat_pred, DtENet.cells, DtENode.cells, DtInst.cells, DtCmd.cells, DtId.cells, e0]) | (refine ⟨fun _ => ?_, fun _ => ?_⟩) | (refine ⟨by omega, ?_⟩) | (intro _)
    all_goals (refine hK _ ?_; clear hK K)
    all_goals
      refine AW_cond rfl (fun hc8 => ?_) (fun hc8 => ?_)
      · try simp [decB_true, decB_false, eqB_true, eqB_false, cmpI_lt, cmpI_ge] at hc8
        all_goals
          refine AW_r rfl rfl fun K hK => ?_
          simp (disch := omega) [wrap64, List.getElem?_eq_getElem, toNat_pred, DtENet.cells, DtENode.cells, DtInst.cells, DtCmd.cells, DtId.cells, e0]
          repeat' first | (exfalso; omega) | (refine ⟨fun _ => ?_, fun _ => ?_⟩) | (refine ⟨by omega, ?_⟩) | (intro _)
          all_goals (refine hK _ ?_; clear hK K)
          all_goals
            refine AW_ret (end_s ?_)
            simp (disch := omega) [wrap64, List.getElem?_eq_getElem, toNat_pred, DtENet.cells, DtENode.cells, DtInst.cells, DtCmd.cells, DtId.cells, e0]
            all_goals simp [doneZ, decB_f hN]
      · try simp [decB_true, decB_false, eqB_true, eqB_false, cmpI_lt, cmpI_ge] at hc8
        all_goals
          refine AW_skip ?_
          refine AW_id ?_
          refine AW_r rfl rfl fun K hK => ?_
          simp (disch := omega) [wrap64, List.getElem?_eq_getElem, toNat_pred, DtENet.cells, DtENode.cells, DtInst.cells, DtCmd.cells, DtId.cells, e0]
          repeat' first | (exfalso; omega) | (refine ⟨fun _ => ?_, fun _ => ?_⟩) | (refine ⟨by omega, ?_⟩) | (intro _)
          all_goals (refine hK _ ?_; clear hK K)
          all_goals
            refine AW_seq ?_
            refine AW_r rfl rfl fun K hK => ?_
            simp (disch := omega) [wrap64, List.getElem?_eq_getElem, toNat_pred, DtENet.cells, DtENode.cells, DtInst.cells, DtCmd.cells, DtId.cells, e0]
            repeat' first | (exfalso; omega) | (refine ⟨fun _ => ?_, fun _ => ?_⟩) | (refine ⟨by omega, ?_⟩) | (intro _)
            all_goals (refine hK _ ?_; clear hK K)
            all_goals
              refine AW_block ?_
              refine AW_loopS (fun mM sS => ∃ (i : Nat) (n : Nat), mM = l.length - i ∧ (i ≤ l.length ∧ n = doneI x (l.take i)) ∧ sS = { env := lkE [(1, .ptr 32 0), (3, (.g (.int .i64 ((n : Nat))))), (16, .sl 16 (l.map DtInst.cells)), (17, (.g (.int .i64 ((l.length : Nat))))), (18, (.g (.int .i64 ((i : Nat)))))], ob := lk [(32, .cells (DtENet.cells x))] }) ?_ ?_
              · refine ⟨_, LeS.ko [(1, .ptr 32 0), (3, (.g (.int .i64 (((0) : Nat))))), (16, .sl 16 (l.map DtInst.cells)), (17, (.g (.int .i64 ((l.length : Nat))))), (18, (.g (.int .i64 (((0) : Nat)))))] [(32, .cells (DtENet.cells x))] (by simp [KpE, upd_app, lkE_app, lk_cons, DtENet.cells, DtInst.cells]; try rfl) (by simp [KpO, upd_app, lk_cons, lk_nil, formOb_nn, DtENet.cells, DtInst.cells]; try rfl) (by rfl) (by simp) (by rfl), _, 0, 0, rfl, ?_, rfl⟩
                · simp [doneI]
              · rintro mM sS ⟨i, n, rfl, ⟨hi, hn⟩, rfl⟩
                have hle := doneI_le x l i
                refine AW_r rfl rfl fun K hK => ?_
                simp (disch := omega) [wrap64, List.getElem?_eq_getElem, toNat_pred, DtENet.cells, DtENode.cells, DtInst.cells, DtCmd.cells, DtId.cells, e0]
                repeat' first | (exfalso; omega) | (refine ⟨fun _ => ?_, fun _ => ?_⟩) | (refine ⟨by omega, ?_⟩) | (intro _)
                all_goals (refine hK _ ?_; clear hK K)
                all_goals
                  refine AW_seq ?_
                  refine AW_cond rfl (fun hc9 => ?_) (fun hc9 => ?_)
                  · try simp [decB_true, decB_false, eqB_true, eqB_false, cmpI_lt, cmpI_ge] at hc9
                    all_goals
                      have hg : l[i]? = some l[i] := List.getElem?_eq_getElem (by omega)
                      have hsu := doneI_succ x l i (by omega)
                      refine AW_skip ?_
                      refine AW_id ?_
                      refine AW_seq ?_
                      refine AW_block ?_
                      refine AW_r rfl rfl fun K hK => ?_
                      simp (disch := omega) [wrap64, List.getElem?_eq_getElem, toNat_pred, DtENet.cells, DtENode.cells, DtInst.cells, DtCmd.cells, DtId.cells, e0]
                      repeat' first | (exfalso; omega) | (refine ⟨fun _ => ?_, fun _ => ?_⟩) | (refine ⟨by omega, ?_⟩) | (intro _)
                      all_goals (refine hK _ ?_; clear hK K)
                      all_goals
                        refine AW_r rfl rfl fun K hK => ?_
                        simp (disch := omega) [wrap64, List.getElem?_eq_getElem, toNat_pred, DtENet.cells, DtENode.cells, DtInst.cells, DtCmd.cells, DtId.cells, e0]
                        repeat' first | (exfalso; omega) | (refine ⟨fun _ => ?_, fun _ => ?_⟩) | (refine ⟨by omega, ?_⟩) | (intro _)
                        all_goals (refine hK _ ?_; clear hK K)
                        all_goals
                          refine AW_seq ?_
                          refine AW_r rfl rfl fun K hK => ?_
                          simp (disch := omega) [wrap64, List.getElem?_eq_getElem, toNat_pred, DtENet.cells, DtENode.cells, DtInst.cells, DtCmd.cells, DtId.cells, e0]
                          repeat' first | (exfalso; omega) | (refine ⟨fun _ => ?_, fun _ => ?_⟩) | (refine ⟨by omega, ?_⟩) | (intro _)
                          all_goals (refine hK _ ?_; clear hK K)
                          all_goals
                            refine AW_block ?_
                            refine AW_loopS (fun mM sS => ∃ (j : Nat) (al : Bool), mM = x.fNodes.length - j ∧ (j ≤ x.fNodes.length ∧ al = decB (AllAt x j l[i].fId)) ∧ sS = { env := lkE [(1, .ptr 32 0), (3, (.g (.int .i64 ((n : Nat))))), (5, .ptr 96 0), (6, (.g (.bool (al)))), (16, .sl 16 (l.map DtInst.cells)), (17, (.g (.int .i64 ((l.length : Nat))))), (18, (.g (.int .i64 ((i : Nat))))), (23, .sl 4 (x.fNodes.map DtENode.cells)), (24, (.g (.int .i64 ((x.fNodes.length : Nat))))), (25, (.g (.int .i64 ((j : Nat)))))], ob := lk [(32, .cells (DtENet.cells x)), (96, .cells (DtInst.cells l[i]))] }) ?_ ?_
                            · refine ⟨_, LeS.ko [(1, .ptr 32 0), (3, (.g (.int .i64 ((n : Nat))))), (5, .ptr 96 0), (6, (.g (.bool ((true))))), (16, .sl 16 (l.map DtInst.cells)), (17, (.g (.int .i64 ((l.length : Nat))))), (18, (.g (.int .i64 ((i : Nat))))), (23, .sl 4 (x.fNodes.map DtENode.cells)), (24, (.g (.int .i64 ((x.fNodes.length : Nat))))), (25, (.g (.int .i64 (((0) : Nat)))))] [(32, .cells (DtENet.cells x)), (96, .cells (DtInst.cells l[i]))] (by simp [KpE, upd_app, lkE_app, lk_cons, DtENet.cells, DtInst.cells]; try (first | rfl | (simp [hal2]; done) | (simp [hal2]; rfl))) (by simp [KpO, upd_app, lk_cons, lk_nil, formOb_nn, DtENet.cells, DtInst.cells]; try rfl) (by rfl) (by simp) (by rfl), _, 0, true, rfl, ?_, rfl⟩
                              · exact ⟨by omega, by rw [decB_t]; simp [AllAt]⟩
                            · rintro mM sS ⟨j, al, rfl, ⟨hj, hal⟩, rfl⟩
                              refine AW_r rfl rfl fun K hK => ?_
                              simp (disch := omega) [wrap64, List.getElem?_eq_getElem, toNat_pred, DtENet.cells, DtENode.cells, DtInst.cells, DtCmd.cells, DtId.cells, e0]
                              repeat' first | (exfalso; omega) | (refine ⟨fun _ => ?_, fun _ => ?_⟩) | (refine ⟨by omega, ?_⟩) | (intro _)
                              all_goals (refine hK _ ?_; clear hK K)
                              all_goals
                                refine AW_seq ?_
                                refine AW_cond rfl (fun hc10 => ?_) (fun hc10 => ?_)
                                · try simp [decB_true, decB_false, eqB_true, eqB_false, cmpI_lt, cmpI_ge] at hc10
                                  all_goals
                                    have hg2 : x.fNodes[j]? = some x.fNodes[j] := List.getElem?_eq_getElem (by omega)
                                    have hm1 := (hl j (by omega)).1
                                    have hm2 := (hl j (by omega)).2
                                    have hst := allAt_stat (id := l[i].fId) hg2 (hI j _ hg2)
                                    rcases Bool.eq_false_or_eq_true al with hal2 | hal2
                                    all_goals
                                      refine AW_skip ?_
                                      refine AW_id ?_
                                      refine AW_seq ?_
                                      refine AW_block ?_
                                      refine AW_r rfl rfl fun K hK => ?_
                                      simp (disch := omega) [wrap64, List.getElem?_eq_getElem, toNat_pred, DtENet.cells, DtENode.cells, DtInst.cells, DtCmd.cells, DtId.cells, e0, hal2]
                                      repeat' first | (exfalso; omega) | (refine ⟨fun _ => ?_, fun _ => ?_⟩) | (refine ⟨by omega, ?_⟩) | (intro _)
                                      all_goals (refine hK _ ?_; clear hK K)
                                      all_goals
                                        refine AW_re rfl rfl fun K hK => ?_
                                        simp (disch := omega) [wrap64, List.getElem?_eq_getElem, toNat_pred, DtENet.cells, DtENode.cells, DtInst.cells, DtCmd.cells, DtId.cells, e0, hal2]
                                        repeat' first | (exfalso; omega) | (refine CKd_v (am2s_cons am2_sl (am2s_cons (am2_agg rfl) am2s_nil)) (implInstAt _ _ (by assumption) (by assumption)) rfl ?_; simp (disch := omega) [wrap64, List.getElem?_eq_getElem, toNat_pred, DtENet.cells, DtENode.cells, DtInst.cells, DtCmd.cells, DtId.cells, e0, hal2]) | (refine ⟨fun _ => ?_, fun _ => ?_⟩) | (refine ⟨by omega, ?_⟩) | (intro _)
                                        all_goals (refine hK _ ?_; clear hK K)
                                        all_goals
                                          refine AW_id ?_
                                          refine AW_re rfl rfl fun K hK => ?_
                                          simp (disch := omega) [wrap64, List.getElem?_eq_getElem, toNat_pred, DtENet.cells, DtENode.cells, DtInst.cells, DtCmd.cells, DtId.cells, e0, hal2]
                                          repeat' first | (exfalso; omega) | (refine ⟨fun _ => ?_, fun _ => ?_⟩) | (refine ⟨by omega, ?_⟩) | (intro _)
                                          all_goals (refine hK _ ?_; clear hK K)
                                          all_goals
                                            refine ⟨_, LeS.ko [(1, .ptr 32 0), (3, (.g (.int .i64 ((n : Nat))))), (5, .ptr 96 0), (6, (.g (.bool (((al && decide ((instAt (x.fNodes[j]).fInsts l[i].fId).fStatus = 3))))))), (16, .sl 16 (l.map DtInst.cells)), (17, (.g (.int .i64 ((l.length : Nat))))), (18, (.g (.int .i64 ((i : Nat))))), (23, .sl 4 (x.fNodes.map DtENode.cells)), (24, (.g (.int .i64 ((x.fNodes.length : Nat))))), (25, (.g (.int .i64 (((j + 1) : Nat)))))] [(32, .cells (DtENet.cells x)), (96, .cells (DtInst.cells l[i]))] (by simp [KpE, upd_app, lkE_app, lk_cons, DtENet.cells, DtInst.cells]; try (first | rfl | (simp [hal2]; done) | (simp [hal2]; rfl))) (by simp [KpO, upd_app, lk_cons, lk_nil, formOb_nn, DtENet.cells, DtInst.cells]; try rfl) (by rfl) (by simp) (by rfl), _, ?_, j + 1, (al && decide ((instAt (x.fNodes[j]).fInsts l[i].fId).fStatus = 3)), rfl, ?_, rfl⟩
                                            · omega
                                            · refine ⟨by omega, ?_⟩
                                              rw [Bool.eq_iff_iff, decB_true, hst, hal]; simp [decB_true]
                                · try simp [decB_true, decB_false, eqB_true, eqB_false, cmpI_lt, cmpI_ge] at hc10
                                  all_goals
                                    have hj3 : j = x.fNodes.length := by omega
                                    subst hj3
                                    rw [hx3] at hal
                                    refine AW_exit ?_
                                    refine AW_id ?_
                                    refine AW_r rfl rfl fun K hK => ?_
                                    simp (disch := omega) [wrap64, List.getElem?_eq_getElem, toNat_pred, DtENet.cells, DtENode.cells, DtInst.cells, DtCmd.cells, DtId.cells, e0]
                                    repeat' first | (exfalso; omega) | (refine ⟨fun _ => ?_, fun _ => ?_⟩) | (refine ⟨by omega, ?_⟩) | (intro _)
                                    all_goals (refine hK _ ?_; clear hK K)
                                    all_goals
                                      refine AW_cond rfl (fun hc11 => ?_) (fun hc11 => ?_)
                                      · try simp [decB_true, decB_false, eqB_true, eqB_false, cmpI_lt, cmpI_ge] at hc11
                                        all_goals
                                          refine AW_re rfl rfl fun K hK => ?_
                                          simp (disch := omega) [wrap64, List.getElem?_eq_getElem, toNat_pred, DtENet.cells, DtENode.cells, DtInst.cells, DtCmd.cells, DtId.cells, e0]
                                          repeat' first | (exfalso; omega) | (refine ⟨fun _ => ?_, fun _ => ?_⟩) | (refine ⟨by omega, ?_⟩) | (intro _)
                                          all_goals (refine hK _ ?_; clear hK K)
                                          all_goals
                                            refine AW_id ?_
                                            refine AW_re rfl rfl fun K hK => ?_
                                            simp (disch := omega) [wrap64, List.getElem?_eq_getElem, toNat_pred, DtENet.cells, DtENode.cells, DtInst.cells, DtCmd.cells, DtId.cells, e0]
                                            repeat' first | (exfalso; omega) | (refine ⟨fun _ => ?_, fun _ => ?_⟩) | (refine ⟨by omega, ?_⟩) | (intro _)
                                            all_goals (refine hK _ ?_; clear hK K)
                                            all_goals
                                              refine ⟨_, LeS.ko [(1, .ptr 32 0), (3, (.g (.int .i64 (((n + 1) : Nat))))), (16, .sl 16 (l.map DtInst.cells)), (17, (.g (.int .i64 ((l.length : Nat))))), (18, (.g (.int .i64 (((i + 1) : Nat)))))] [(32, .cells (DtENet.cells x))] (by simp [KpE, upd_app, lkE_app, lk_cons, DtENet.cells, DtInst.cells]; try rfl) (by simp [KpO, upd_app, lk_cons, lk_nil, formOb_nn, DtENet.cells, DtInst.cells]; try rfl) (by rfl) (by simp) (by rfl), _, ?_, i + 1, n + 1, rfl, ?_, rfl⟩
                                              · omega
                                              · refine ⟨by omega, ?_⟩
                                                rw [hsu, hn]
                                                first | (have hA : decB (AllAt x 3 l[i].fId) = true := by (first | (rw [← hal, ← hal2]; done) | grind)
                                                         rw [hA]; rfl) | (have hA : decB (AllAt x 3 l[i].fId) = false := by (first | (rw [← hal, ← hal2]; done) | grind)
                                                                          rw [hA]; rfl)
                                      · try simp [decB_true, decB_false, eqB_true, eqB_false, cmpI_lt, cmpI_ge] at hc11
                                        all_goals
                                          refine AW_skip ?_
                                          refine AW_id ?_
                                          refine AW_re rfl rfl fun K hK => ?_
                                          simp (disch := omega) [wrap64, List.getElem?_eq_getElem, toNat_pred, DtENet.cells, DtENode.cells, DtInst.cells, DtCmd.cells, DtId.cells, e0]
                                          repeat' first | (exfalso; omega) | (refine ⟨fun _ => ?_, fun _ => ?_⟩) | (refine ⟨by omega, ?_⟩) | (intro _)
                                          all_goals (refine hK _ ?_; clear hK K)
                                          all_goals
                                            refine ⟨_, LeS.ko [(1, .ptr 32 0), (3, (.g (.int .i64 (((n) : Nat))))), (16, .sl 16 (l.map DtInst.cells)), (17, (.g (.int .i64 ((l.length : Nat))))), (18, (.g (.int .i64 (((i + 1) : Nat)))))] [(32, .cells (DtENet.cells x))] (by simp [KpE, upd_app, lkE_app, lk_cons, DtENet.cells, DtInst.cells]; try rfl) (by simp [KpO, upd_app, lk_cons, lk_nil, formOb_nn, DtENet.cells, DtInst.cells]; try rfl) (by rfl) (by simp) (by rfl), _, ?_, i + 1, n, rfl, ?_, rfl⟩
                                            · omega
                                            · refine ⟨by omega, ?_⟩
                                              rw [hsu, hn]
                                              first | (have hA : decB (AllAt x 3 l[i].fId) = true := by (first | (rw [← hal, ← hal2]; done) | grind)
                                                       rw [hA]; rfl) | (have hA : decB (AllAt x 3 l[i].fId) = false := by (first | (rw [← hal, ← hal2]; done) | grind)
                                                                        rw [hA]; rfl)
                  · try simp [decB_true, decB_false, eqB_true, eqB_false, cmpI_lt, cmpI_ge] at hc9
                    all_goals
                      refine AW_exit ?_
                      refine AW_id ?_
                      refine AW_r rfl rfl fun K hK => ?_
                      simp (disch := omega) [wrap64, List.getElem?_eq_getElem, toNat_pred, DtENet.cells, DtENode.cells, DtInst.cells, DtCmd.cells, DtId.cells, e0]
                      repeat' first | (exfalso; omega) | (refine ⟨fun _ => ?_, fun _ => ?_⟩) | (refine ⟨by omega, ?_⟩) | (intro _)
                      all_goals (refine hK _ ?_; clear hK K)
                      all_goals
                        refine AW_ret (end_s ?_)
                        simp (disch := omega) [wrap64, List.getElem?_eq_getElem, toNat_pred, DtENet.cells, DtENode.cells, DtInst.cells, DtCmd.cells, DtId.cells, e0]
                        all_goals simp [doneZ, decB_f hN]
theorem implEDone (x : DtENet) (hs : DtENet.sz x ≤ 1048576) : PCall Tryz.prog 7 [.agg (DtENet.cells x)] (.g (.int .i64 ((doneZ x : Nat)))) := by
  have hl := netSm x hs
  by_cases hN : NetP x
  · have hx3 : x.fNodes.length = 3 := hN.1
    have hI : ∀ (a : Nat) n, x.fNodes[a]? = some n → InstsP n.fInsts := fun a n h => (hN.2.2.1 a n h).1.2.2.2.2.1
    have h0 : x.fNodes[0]? = some x.fNodes[0] := List.getElem?_eq_getElem (by omega)
    have hd := done_eq x x.fNodes[0] hN h0
    have hl0 := hl 0 (by omega)
    obtain ⟨l, hll⟩ : ∃ l, (x.fNodes[0]).fInsts = l := ⟨_, rfl⟩
    rw [hll] at hd hl0
    have hl1 := hl0.1
    have e0 := decB_t hN
    refine gcall_of_walk Tryz.func7 (by rfl) (by rfl) (by rw [Tryz.ntmps7]; exact Nat.le_of_ble_eq_true rfl) rfl (by decide) ?_
    rw [Tryz.ntmps7]
    refine AW_k [(0, _)] ⟨rfl, trivial⟩ ?_
    refine AW_r rfl rfl fun K hK => ?_
    simp (disch := omega) [wrap64, List.getElem?_eq_getElem, toNat_pred, DtENet.cells, DtENode.cells, DtInst.cells, DtCmd.cells, DtId.cells, e0, hll]
    repeat' first | (exfalso; omega) | (refine ⟨fun _ => ?_, fun _ => ?_⟩) | (refine ⟨by omega, ?_⟩) | (intro _)
    all_goals (refine hK _ ?_; clear hK K)
    all_goals
      refine AW_seq ?_
      refine AW_r rfl rfl fun K hK => ?_
      simp (disch := omega) [wrap64, List.getElem?_eq_getElem, toNat_pred, DtENet.cells, DtENode.cells, DtInst.cells, DtCmd.cells, DtId.cells, e0, hll]
      repeat' first | (exfalso; omega) | (refine CKd_v (am2s_cons (am2_agg rfl) am2s_nil) (implENetOk _ (by assumption)) rfl ?_; simp (disch := omega) [wrap64, List.getElem?_eq_getElem, toNat_pred, DtENet.cells, DtENode.cells, DtInst.cells, DtCmd.cells, DtId.cells, e0, hll]) | (refine ⟨fun _ => ?_, fun _ => ?_⟩) | (refine ⟨by omega, ?_⟩) | (intro _)
      all_goals (refine hK _ ?_; clear hK K)
      all_goals
        refine AW_cond rfl (fun hc12 => ?_) (fun hc12 => ?_)
        · try simp [decB_true, decB_false, eqB_true, eqB_false, cmpI_lt, cmpI_ge] at hc12
          all_goals
            refine AW_r rfl rfl fun K hK => ?_
            simp (disch := omega) [wrap64, List.getElem?_eq_getElem, toNat_pred, DtENet.cells, DtENode.cells, DtInst.cells, DtCmd.cells, DtId.cells, e0, hll]
            repeat' first | (exfalso; omega) | (refine ⟨fun _ => ?_, fun _ => ?_⟩) | (refine ⟨by omega, ?_⟩) | (intro _)
            all_goals (refine hK _ ?_; clear hK K)
            all_goals
              refine AW_ret (end_s ?_)
              simp (disch := omega) [wrap64, List.getElem?_eq_getElem, toNat_pred, DtENet.cells, DtENode.cells, DtInst.cells, DtCmd.cells, DtId.cells, e0, hll]
              all_goals (have hi3 : i = l.length := (by omega); subst hi3; rw [List.take_length] at hn; simp [doneZ, e0, hn, hd])
        · try simp [decB_true, decB_false, eqB_true, eqB_false, cmpI_lt, cmpI_ge] at hc12
          all_goals
            refine AW_skip ?_
            refine AW_id ?_
            refine AW_r rfl rfl fun K hK => ?_
            simp (disch := omega) [wrap64, List.getElem?_eq_getElem, toNat_pred, DtENet.cells, DtENode.cells, DtInst.cells, DtCmd.cells, DtId.cells, e0, hll]
            repeat' first | (exfalso; omega) | (refine ⟨fun _ => ?_, fun _ => ?_⟩) | (refine ⟨by omega, ?_⟩) | (intro _)
            all_goals (refine hK _ ?_; clear hK K)
            all_goals
              refine AW_seq ?_
              refine AW_r rfl rfl fun K hK => ?_
              simp (disch := omega) [wrap64, List.getElem?_eq_getElem, toNat_pred, DtENet.cells, DtENode.cells, DtInst.cells, DtCmd.cells, DtId.cells, e0, hll]
              repeat' first | (exfalso; omega) | (refine ⟨fun _ => ?_, fun _ => ?_⟩) | (refine ⟨by omega, ?_⟩) | (intro _)
              all_goals (refine hK _ ?_; clear hK K)
              all_goals
                refine AW_block ?_
                refine AW_loopS (fun mM sS => ∃ (i : Nat) (n : Nat), mM = l.length - i ∧ (i ≤ l.length ∧ n = doneI x (l.take i)) ∧ sS = { env := lkE [(1, .ptr 32 0), (3, (.g (.int .i64 ((n : Nat))))), (16, .sl 16 (l.map DtInst.cells)), (17, (.g (.int .i64 ((l.length : Nat))))), (18, (.g (.int .i64 ((i : Nat)))))], ob := lk [(32, .cells (DtENet.cells x))] }) ?_ ?_
                · refine ⟨_, LeS.ko [(1, .ptr 32 0), (3, (.g (.int .i64 (((0) : Nat))))), (16, .sl 16 (l.map DtInst.cells)), (17, (.g (.int .i64 ((l.length : Nat))))), (18, (.g (.int .i64 (((0) : Nat)))))] [(32, .cells (DtENet.cells x))] (by simp [KpE, upd_app, lkE_app, lk_cons, DtENet.cells, DtInst.cells]; try rfl) (by simp [KpO, upd_app, lk_cons, lk_nil, formOb_nn, DtENet.cells, DtInst.cells]; try rfl) (by rfl) (by simp) (by rfl), _, 0, 0, rfl, ?_, rfl⟩
                  · simp [doneI]
                · rintro mM sS ⟨i, n, rfl, ⟨hi, hn⟩, rfl⟩
                  have hle := doneI_le x l i
                  refine AW_r rfl rfl fun K hK => ?_
                  simp (disch := omega) [wrap64, List.getElem?_eq_getElem, toNat_pred, DtENet.cells, DtENode.cells, DtInst.cells, DtCmd.cells, DtId.cells, e0, hll]
                  repeat' first | (exfalso; omega) | (refine ⟨fun _ => ?_, fun _ => ?_⟩) | (refine ⟨by omega, ?_⟩) | (intro _)
                  all_goals (refine hK _ ?_; clear hK K)
                  all_goals
                    refine AW_seq ?_
                    refine AW_cond rfl (fun hc13 => ?_) (fun hc13 => ?_)
                    · try simp [decB_true, decB_false, eqB_true, eqB_false, cmpI_lt, cmpI_ge] at hc13
                      all_goals
                        have hg : l[i]? = some l[i] := List.getElem?_eq_getElem (by omega)
                        have hsu := doneI_succ x l i (by omega)
                        refine AW_skip ?_
                        refine AW_id ?_
                        refine AW_seq ?_
                        refine AW_block ?_
                        refine AW_r rfl rfl fun K hK => ?_
                        simp (disch := omega) [wrap64, List.getElem?_eq_getElem, toNat_pred, DtENet.cells, DtENode.cells, DtInst.cells, DtCmd.cells, DtId.cells, e0, hll]
                        repeat' first | (exfalso; omega) | (refine ⟨fun _ => ?_, fun _ => ?_⟩) | (refine ⟨by omega, ?_⟩) | (intro _)
                        all_goals (refine hK _ ?_; clear hK K)
                        all_goals
                          refine AW_r rfl rfl fun K hK => ?_
                          simp (disch := omega) [wrap64, List.getElem?_eq_getElem, toNat_pred, DtENet.cells, DtENode.cells, DtInst.cells, DtCmd.cells, DtId.cells, e0, hll]
                          repeat' first | (exfalso; omega) | (refine ⟨fun _ => ?_, fun _ => ?_⟩) | (refine ⟨by omega, ?_⟩) | (intro _)
                          all_goals (refine hK _ ?_; clear hK K)
                          all_goals
                            refine AW_seq ?_
                            refine AW_r rfl rfl fun K hK => ?_
                            simp (disch := omega) [wrap64, List.getElem?_eq_getElem, toNat_pred, DtENet.cells, DtENode.cells, DtInst.cells, DtCmd.cells, DtId.cells, e0, hll]
                            repeat' first | (exfalso; omega) | (refine ⟨fun _ => ?_, fun _ => ?_⟩) | (refine ⟨by omega, ?_⟩) | (intro _)
                            all_goals (refine hK _ ?_; clear hK K)
                            all_goals
                              refine AW_block ?_
                              refine AW_loopS (fun mM sS => ∃ (j : Nat) (al : Bool), mM = x.fNodes.length - j ∧ (j ≤ x.fNodes.length ∧ al = decB (AllAt x j l[i].fId)) ∧ sS = { env := lkE [(1, .ptr 32 0), (3, (.g (.int .i64 ((n : Nat))))), (5, .ptr 96 0), (6, (.g (.bool (al)))), (16, .sl 16 (l.map DtInst.cells)), (17, (.g (.int .i64 ((l.length : Nat))))), (18, (.g (.int .i64 ((i : Nat))))), (23, .sl 4 (x.fNodes.map DtENode.cells)), (24, (.g (.int .i64 ((x.fNodes.length : Nat))))), (25, (.g (.int .i64 ((j : Nat)))))], ob := lk [(32, .cells (DtENet.cells x)), (96, .cells (DtInst.cells l[i]))] }) ?_ ?_
                              · refine ⟨_, LeS.ko [(1, .ptr 32 0), (3, (.g (.int .i64 ((n : Nat))))), (5, .ptr 96 0), (6, (.g (.bool ((true))))), (16, .sl 16 (l.map DtInst.cells)), (17, (.g (.int .i64 ((l.length : Nat))))), (18, (.g (.int .i64 ((i : Nat))))), (23, .sl 4 (x.fNodes.map DtENode.cells)), (24, (.g (.int .i64 ((x.fNodes.length : Nat))))), (25, (.g (.int .i64 (((0) : Nat)))))] [(32, .cells (DtENet.cells x)), (96, .cells (DtInst.cells l[i]))] (by simp [KpE, upd_app, lkE_app, lk_cons, DtENet.cells, DtInst.cells]; try (first | rfl | (simp [hal2]; done) | (simp [hal2]; rfl))) (by simp [KpO, upd_app, lk_cons, lk_nil, formOb_nn, DtENet.cells, DtInst.cells]; try rfl) (by rfl) (by simp) (by rfl), _, 0, true, rfl, ?_, rfl⟩
                                · exact ⟨by omega, by rw [decB_t]; simp [AllAt]⟩
                              · rintro mM sS ⟨j, al, rfl, ⟨hj, hal⟩, rfl⟩
                                refine AW_r rfl rfl fun K hK => ?_
                                simp (disch := omega) [wrap64, List.getElem?_eq_getElem, toNat_pred, DtENet.cells, DtENode.cells, DtInst.cells, DtCmd.cells, DtId.cells, e0, hll]
                                repeat' first | (exfalso; omega) | (refine ⟨fun _ => ?_, fun _ => ?_⟩) | (refine ⟨by omega, ?_⟩) | (intro _)
                                all_goals (refine hK _ ?_; clear hK K)
                                all_goals
                                  refine AW_seq ?_
                                  refine AW_cond rfl (fun hc14 => ?_) (fun hc14 => ?_)
                                  · try simp [decB_true, decB_false, eqB_true, eqB_false, cmpI_lt, cmpI_ge] at hc14
                                    all_goals
                                      have hg2 : x.fNodes[j]? = some x.fNodes[j] := List.getElem?_eq_getElem (by omega)
                                      have hm1 := (hl j (by omega)).1
                                      have hm2 := (hl j (by omega)).2
                                      have hst := allAt_stat (id := l[i].fId) hg2 (hI j _ hg2)
                                      rcases Bool.eq_false_or_eq_true al with hal2 | hal2
                                      all_goals
                                        refine AW_skip ?_
                                        refine AW_id ?_
                                        refine AW_seq ?_
                                        refine AW_block ?_
                                        refine AW_r rfl rfl fun K hK => ?_
                                        simp (disch := omega) [wrap64, List.getElem?_eq_getElem, toNat_pred, DtENet.cells, DtENode.cells, DtInst.cells, DtCmd.cells, DtId.cells, e0, hll, hal2]
                                        repeat' first | (exfalso; omega) | (refine ⟨fun _ => ?_, fun _ => ?_⟩) | (refine ⟨by omega, ?_⟩) | (intro _)
                                        all_goals (refine hK _ ?_; clear hK K)
                                        all_goals
                                          refine AW_re rfl rfl fun K hK => ?_
                                          simp (disch := omega) [wrap64, List.getElem?_eq_getElem, toNat_pred, DtENet.cells, DtENode.cells, DtInst.cells, DtCmd.cells, DtId.cells, e0, hll, hal2]
                                          repeat' first | (exfalso; omega) | (refine CKd_v (am2s_cons am2_sl (am2s_cons (am2_agg rfl) am2s_nil)) (implInstAt _ _ (by assumption) (by assumption)) rfl ?_; simp (disch := omega) [wrap64, List.getElem?_eq_getElem, toNat_pred, DtENet.cells, DtENode.cells, DtInst.cells, DtCmd.cells, DtId.cells, e0, hll, hal2]) | (refine ⟨fun _ => ?_, fun _ => ?_⟩) | (refine ⟨by omega, ?_⟩) | (intro _)
                                          all_goals (refine hK _ ?_; clear hK K)
                                          all_goals
                                            refine AW_id ?_
                                            refine AW_re rfl rfl fun K hK => ?_
                                            simp (disch := omega) [wrap64, List.getElem?_eq_getElem, toNat_pred, DtENet.cells, DtENode.cells, DtInst.cells, DtCmd.cells, DtId.cells, e0, hll, hal2]
                                            repeat' first | (exfalso; omega) | (refine ⟨fun _ => ?_, fun _ => ?_⟩) | (refine ⟨by omega, ?_⟩) | (intro _)
                                            all_goals (refine hK _ ?_; clear hK K)
                                            all_goals
                                              refine ⟨_, LeS.ko [(1, .ptr 32 0), (3, (.g (.int .i64 ((n : Nat))))), (5, .ptr 96 0), (6, (.g (.bool (((al && decide ((instAt (x.fNodes[j]).fInsts l[i].fId).fStatus = 3))))))), (16, .sl 16 (l.map DtInst.cells)), (17, (.g (.int .i64 ((l.length : Nat))))), (18, (.g (.int .i64 ((i : Nat))))), (23, .sl 4 (x.fNodes.map DtENode.cells)), (24, (.g (.int .i64 ((x.fNodes.length : Nat))))), (25, (.g (.int .i64 (((j + 1) : Nat)))))] [(32, .cells (DtENet.cells x)), (96, .cells (DtInst.cells l[i]))] (by simp [KpE, upd_app, lkE_app, lk_cons, DtENet.cells, DtInst.cells]; try (first | rfl | (simp [hal2]; done) | (simp [hal2]; rfl))) (by simp [KpO, upd_app, lk_cons, lk_nil, formOb_nn, DtENet.cells, DtInst.cells]; try rfl) (by rfl) (by simp) (by rfl), _, ?_, j + 1, (al && decide ((instAt (x.fNodes[j]).fInsts l[i].fId).fStatus = 3)), rfl, ?_, rfl⟩
                                              · omega
                                              · refine ⟨by omega, ?_⟩
                                                rw [Bool.eq_iff_iff, decB_true, hst, hal]; simp [decB_true]
                                  · try simp [decB_true, decB_false, eqB_true, eqB_false, cmpI_lt, cmpI_ge] at hc14
                                    all_goals
                                      have hj3 : j = x.fNodes.length := by omega
                                      subst hj3
                                      rw [hx3] at hal
                                      refine AW_exit ?_
                                      refine AW_id ?_
                                      refine AW_r rfl rfl fun K hK => ?_
                                      simp (disch := omega) [wrap64, List.getElem?_eq_getElem, toNat_pred, DtENet.cells, DtENode.cells, DtInst.cells, DtCmd.cells, DtId.cells, e0, hll]
                                      repeat' first | (exfalso; omega) | (refine ⟨fun _ => ?_, fun _ => ?_⟩) | (refine ⟨by omega, ?_⟩) | (intro _)
                                      all_goals (refine hK _ ?_; clear hK K)
                                      all_goals
                                        refine AW_cond rfl (fun hc15 => ?_) (fun hc15 => ?_)
                                        · try simp [decB_true, decB_false, eqB_true, eqB_false, cmpI_lt, cmpI_ge] at hc15
                                          all_goals
                                            refine AW_re rfl rfl fun K hK => ?_
                                            simp (disch := omega) [wrap64, List.getElem?_eq_getElem, toNat_pred, DtENet.cells, DtENode.cells, DtInst.cells, DtCmd.cells, DtId.cells, e0, hll]
                                            repeat' first | (exfalso; omega) | (refine ⟨fun _ => ?_, fun _ => ?_⟩) | (refine ⟨by omega, ?_⟩) | (intro _)
                                            all_goals (refine hK _ ?_; clear hK K)
                                            all_goals
                                              refine AW_id ?_
                                              refine AW_re rfl rfl fun K hK => ?_
                                              simp (disch := omega) [wrap64, List.getElem?_eq_getElem, toNat_pred, DtENet.cells, DtENode.cells, DtInst.cells, DtCmd.cells, DtId.cells, e0, hll]
                                              repeat' first | (exfalso; omega) | (refine ⟨fun _ => ?_, fun _ => ?_⟩) | (refine ⟨by omega, ?_⟩) | (intro _)
                                              all_goals (refine hK _ ?_; clear hK K)
                                              all_goals
                                                refine ⟨_, LeS.ko [(1, .ptr 32 0), (3, (.g (.int .i64 (((n + 1) : Nat))))), (16, .sl 16 (l.map DtInst.cells)), (17, (.g (.int .i64 ((l.length : Nat))))), (18, (.g (.int .i64 (((i + 1) : Nat)))))] [(32, .cells (DtENet.cells x))] (by simp [KpE, upd_app, lkE_app, lk_cons, DtENet.cells, DtInst.cells]; try rfl) (by simp [KpO, upd_app, lk_cons, lk_nil, formOb_nn, DtENet.cells, DtInst.cells]; try rfl) (by rfl) (by simp) (by rfl), _, ?_, i + 1, n + 1, rfl, ?_, rfl⟩
                                                · omega
                                                · refine ⟨by omega, ?_⟩
                                                  rw [hsu, hn]
                                                  first | (have hA : decB (AllAt x 3 l[i].fId) = true := by (first | (rw [← hal, ← hal2]; done) | grind)
                                                           rw [hA]; rfl) | (have hA : decB (AllAt x 3 l[i].fId) = false := by (first | (rw [← hal, ← hal2]; done) | grind)
                                                                            rw [hA]; rfl)
                                        · try simp [decB_true, decB_false, eqB_true, eqB_false, cmpI_lt, cmpI_ge] at hc15
                                          all_goals
                                            refine AW_skip ?_
                                            refine AW_id ?_
                                            refine AW_re rfl rfl fun K hK => ?_
                                            simp (disch := omega) [wrap64, List.getElem?_eq_getElem, toNat_pred, DtENet.cells, DtENode.cells, DtInst.cells, DtCmd.cells, DtId.cells, e0, hll]
                                            repeat' first | (exfalso; omega) | (refine ⟨fun _ => ?_, fun _ => ?_⟩) | (refine ⟨by omega, ?_⟩) | (intro _)
                                            all_goals (refine hK _ ?_; clear hK K)
                                            all_goals
                                              refine ⟨_, LeS.ko [(1, .ptr 32 0), (3, (.g (.int .i64 (((n) : Nat))))), (16, .sl 16 (l.map DtInst.cells)), (17, (.g (.int .i64 ((l.length : Nat))))), (18, (.g (.int .i64 (((i + 1) : Nat)))))] [(32, .cells (DtENet.cells x))] (by simp [KpE, upd_app, lkE_app, lk_cons, DtENet.cells, DtInst.cells]; try rfl) (by simp [KpO, upd_app, lk_cons, lk_nil, formOb_nn, DtENet.cells, DtInst.cells]; try rfl) (by rfl) (by simp) (by rfl), _, ?_, i + 1, n, rfl, ?_, rfl⟩
                                              · omega
                                              · refine ⟨by omega, ?_⟩
                                                rw [hsu, hn]
                                                first | (have hA : decB (AllAt x 3 l[i].fId) = true := by (first | (rw [← hal, ← hal2]; done) | grind)
                                                         rw [hA]; rfl) | (have hA : decB (AllAt x 3 l[i].fId) = false := by (first | (rw [← hal, ← hal2]; done) | grind)
                                                                          rw [hA]; rfl)
                    · try simp [decB_true, decB_false, eqB_true, eqB_false, cmpI_lt, cmpI_ge] at hc13
                      all_goals
                        refine AW_exit ?_
                        refine AW_id ?_
                        refine AW_r rfl rfl fun K hK => ?_
                        simp (disch := omega) [wrap64, List.getElem?_eq_getElem, toNat_pred, DtENet.cells, DtENode.cells, DtInst.cells, DtCmd.cells, DtId.cells, e0, hll]
                        repeat' first | (exfalso; omega) | (refine ⟨fun _ => ?_, fun _ => ?_⟩) | (refine ⟨by omega, ?_⟩) | (intro _)
                        all_goals (refine hK _ ?_; clear hK K)
                        all_goals
                          refine AW_ret (end_s ?_)
                          simp (disch := omega) [wrap64, List.getElem?_eq_getElem, toNat_pred, DtENet.cells, DtENode.cells, DtInst.cells, DtCmd.cells, DtId.cells, e0, hll]
                          all_goals (have hi3 : i = l.length := (by omega); subst hi3; rw [List.take_length] at hn; simp [doneZ, e0, hn, hd])
  · exact implEDone0 x hs hN
theorem lawEDone (u : DtENet) (hw : DtENet.wf u) : PCall Tryz.prog 3 [.agg (DtENet.cells u)] (.g (.bool (true))) := by
  have hq := DtENet.sz_nonneg u
  by_cases h : (1048576 : Int) - DtENet.sz u < 0
  · have e : szR 1048576 (DtENet.sz u) = -1 := by unfold szR; rw [if_pos h]
    refine gcall_of_walk Tryz.func3 (by rfl) (by rfl) (by rw [Tryz.ntmps3]; exact Nat.le_of_ble_eq_true rfl) rfl (by decide) ?_
    rw [Tryz.ntmps3]
    refine AW_k [(0, _)] ⟨rfl, trivial⟩ ?_
    refine AW_r rfl rfl fun K hK => ?_
    simp (disch := omega) [wrap64, List.getElem?_eq_getElem, toNat_pred, e, DtENet.cells]
    repeat' first | (exfalso; omega) | (refine ⟨fun _ => ?_, fun _ => ?_⟩) | (refine ⟨by omega, ?_⟩) | (intro _)
    all_goals (refine hK _ ?_; clear hK K)
    all_goals
      refine AW_r rfl rfl fun K hK => ?_
      simp (disch := omega) [wrap64, List.getElem?_eq_getElem, toNat_pred, e, DtENet.cells]
      repeat' first | (exfalso; omega) | (refine ⟨fun _ => ?_, fun _ => ?_⟩) | (refine ⟨by omega, ?_⟩) | (intro _)
      all_goals (refine hK _ ?_; clear hK K)
      all_goals
        refine AW_r rfl rfl fun K hK => ?_
        simp (disch := omega) [wrap64, List.getElem?_eq_getElem, toNat_pred, e, DtENet.cells]
        repeat' first | (exfalso; omega) | (refine CKd_v (am2s_cons (am2_agg rfl) (am2s_cons am2_g am2s_nil)) (szENet _ _ (by omega) hw) rfl ?_; simp (disch := omega) [wrap64, List.getElem?_eq_getElem, toNat_pred, e, DtENet.cells]) | (refine ⟨fun _ => ?_, fun _ => ?_⟩) | (refine ⟨by omega, ?_⟩) | (intro _)
        all_goals (refine hK _ ?_; clear hK K)
        all_goals
          refine AW_seq ?_
          refine AW_r rfl rfl fun K hK => ?_
          simp (disch := omega) [wrap64, List.getElem?_eq_getElem, toNat_pred, e, DtENet.cells]
          repeat' first | (exfalso; omega) | (refine ⟨fun _ => ?_, fun _ => ?_⟩) | (refine ⟨by omega, ?_⟩) | (intro _)
          all_goals (refine hK _ ?_; clear hK K)
          all_goals
            refine AW_cond rfl (fun hc16 => ?_) (fun hc16 => ?_)
            · try simp [decB_true, decB_false, eqB_true, eqB_false, cmpI_lt, cmpI_ge] at hc16
              all_goals
                refine AW_r rfl rfl fun K hK => ?_
                simp (disch := omega) [wrap64, List.getElem?_eq_getElem, toNat_pred, e, DtENet.cells]
                repeat' first | (exfalso; omega) | (refine ⟨fun _ => ?_, fun _ => ?_⟩) | (refine ⟨by omega, ?_⟩) | (intro _)
                all_goals (refine hK _ ?_; clear hK K)
                all_goals
                  refine AW_ret (end_s ?_)
                  simp (disch := omega) [wrap64, List.getElem?_eq_getElem, toNat_pred, e, DtENet.cells]
                  all_goals first | omega | (simp_all; done) | (simp [List.take_of_length_le]; done) | ((try simp_all); (try simp (disch := omega) only [wrap64, Int.tdiv_eq_ediv_of_nonneg, Int.tmod_eq_emod_of_nonneg, and_true, true_and]); done) | ((try simp_all); (try simp (disch := omega) only [wrap64, Int.tdiv_eq_ediv_of_nonneg, Int.tmod_eq_emod_of_nonneg, and_true, true_and] at *); omega)
            · try simp [decB_true, decB_false, eqB_true, eqB_false, cmpI_lt, cmpI_ge] at hc16
              all_goals
                refine AW_skip ?_
                refine AW_id ?_
                refine AW_r rfl rfl fun K hK => ?_
                simp (disch := omega) [wrap64, List.getElem?_eq_getElem, toNat_pred, e, DtENet.cells]
                repeat' first | (exfalso; omega) | (refine ⟨fun _ => ?_, fun _ => ?_⟩) | (refine ⟨by omega, ?_⟩) | (intro _)
                all_goals (refine hK _ ?_; clear hK K)
                all_goals
                  refine AW_r rfl rfl fun K hK => ?_
                  simp (disch := omega) [wrap64, List.getElem?_eq_getElem, toNat_pred, e, DtENet.cells]
                  repeat' first | (exfalso; omega) | (refine ⟨fun _ => ?_, fun _ => ?_⟩) | (refine ⟨by omega, ?_⟩) | (intro _)
                  all_goals (refine hK _ ?_; clear hK K)
                  all_goals
                    refine AW_r rfl rfl fun K hK => ?_
                    simp (disch := omega) [wrap64, List.getElem?_eq_getElem, toNat_pred, e, DtENet.cells]
                    repeat' first | (exfalso; omega) | (refine ⟨fun _ => ?_, fun _ => ?_⟩) | (refine ⟨by omega, ?_⟩) | (intro _)
                    all_goals (refine hK _ ?_; clear hK K)
                    all_goals
                      refine AW_seq ?_
                      refine AW_r rfl rfl fun K hK => ?_
                      simp (disch := omega) [wrap64, List.getElem?_eq_getElem, toNat_pred, e, DtENet.cells]
                      repeat' first | (exfalso; omega) | (refine ⟨fun _ => ?_, fun _ => ?_⟩) | (refine ⟨by omega, ?_⟩) | (intro _)
                      all_goals (refine hK _ ?_; clear hK K)
                      all_goals
                        refine AW_cond rfl (fun hc17 => ?_) (fun hc17 => ?_)
                        · try simp [decB_true, decB_false, eqB_true, eqB_false, cmpI_lt, cmpI_ge] at hc17
                          all_goals
                            refine AW_r rfl rfl fun K hK => ?_
                            simp (disch := omega) [wrap64, List.getElem?_eq_getElem, toNat_pred, e, DtENet.cells]
                            repeat' first | (exfalso; omega) | (refine ⟨fun _ => ?_, fun _ => ?_⟩) | (refine ⟨by omega, ?_⟩) | (intro _)
                            all_goals (refine hK _ ?_; clear hK K)
                            all_goals
                              refine AW_ret (end_s ?_)
                              simp (disch := omega) [wrap64, List.getElem?_eq_getElem, toNat_pred, e, DtENet.cells]
                              all_goals first | omega | (simp_all; done) | (simp [List.take_of_length_le]; done) | ((try simp_all); (try simp (disch := omega) only [wrap64, Int.tdiv_eq_ediv_of_nonneg, Int.tmod_eq_emod_of_nonneg, and_true, true_and]); done) | ((try simp_all); (try simp (disch := omega) only [wrap64, Int.tdiv_eq_ediv_of_nonneg, Int.tmod_eq_emod_of_nonneg, and_true, true_and] at *); omega)
                        · try simp [decB_true, decB_false, eqB_true, eqB_false, cmpI_lt, cmpI_ge] at hc17
                          all_goals
                            refine AW_skip ?_
                            refine AW_id ?_
                            refine AW_seq ?_
                            refine AW_q rfl mix (by kernel_rfl) rfl fun K hK => ?_
                            simp (disch := omega) [wrap64, List.getElem?_eq_getElem, toNat_pred, e, DtENet.cells]
                            repeat' first | (exfalso; omega) | (refine ⟨fun _ => ?_, fun _ => ?_⟩) | (refine ⟨by omega, ?_⟩) | (intro _)
                            all_goals (refine hK _ ?_; clear hK K)
                            all_goals
                              refine AW_cond rfl (fun hc18 => ?_) (fun hc18 => ?_)
                              · try simp [decB_true, decB_false, eqB_true, eqB_false, cmpI_lt, cmpI_ge] at hc18
                                all_goals
                                  refine AW_r rfl rfl fun K hK => ?_
                                  simp (disch := omega) [wrap64, List.getElem?_eq_getElem, toNat_pred, e, DtENet.cells]
                                  repeat' first | (exfalso; omega) | (refine ⟨fun _ => ?_, fun _ => ?_⟩) | (refine ⟨by omega, ?_⟩) | (intro _)
                                  all_goals (refine hK _ ?_; clear hK K)
                                  all_goals
                                    refine AW_ret (end_s ?_)
                                    simp (disch := omega) [wrap64, List.getElem?_eq_getElem, toNat_pred, e, DtENet.cells]
                                    all_goals first | omega | (simp_all; done) | (simp [List.take_of_length_le]; done) | ((try simp_all); (try simp (disch := omega) only [wrap64, Int.tdiv_eq_ediv_of_nonneg, Int.tmod_eq_emod_of_nonneg, and_true, true_and]); done) | ((try simp_all); (try simp (disch := omega) only [wrap64, Int.tdiv_eq_ediv_of_nonneg, Int.tmod_eq_emod_of_nonneg, and_true, true_and] at *); omega)
                              · try simp [decB_true, decB_false, eqB_true, eqB_false, cmpI_lt, cmpI_ge] at hc18
                                all_goals
                                  refine AW_skip ?_
                                  refine AW_id ?_
                                  refine AW_r rfl rfl fun K hK => ?_
                                  simp (disch := omega) [wrap64, List.getElem?_eq_getElem, toNat_pred, e, DtENet.cells]
                                  repeat' first | (exfalso; omega) | (refine ⟨fun _ => ?_, fun _ => ?_⟩) | (refine ⟨by omega, ?_⟩) | (intro _)
                                  all_goals (refine hK _ ?_; clear hK K)
                                  all_goals
                                    refine AW_ret (end_s ?_)
                                    simp (disch := omega) [wrap64, List.getElem?_eq_getElem, toNat_pred, e, DtENet.cells]
                                    all_goals first | omega | (simp_all; done) | (simp [List.take_of_length_le]; done) | ((try simp_all); (try simp (disch := omega) only [wrap64, Int.tdiv_eq_ediv_of_nonneg, Int.tmod_eq_emod_of_nonneg, and_true, true_and]); done) | ((try simp_all); (try simp (disch := omega) only [wrap64, Int.tdiv_eq_ediv_of_nonneg, Int.tmod_eq_emod_of_nonneg, and_true, true_and] at *); omega)
  · have e : szR 1048576 (DtENet.sz u) = 1048576 - DtENet.sz u := by unfold szR; rw [if_neg h]
    have e2 : (0 : Int) ≤ 1048576 - DtENet.sz u := by omega
    refine gcall_of_walk Tryz.func3 (by rfl) (by rfl) (by rw [Tryz.ntmps3]; exact Nat.le_of_ble_eq_true rfl) rfl (by decide) ?_
    rw [Tryz.ntmps3]
    refine AW_k [(0, _)] ⟨rfl, trivial⟩ ?_
    refine AW_r rfl rfl fun K hK => ?_
    simp (disch := omega) [wrap64, List.getElem?_eq_getElem, toNat_pred, e, e2, eqB_self, DtENet.cells]
    repeat' first | (exfalso; omega) | (refine ⟨fun _ => ?_, fun _ => ?_⟩) | (refine ⟨by omega, ?_⟩) | (intro _)
    all_goals (refine hK _ ?_; clear hK K)
    all_goals
      refine AW_r rfl rfl fun K hK => ?_
      simp (disch := omega) [wrap64, List.getElem?_eq_getElem, toNat_pred, e, e2, eqB_self, DtENet.cells]
      repeat' first | (exfalso; omega) | (refine ⟨fun _ => ?_, fun _ => ?_⟩) | (refine ⟨by omega, ?_⟩) | (intro _)
      all_goals (refine hK _ ?_; clear hK K)
      all_goals
        refine AW_r rfl rfl fun K hK => ?_
        simp (disch := omega) [wrap64, List.getElem?_eq_getElem, toNat_pred, e, e2, eqB_self, DtENet.cells]
        repeat' first | (exfalso; omega) | (refine CKd_v (am2s_cons (am2_agg rfl) (am2s_cons am2_g am2s_nil)) (szENet _ _ (by omega) hw) rfl ?_; simp (disch := omega) [wrap64, List.getElem?_eq_getElem, toNat_pred, e, e2, eqB_self, DtENet.cells]) | (refine ⟨fun _ => ?_, fun _ => ?_⟩) | (refine ⟨by omega, ?_⟩) | (intro _)
        all_goals (refine hK _ ?_; clear hK K)
        all_goals
          refine AW_seq ?_
          refine AW_r rfl rfl fun K hK => ?_
          simp (disch := omega) [wrap64, List.getElem?_eq_getElem, toNat_pred, e, e2, eqB_self, DtENet.cells]
          repeat' first | (exfalso; omega) | (refine ⟨fun _ => ?_, fun _ => ?_⟩) | (refine ⟨by omega, ?_⟩) | (intro _)
          all_goals (refine hK _ ?_; clear hK K)
          all_goals
            refine AW_cond rfl (fun hc19 => ?_) (fun hc19 => ?_)
            · try simp [decB_true, decB_false, eqB_true, eqB_false, cmpI_lt, cmpI_ge] at hc19
              all_goals
                refine AW_r rfl rfl fun K hK => ?_
                simp (disch := omega) [wrap64, List.getElem?_eq_getElem, toNat_pred, e, e2, eqB_self, DtENet.cells]
                repeat' first | (exfalso; omega) | (refine ⟨fun _ => ?_, fun _ => ?_⟩) | (refine ⟨by omega, ?_⟩) | (intro _)
                all_goals (refine hK _ ?_; clear hK K)
                all_goals
                  refine AW_ret (end_s ?_)
                  simp (disch := omega) [wrap64, List.getElem?_eq_getElem, toNat_pred, e, e2, eqB_self, DtENet.cells]
                  all_goals first | omega | (simp_all; done) | (simp [List.take_of_length_le]; done) | ((try simp_all); (try simp (disch := omega) only [wrap64, Int.tdiv_eq_ediv_of_nonneg, Int.tmod_eq_emod_of_nonneg, and_true, true_and]); done) | ((try simp_all); (try simp (disch := omega) only [wrap64, Int.tdiv_eq_ediv_of_nonneg, Int.tmod_eq_emod_of_nonneg, and_true, true_and] at *); omega)
            · try simp [decB_true, decB_false, eqB_true, eqB_false, cmpI_lt, cmpI_ge] at hc19
              all_goals
                refine AW_skip ?_
                refine AW_id ?_
                refine AW_r rfl rfl fun K hK => ?_
                simp (disch := omega) [wrap64, List.getElem?_eq_getElem, toNat_pred, e, e2, eqB_self, DtENet.cells]
                repeat' first | (exfalso; omega) | (refine CKd_v (am2s_cons (am2_agg rfl) am2s_nil) (toENet _ (by omega)) rfl ?_; simp (disch := omega) [wrap64, List.getElem?_eq_getElem, toNat_pred, e, e2, eqB_self, DtENet.cells]) | (refine CKd_v (am2s_cons (am2_agg rfl) am2s_nil) (specEDone _ (by omega)) rfl ?_; simp (disch := omega) [wrap64, List.getElem?_eq_getElem, toNat_pred, e, e2, eqB_self, DtENet.cells]) | (refine ⟨fun _ => ?_, fun _ => ?_⟩) | (refine ⟨by omega, ?_⟩) | (intro _)
                all_goals (refine hK _ ?_; clear hK K)
                all_goals
                  refine AW_r rfl rfl fun K hK => ?_
                  simp (disch := omega) [wrap64, List.getElem?_eq_getElem, toNat_pred, e, e2, eqB_self, DtENet.cells]
                  repeat' first | (exfalso; omega) | (refine CKd_v (am2s_cons (am2_agg rfl) am2s_nil) (toENet _ (by omega)) rfl ?_; simp (disch := omega) [wrap64, List.getElem?_eq_getElem, toNat_pred, e, e2, eqB_self, DtENet.cells]) | (refine ⟨fun _ => ?_, fun _ => ?_⟩) | (refine ⟨by omega, ?_⟩) | (intro _)
                  all_goals (refine hK _ ?_; clear hK K)
                  all_goals
                    refine AW_r rfl rfl fun K hK => ?_
                    simp (disch := omega) [wrap64, List.getElem?_eq_getElem, toNat_pred, e, e2, eqB_self, DtENet.cells]
                    repeat' first | (exfalso; omega) | (refine CKd_v (am2s_cons (am2_agg rfl) am2s_nil) (implEDone _ (by omega)) rfl ?_; simp (disch := omega) [wrap64, List.getElem?_eq_getElem, toNat_pred, e, e2, eqB_self, DtENet.cells]) | (refine ⟨fun _ => ?_, fun _ => ?_⟩) | (refine ⟨by omega, ?_⟩) | (intro _)
                    all_goals (refine hK _ ?_; clear hK K)
                    all_goals
                      refine AW_seq ?_
                      refine AW_r rfl rfl fun K hK => ?_
                      simp (disch := omega) [wrap64, List.getElem?_eq_getElem, toNat_pred, e, e2, eqB_self, DtENet.cells]
                      repeat' first | (exfalso; omega) | (refine ⟨fun _ => ?_, fun _ => ?_⟩) | (refine ⟨by omega, ?_⟩) | (intro _)
                      all_goals (refine hK _ ?_; clear hK K)
                      all_goals
                        refine AW_cond rfl (fun hc20 => ?_) (fun hc20 => ?_)
                        · try simp [decB_true, decB_false, eqB_true, eqB_false, cmpI_lt, cmpI_ge] at hc20
                          all_goals
                            refine AW_r rfl rfl fun K hK => ?_
                            simp (disch := omega) [wrap64, List.getElem?_eq_getElem, toNat_pred, e, e2, eqB_self, DtENet.cells]
                            repeat' first | (exfalso; omega) | (refine ⟨fun _ => ?_, fun _ => ?_⟩) | (refine ⟨by omega, ?_⟩) | (intro _)
                            all_goals (refine hK _ ?_; clear hK K)
                            all_goals
                              refine AW_ret (end_s ?_)
                              simp (disch := omega) [wrap64, List.getElem?_eq_getElem, toNat_pred, e, e2, eqB_self, DtENet.cells]
                              all_goals first | omega | (simp_all; done) | (simp [List.take_of_length_le]; done) | ((try simp_all); (try simp (disch := omega) only [wrap64, Int.tdiv_eq_ediv_of_nonneg, Int.tmod_eq_emod_of_nonneg, and_true, true_and]); done) | ((try simp_all); (try simp (disch := omega) only [wrap64, Int.tdiv_eq_ediv_of_nonneg, Int.tmod_eq_emod_of_nonneg, and_true, true_and] at *); omega)
                        · try simp [decB_true, decB_false, eqB_true, eqB_false, cmpI_lt, cmpI_ge] at hc20
                          all_goals
                            refine AW_skip ?_
                            refine AW_id ?_
                            refine AW_seq ?_
                            refine AW_q rfl mix (by kernel_rfl) rfl fun K hK => ?_
                            simp (disch := omega) [wrap64, List.getElem?_eq_getElem, toNat_pred, e, e2, eqB_self, DtENet.cells]
                            repeat' first | (exfalso; omega) | (refine CKd_v (am2s_cons (am2_agg rfl) am2s_nil) (toENet _ (by omega)) rfl ?_; simp (disch := omega) [wrap64, List.getElem?_eq_getElem, toNat_pred, e, e2, eqB_self, DtENet.cells]) | (refine CKd_v (am2s_cons (am2_agg rfl) (am2s_cons (am2_agg rfl) am2s_nil)) (eqENet _ _ (by omega)) rfl ?_; simp (disch := omega) [wrap64, List.getElem?_eq_getElem, toNat_pred, e, e2, eqB_self, DtENet.cells]) | (refine ⟨fun _ => ?_, fun _ => ?_⟩) | (refine ⟨by omega, ?_⟩) | (intro _)
                            all_goals (refine hK _ ?_; clear hK K)
                            all_goals
                              refine AW_cond rfl (fun hc21 => ?_) (fun hc21 => ?_)
                              · try simp [decB_true, decB_false, eqB_true, eqB_false, cmpI_lt, cmpI_ge] at hc21
                                all_goals
                                  refine AW_r rfl rfl fun K hK => ?_
                                  simp (disch := omega) [wrap64, List.getElem?_eq_getElem, toNat_pred, e, e2, eqB_self, DtENet.cells]
                                  repeat' first | (exfalso; omega) | (refine ⟨fun _ => ?_, fun _ => ?_⟩) | (refine ⟨by omega, ?_⟩) | (intro _)
                                  all_goals (refine hK _ ?_; clear hK K)
                                  all_goals
                                    refine AW_ret (end_s ?_)
                                    simp (disch := omega) [wrap64, List.getElem?_eq_getElem, toNat_pred, e, e2, eqB_self, DtENet.cells]
                                    all_goals first | omega | (simp_all; done) | (simp [List.take_of_length_le]; done) | ((try simp_all); (try simp (disch := omega) only [wrap64, Int.tdiv_eq_ediv_of_nonneg, Int.tmod_eq_emod_of_nonneg, and_true, true_and]); done) | ((try simp_all); (try simp (disch := omega) only [wrap64, Int.tdiv_eq_ediv_of_nonneg, Int.tmod_eq_emod_of_nonneg, and_true, true_and] at *); omega)
                              · try simp [decB_true, decB_false, eqB_true, eqB_false, cmpI_lt, cmpI_ge] at hc21
                                all_goals
                                  refine AW_skip ?_
                                  refine AW_id ?_
                                  refine AW_r rfl rfl fun K hK => ?_
                                  simp (disch := omega) [wrap64, List.getElem?_eq_getElem, toNat_pred, e, e2, eqB_self, DtENet.cells]
                                  repeat' first | (exfalso; omega) | (refine ⟨fun _ => ?_, fun _ => ?_⟩) | (refine ⟨by omega, ?_⟩) | (intro _)
                                  all_goals (refine hK _ ?_; clear hK K)
                                  all_goals
                                    refine AW_ret (end_s ?_)
                                    simp (disch := omega) [wrap64, List.getElem?_eq_getElem, toNat_pred, e, e2, eqB_self, DtENet.cells]
                                    all_goals first | omega | (simp_all; done) | (simp [List.take_of_length_le]; done) | ((try simp_all); (try simp (disch := omega) only [wrap64, Int.tdiv_eq_ediv_of_nonneg, Int.tmod_eq_emod_of_nonneg, and_true, true_and]); done) | ((try simp_all); (try simp (disch := omega) only [wrap64, Int.tdiv_eq_ediv_of_nonneg, Int.tmod_eq_emod_of_nonneg, and_true, true_and] at *); omega)
end Go.Proofs.YtopeonnaalpmjaaGreat.Vs
