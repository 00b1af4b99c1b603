import Derived.Test.YtcedomdpbgjbpaaSB7
open Go Go.Proofs Go.Proofs.Ytcedomdpbgjbpaa.Vs
namespace Go.Proofs.Ytcedomdpbgjbpaa.Vs
set_option linter.unusedVariables false
set_option linter.unusedSimpArgs false
set_option linter.unusedSectionVars false
set_option linter.unnecessarySimpa false
set_option linter.all false
set_option linter.unusedSimpArgs false
set_option linter.unusedVariables false
set_option maxRecDepth 100000
theorem l9Node (a : Int) : PCall Try.prog 75 [(.g (.int .i64 (a)))] (.g (.bool (decide (0 ≤ a) && decide (a ≤ 2)))) := by
  refine gcall_of_walk Try.func75 (by rfl) (by rfl) (by rw [Try.ntmps75]; exact Nat.le_of_ble_eq_true rfl) rfl (by decide) ?_
  rw [Try.ntmps75]
  refine AW_k [(0, _)] ⟨rfl, trivial⟩ ?_
  refine AW_r rfl rfl fun K hK => ?_
  simp
  repeat' first | (refine ⟨fun _ => ?_, fun _ => ?_⟩) | (refine ⟨by omega, ?_⟩) | (intro _)
  all_goals (refine hK _ ?_; clear hK K)
  all_goals
    refine AW_r rfl rfl fun K hK => ?_
    simp
    repeat' first | (refine ⟨fun _ => ?_, fun _ => ?_⟩) | (refine ⟨by omega, ?_⟩) | (intro _)
    all_goals (refine hK _ ?_; clear hK K)
    all_goals
      refine AW_ret (end_s ?_)
      simp
      all_goals first | omega | (simp_all; done) | (rw [Bool.eq_iff_iff]; simp_all; omega)
theorem isRep (a : Int) : PCall Try.prog 78 [(.g (.int .i64 (a)))] (.g (.bool (decide (0 ≤ a) && decide (a ≤ 2)))) := by
  refine gcall_of_walk Try.func78 (by rfl) (by rfl) (by rw [Try.ntmps78]; exact Nat.le_of_ble_eq_true rfl) rfl (by decide) ?_
  rw [Try.ntmps78]
  refine AW_k [(0, _)] ⟨rfl, trivial⟩ ?_
  refine AW_r rfl rfl fun K hK => ?_
  simp
  repeat' first | (refine ⟨fun _ => ?_, fun _ => ?_⟩) | (refine ⟨by omega, ?_⟩) | (intro _)
  all_goals (refine hK _ ?_; clear hK K)
  all_goals
    refine AW_r rfl rfl fun K hK => ?_
    simp
    repeat' first | (refine CKd_v (am2s_cons am2_g (am2s_cons am2_g (am2s_cons am2_g am2s_nil))) (within _ _ _) rfl ?_; simp) | (refine ⟨fun _ => ?_, fun _ => ?_⟩) | (refine ⟨by omega, ?_⟩) | (intro _)
    all_goals (refine hK _ ?_; clear hK K)
    all_goals
      refine AW_ret (end_s ?_)
      simp
      all_goals first | omega | (simp_all; done) | (simp [List.take_of_length_le]; done) | ((try simp_all); (try simp (disch := omega) only [wrap64, Int.tdiv_eq_ediv_of_nonneg, Int.tmod_eq_emod_of_nonneg, and_true, true_and]); done) | ((try simp_all); (try simp (disch := omega) only [wrap64, Int.tdiv_eq_ediv_of_nonneg, Int.tmod_eq_emod_of_nonneg, and_true, true_and] at *); omega)
def NodeAt (ns : List Int) (k : Nat) (n : Int) : Prop := 0 ≤ n ∧ n ≤ 2 ∧ ∀ m, 0 < k → ns[k - 1]? = some m → m < n
def UpAt (l : List DtUp) (e : Int) (i : Nat) (x : DtUp) : Prop := x.fChunk.length = 8 ∧ (∀ y, 0 < i → l[i - 1]? = some y → Op.bytesLess y.fChunk x.fChunk = true) ∧ x.fNodes ≠ [] ∧ 0 ≤ x.fEpoch ∧ x.fEpoch ≤ e ∧ ∀ k n, x.fNodes[k]? = some n → NodeAt x.fNodes k n
def UpsOkP (u : DtUps) : Prop := 0 ≤ u.fEpoch ∧ u.fEpoch ≤ 1000 ∧ u.fList.length ≤ 20 ∧ ∀ i x, u.fList[i]? = some x → UpAt u.fList u.fEpoch i x
theorem specUpsOk (u : DtUps) (hs : DtUps.sz u ≤ 1048576) : PCall Try.prog 45 [.agg (DtUps.cells u)] (.g (.bool (decB (UpsOkP u)))) := by
  have hl : u.fList.length ≤ 1048576 := by have := sumZ_nonneg DtUp.sz_nonneg u.fList; simp only [DtUps.sz, szS] at hs; omega
  have hl2 : ∀ i (h : i < u.fList.length), u.fList[i].fNodes.length ≤ 1048576 := by
    intro i h
    have h1 := sumZ_mem_le DtUp.sz_nonneg u.fList u.fList[i] (List.getElem_mem _)
    simp only [DtUps.sz, szS] at hs
    simp only [DtUp.sz] at h1
    omega
  refine gcall_of_walk Try.func45 (by rfl) (by rfl) (by rw [Try.ntmps45]; exact Nat.le_of_ble_eq_true rfl) rfl (by decide) ?_
  rw [Try.ntmps45]
  refine AW_k [(0, _)] ⟨rfl, trivial⟩ ?_
  refine AW_r rfl rfl fun K hK => ?_
  simp (disch := omega) [wrap64, List.getElem?_eq_getElem, toNat_pred, DtUps.cells, DtUp.cells]
  repeat' first | (exfalso; omega) | (refine ⟨fun _ => ?_, fun _ => ?_⟩) | (refine ⟨by omega, ?_⟩) | (intro _)
  all_goals (refine hK _ ?_; clear hK K)
  all_goals
    refine AW_seq ?_
    refine AW_r rfl rfl fun K hK => ?_
    simp (disch := omega) [wrap64, List.getElem?_eq_getElem, toNat_pred, DtUps.cells, DtUp.cells]
    repeat' first | (exfalso; omega) | (refine CKd_v (am2s_cons am2_g (am2s_cons am2_g (am2s_cons am2_g am2s_nil))) (l1In _ _ _) rfl ?_; simp (disch := omega) [wrap64, List.getElem?_eq_getElem, toNat_pred, DtUps.cells, DtUp.cells]) | (refine ⟨fun _ => ?_, fun _ => ?_⟩) | (refine ⟨by omega, ?_⟩) | (intro _)
    all_goals (refine hK _ ?_; clear hK K)
    all_goals
      refine AW_cond rfl (fun hc1 => ?_) (fun hc1 => ?_)
      · try simp at hc1
        all_goals
          refine AW_r rfl rfl fun K hK => ?_
          simp (disch := omega) [wrap64, List.getElem?_eq_getElem, toNat_pred, DtUps.cells, DtUp.cells]
          repeat' first | (exfalso; omega) | (refine ⟨fun _ => ?_, fun _ => ?_⟩) | (refine ⟨by omega, ?_⟩) | (intro _)
          all_goals (refine hK _ ?_; clear hK K)
          all_goals
            refine AW_ret (end_s ?_)
            simp (disch := omega) [wrap64, List.getElem?_eq_getElem, toNat_pred, DtUps.cells, DtUp.cells]
            all_goals first | (refine decB_f fun h => ?_; grind [UpsOkP, UpAt, NodeAt]) | (refine decB_t ?_; grind [UpsOkP, UpAt, NodeAt])
      · try simp at hc1
        all_goals
          refine AW_skip ?_
          refine AW_id ?_
          refine AW_seq ?_
          refine AW_r rfl rfl fun K hK => ?_
          simp (disch := omega) [wrap64, List.getElem?_eq_getElem, toNat_pred, DtUps.cells, DtUp.cells]
          repeat' first | (exfalso; omega) | (refine ⟨fun _ => ?_, fun _ => ?_⟩) | (refine ⟨by omega, ?_⟩) | (intro _)
          all_goals (refine hK _ ?_; clear hK K)
          all_goals
            refine AW_block ?_
            refine AW_loopS (fun mM sS => ∃ (i : Nat), mM = u.fList.length - i ∧ (i ≤ u.fList.length ∧ ∀ j x, j < i → u.fList[j]? = some x → UpAt u.fList u.fEpoch j x) ∧ sS = { env := lkE [(1, .ptr 32 0), (3, (.g (.int .i64 ((i : Nat)))))], ob := lk [(32, .cells (DtUps.cells u))] }) ?_ ?_
            · refine ⟨_, LeS.ko [(1, .ptr 32 0), (3, (.g (.int .i64 (((0) : Nat)))))] [(32, .cells (DtUps.cells u))] (by simp [KpE, upd_app, lkE_app, lk_cons, DtUps.cells, DtUp.cells]; try rfl) (by simp [KpO, upd_app, lk_cons, lk_nil, formOb_nn, DtUps.cells, DtUp.cells]; try rfl) (by rfl) (by simp) (by rfl), _, 0, rfl, ?_, rfl⟩
              · simp
            · rintro mM sS ⟨i, rfl, ⟨hi, hpre⟩, rfl⟩
              refine AW_seq ?_
              refine AW_r rfl rfl fun K hK => ?_
              simp (disch := omega) [wrap64, List.getElem?_eq_getElem, toNat_pred, DtUps.cells, DtUp.cells, DtUps.cells, DtUp.cells]
              repeat' first | (exfalso; omega) | (refine ⟨fun _ => ?_, fun _ => ?_⟩) | (refine ⟨by omega, ?_⟩) | (intro _)
              all_goals (refine hK _ ?_; clear hK K)
              all_goals
                refine AW_cond rfl (fun hc2 => ?_) (fun hc2 => ?_)
                · try simp at hc2
                  all_goals
                    have hg : u.fList[i]? = some (u.fList[i]) := List.getElem?_eq_getElem (by omega)
                    have hg' : u.fList[i - 1]? = some (u.fList[i - 1]) := List.getElem?_eq_getElem (by omega)
                    rcases Nat.eq_zero_or_pos i with hi0 | hi0
                    all_goals
                      refine AW_skip ?_
                      refine AW_id ?_
                      refine AW_seq ?_
                      refine AW_block ?_
                      refine AW_r rfl rfl fun K hK => ?_
                      simp (disch := omega) [wrap64, List.getElem?_eq_getElem, toNat_pred, DtUps.cells, DtUp.cells, DtUps.cells, DtUp.cells]
                      repeat' first | (exfalso; omega) | (refine ⟨fun _ => ?_, fun _ => ?_⟩) | (refine ⟨by omega, ?_⟩) | (intro _)
                      all_goals (refine hK _ ?_; clear hK K)
                      all_goals
                        refine AW_seq ?_
                        refine AW_q rfl mix (by kernel_rfl) rfl fun K hK => ?_
                        simp (disch := omega) [wrap64, List.getElem?_eq_getElem, toNat_pred, DtUps.cells, DtUp.cells, DtUps.cells, DtUp.cells]
                        repeat' first | (exfalso; omega) | (refine CKd_v (am2s_cons am2_g (am2s_cons am2_g (am2s_cons am2_g am2s_nil))) (l1In _ _ _) rfl ?_; simp (disch := omega) [wrap64, List.getElem?_eq_getElem, toNat_pred, DtUps.cells, DtUp.cells, DtUps.cells, DtUp.cells]) | (refine ⟨fun _ => ?_, fun _ => ?_⟩) | (refine ⟨by omega, ?_⟩) | (intro _)
                        all_goals (refine hK _ ?_; clear hK K)
                        all_goals
                          refine AW_cond rfl (fun hc3 => ?_) (fun hc3 => ?_)
                          · try simp at hc3
                            all_goals
                              refine AW_r rfl rfl fun K hK => ?_
                              simp (disch := omega) [wrap64, List.getElem?_eq_getElem, toNat_pred, DtUps.cells, DtUp.cells, DtUps.cells, DtUp.cells]
                              repeat' first | (exfalso; omega) | (refine ⟨fun _ => ?_, fun _ => ?_⟩) | (refine ⟨by omega, ?_⟩) | (intro _)
                              all_goals (refine hK _ ?_; clear hK K)
                              all_goals
                                refine AW_ret (end_s ?_)
                                simp (disch := omega) [wrap64, List.getElem?_eq_getElem, toNat_pred, DtUps.cells, DtUp.cells, DtUps.cells, DtUp.cells]
                                all_goals first | (refine decB_f fun h => ?_; grind [UpsOkP, UpAt, NodeAt]) | (refine decB_t ?_; grind [UpsOkP, UpAt, NodeAt])
                          · try simp at hc3
                            all_goals
                              refine AW_skip ?_
                              refine AW_id ?_
                              refine AW_r rfl rfl fun K hK => ?_
                              simp (disch := omega) [wrap64, List.getElem?_eq_getElem, toNat_pred, DtUps.cells, DtUp.cells, DtUps.cells, DtUp.cells]
                              repeat' first | (exfalso; omega) | (refine ⟨fun _ => ?_, fun _ => ?_⟩) | (refine ⟨by omega, ?_⟩) | (intro _)
                              all_goals (refine hK _ ?_; clear hK K)
                              all_goals
                                refine AW_block ?_
                                refine AW_loopS (fun mM sS => ∃ (k : Nat), mM = (u.fList[i]).fNodes.length - k ∧ (k ≤ (u.fList[i]).fNodes.length ∧ ∀ j n, j < k → (u.fList[i]).fNodes[j]? = some n → NodeAt (u.fList[i]).fNodes j n) ∧ sS = { env := lkE [(1, .ptr 32 0), (3, (.g (.int .i64 ((i : Nat))))), (4, .ptr 80 0), (5, (.g (.int .i64 ((k : Nat)))))], ob := lk [(32, .cells (DtUps.cells u)), (80, .cells (DtUp.cells u.fList[i]))] }) ?_ ?_
                                · refine ⟨_, LeS.ko [(1, .ptr 32 0), (3, (.g (.int .i64 ((i : Nat))))), (4, .ptr 80 0), (5, (.g (.int .i64 (((0) : Nat)))))] [(32, .cells (DtUps.cells u)), (80, .cells (DtUp.cells u.fList[i]))] (by simp [KpE, upd_app, lkE_app, lk_cons, DtUps.cells, DtUp.cells]; try rfl) (by simp [KpO, upd_app, lk_cons, lk_nil, formOb_nn, DtUps.cells, DtUp.cells]; try rfl) (by rfl) (by simp) (by rfl), _, 0, rfl, ?_, rfl⟩
                                  · simp
                                · rintro mM sS ⟨k, rfl, ⟨hk, hkre⟩, rfl⟩
                                  have hl3 : (u.fList[i]).fNodes.length ≤ 1048576 := hl2 i (by omega)
                                  refine AW_seq ?_
                                  refine AW_r rfl rfl fun K hK => ?_
                                  simp (disch := omega) [wrap64, List.getElem?_eq_getElem, toNat_pred, DtUps.cells, DtUp.cells, DtUps.cells, DtUp.cells, cI]
                                  repeat' first | (exfalso; omega) | (refine ⟨fun _ => ?_, fun _ => ?_⟩) | (refine ⟨by omega, ?_⟩) | (intro _)
                                  all_goals (refine hK _ ?_; clear hK K)
                                  all_goals
                                    refine AW_cond rfl (fun hc4 => ?_) (fun hc4 => ?_)
                                    · try simp at hc4
                                      all_goals
                                        have hg2 : (u.fList[i]).fNodes[k]? = some ((u.fList[i]).fNodes[k]) := List.getElem?_eq_getElem (by omega)
                                        have hg2' : (u.fList[i]).fNodes[k - 1]? = some ((u.fList[i]).fNodes[k - 1]) := List.getElem?_eq_getElem (by omega)
                                        rcases Nat.eq_zero_or_pos k with hk0 | hk0
                                        all_goals
                                          refine AW_skip ?_
                                          refine AW_id ?_
                                          refine AW_seq ?_
                                          refine AW_block ?_
                                          refine AW_q rfl mix (by kernel_rfl) rfl fun K hK => ?_
                                          simp (disch := omega) [wrap64, List.getElem?_eq_getElem, toNat_pred, DtUps.cells, DtUp.cells, DtUps.cells, DtUp.cells, cI]
                                          repeat' first | (exfalso; omega) | (refine CKd_v (am2s_cons am2_g am2s_nil) (l9Node _) rfl ?_; simp (disch := omega) [wrap64, List.getElem?_eq_getElem, toNat_pred, DtUps.cells, DtUp.cells, DtUps.cells, DtUp.cells, cI]) | (refine ⟨fun _ => ?_, fun _ => ?_⟩) | (refine ⟨by omega, ?_⟩) | (intro _)
                                          all_goals (refine hK _ ?_; clear hK K)
                                          all_goals
                                            refine AW_cond rfl (fun hc5 => ?_) (fun hc5 => ?_)
                                            · try simp at hc5
                                              all_goals
                                                refine AW_r rfl rfl fun K hK => ?_
                                                simp (disch := omega) [wrap64, List.getElem?_eq_getElem, toNat_pred, DtUps.cells, DtUp.cells, DtUps.cells, DtUp.cells, cI]
                                                repeat' first | (exfalso; omega) | (refine ⟨fun _ => ?_, fun _ => ?_⟩) | (refine ⟨by omega, ?_⟩) | (intro _)
                                                all_goals (refine hK _ ?_; clear hK K)
                                                all_goals
                                                  refine AW_ret (end_s ?_)
                                                  simp (disch := omega) [wrap64, List.getElem?_eq_getElem, toNat_pred, DtUps.cells, DtUp.cells, DtUps.cells, DtUp.cells, cI]
                                                  all_goals first | (refine decB_f fun h => ?_; grind [UpsOkP, UpAt, NodeAt]) | (refine decB_t ?_; grind [UpsOkP, UpAt, NodeAt])
                                            · try simp at hc5
                                              all_goals
                                                refine AW_skip ?_
                                                refine AW_id ?_
                                                refine AW_re rfl rfl fun K hK => ?_
                                                simp (disch := omega) [wrap64, List.getElem?_eq_getElem, toNat_pred, DtUps.cells, DtUp.cells, DtUps.cells, DtUp.cells, cI]
                                                repeat' first | (exfalso; omega) | (refine ⟨fun _ => ?_, fun _ => ?_⟩) | (refine ⟨by omega, ?_⟩) | (intro _)
                                                all_goals (refine hK _ ?_; clear hK K)
                                                all_goals
                                                  refine ⟨_, LeS.ko [(1, .ptr 32 0), (3, (.g (.int .i64 ((i : Nat))))), (4, .ptr 80 0), (5, (.g (.int .i64 (((k + 1) : Nat)))))] [(32, .cells (DtUps.cells u)), (80, .cells (DtUp.cells u.fList[i]))] (by simp [KpE, upd_app, lkE_app, lk_cons, DtUps.cells, DtUp.cells]; try rfl) (by simp [KpO, upd_app, lk_cons, lk_nil, formOb_nn, DtUps.cells, DtUp.cells]; try rfl) (by rfl) (by simp) (by rfl), _, ?_, k + 1, rfl, ?_, rfl⟩
                                                  · omega
                                                  · refine ⟨by omega, fun j x hj hx => ?_⟩
                                                    by_cases hji : j = k
                                                    · subst hji; clear hs hl hl2; grind [UpAt, NodeAt]
                                                    · exact hkre j x (by omega) hx
                                    · try simp at hc4
                                      all_goals
                                        refine AW_exit ?_
                                        refine AW_id ?_
                                        refine AW_re rfl rfl fun K hK => ?_
                                        simp (disch := omega) [wrap64, List.getElem?_eq_getElem, toNat_pred, DtUps.cells, DtUp.cells, DtUps.cells, DtUp.cells, cI]
                                        repeat' first | (exfalso; omega) | (refine ⟨fun _ => ?_, fun _ => ?_⟩) | (refine ⟨by omega, ?_⟩) | (intro _)
                                        all_goals (refine hK _ ?_; clear hK K)
                                        all_goals
                                          refine ⟨_, LeS.ko [(1, .ptr 32 0), (3, (.g (.int .i64 (((i + 1) : Nat)))))] [(32, .cells (DtUps.cells u))] (by simp [KpE, upd_app, lkE_app, lk_cons, DtUps.cells, DtUp.cells]; try rfl) (by simp [KpO, upd_app, lk_cons, lk_nil, formOb_nn, DtUps.cells, DtUp.cells]; try rfl) (by rfl) (by simp) (by rfl), _, ?_, i + 1, rfl, ?_, rfl⟩
                                          · omega
                                          · refine ⟨by omega, fun j x hj hx => ?_⟩
                                            by_cases hji : j = i
                                            · subst hji; clear hs hl hl2; grind [UpAt, NodeAt]
                                            · exact hpre j x (by omega) hx
                · try simp at hc2
                  all_goals
                    have hi2 : i = u.fList.length := by omega
                    subst hi2
                    refine AW_exit ?_
                    refine AW_id ?_
                    refine AW_r rfl rfl fun K hK => ?_
                    simp (disch := omega) [wrap64, List.getElem?_eq_getElem, toNat_pred, DtUps.cells, DtUp.cells, DtUps.cells, DtUp.cells]
                    repeat' first | (exfalso; omega) | (refine ⟨fun _ => ?_, fun _ => ?_⟩) | (refine ⟨by omega, ?_⟩) | (intro _)
                    all_goals (refine hK _ ?_; clear hK K)
                    all_goals
                      refine AW_ret (end_s ?_)
                      simp (disch := omega) [wrap64, List.getElem?_eq_getElem, toNat_pred, DtUps.cells, DtUp.cells, DtUps.cells, DtUp.cells]
                      all_goals first | (refine decB_f fun h => ?_; grind [UpsOkP, UpAt, NodeAt]) | (refine decB_t ?_; grind [UpsOkP, UpAt, NodeAt])
theorem implUpsOk (u : DtUps) (hs : DtUps.sz u ≤ 1048576) : PCall Try.prog 48 [.agg (DtUps.cells u)] (.g (.bool (decB (UpsOkP u)))) := by
  have hl : u.fList.length ≤ 1048576 := by have := sumZ_nonneg DtUp.sz_nonneg u.fList; simp only [DtUps.sz, szS] at hs; omega
  have hl2 : ∀ i (h : i < u.fList.length), u.fList[i].fNodes.length ≤ 1048576 := by
    intro i h
    have h1 := sumZ_mem_le DtUp.sz_nonneg u.fList u.fList[i] (List.getElem_mem _)
    simp only [DtUps.sz, szS] at hs
    simp only [DtUp.sz] at h1
    omega
  refine gcall_of_walk Try.func48 (by rfl) (by rfl) (by rw [Try.ntmps48]; exact Nat.le_of_ble_eq_true rfl) rfl (by decide) ?_
  rw [Try.ntmps48]
  refine AW_k [(0, _)] ⟨rfl, trivial⟩ ?_
  refine AW_r rfl rfl fun K hK => ?_
  simp (disch := omega) [wrap64, List.getElem?_eq_getElem, toNat_pred, DtUps.cells, DtUp.cells]
  repeat' first | (exfalso; omega) | (refine ⟨fun _ => ?_, fun _ => ?_⟩) | (refine ⟨by omega, ?_⟩) | (intro _)
  all_goals (refine hK _ ?_; clear hK K)
  all_goals
    refine AW_seq ?_
    refine AW_r rfl rfl fun K hK => ?_
    simp (disch := omega) [wrap64, List.getElem?_eq_getElem, toNat_pred, DtUps.cells, DtUp.cells]
    repeat' first | (exfalso; omega) | (refine ⟨fun _ => ?_, fun _ => ?_⟩) | (refine ⟨by omega, ?_⟩) | (intro _)
    all_goals (refine hK _ ?_; clear hK K)
    all_goals
      refine AW_block ?_
      refine AW_loopS (fun mM sS => ∃ (i : Nat), mM = u.fList.length - i ∧ (i ≤ u.fList.length ∧ ∀ j x, j < i → u.fList[j]? = some x → UpAt u.fList u.fEpoch j x) ∧ sS = { env := lkE [(1, .ptr 32 0), (8, .sl 3 (u.fList.map DtUp.cells)), (9, (.g (.int .i64 ((u.fList.length : Nat))))), (10, (.g (.int .i64 ((i : Nat)))))], ob := lk [(32, .cells (DtUps.cells u))] }) ?_ ?_
      · refine ⟨_, LeS.ko [(1, .ptr 32 0), (8, .sl 3 (u.fList.map DtUp.cells)), (9, (.g (.int .i64 ((u.fList.length : Nat))))), (10, (.g (.int .i64 (((0) : Nat)))))] [(32, .cells (DtUps.cells u))] (by simp [KpE, upd_app, lkE_app, lk_cons, DtUps.cells, DtUp.cells]; try rfl) (by simp [KpO, upd_app, lk_cons, lk_nil, formOb_nn, DtUps.cells, DtUp.cells]; try rfl) (by rfl) (by simp) (by rfl), _, 0, rfl, ?_, rfl⟩
        · simp
      · rintro mM sS ⟨i, rfl, ⟨hi, hpre⟩, rfl⟩
        refine AW_r rfl rfl fun K hK => ?_
        simp (disch := omega) [wrap64, List.getElem?_eq_getElem, toNat_pred, DtUps.cells, DtUp.cells, DtUps.cells, DtUp.cells]
        repeat' first | (exfalso; omega) | (refine ⟨fun _ => ?_, fun _ => ?_⟩) | (refine ⟨by omega, ?_⟩) | (intro _)
        all_goals (refine hK _ ?_; clear hK K)
        all_goals
          refine AW_seq ?_
          refine AW_cond rfl (fun hc6 => ?_) (fun hc6 => ?_)
          · try simp at hc6
            all_goals
              have hg : u.fList[i]? = some (u.fList[i]) := List.getElem?_eq_getElem (by omega)
              have hg' : u.fList[i - 1]? = some (u.fList[i - 1]) := List.getElem?_eq_getElem (by omega)
              rcases Nat.eq_zero_or_pos i with hi0 | hi0
              all_goals
                refine AW_skip ?_
                refine AW_id ?_
                refine AW_seq ?_
                refine AW_block ?_
                refine AW_r rfl rfl fun K hK => ?_
                simp (disch := omega) [wrap64, List.getElem?_eq_getElem, toNat_pred, DtUps.cells, DtUp.cells, DtUps.cells, DtUp.cells]
                repeat' first | (exfalso; omega) | (refine ⟨fun _ => ?_, fun _ => ?_⟩) | (refine ⟨by omega, ?_⟩) | (intro _)
                all_goals (refine hK _ ?_; clear hK K)
                all_goals
                  refine AW_seq ?_
                  refine AW_q rfl mix (by kernel_rfl) rfl fun K hK => ?_
                  simp (disch := omega) [wrap64, List.getElem?_eq_getElem, toNat_pred, DtUps.cells, DtUp.cells, DtUps.cells, DtUp.cells]
                  repeat' first | (exfalso; omega) | (refine CKd_v (am2s_cons am2_g (am2s_cons am2_g (am2s_cons am2_g am2s_nil))) (within _ _ _) rfl ?_; simp (disch := omega) [wrap64, List.getElem?_eq_getElem, toNat_pred, DtUps.cells, DtUp.cells, DtUps.cells, DtUp.cells]) | (refine ⟨fun _ => ?_, fun _ => ?_⟩) | (refine ⟨by omega, ?_⟩) | (intro _)
                  all_goals (refine hK _ ?_; clear hK K)
                  all_goals
                    refine AW_cond rfl (fun hc7 => ?_) (fun hc7 => ?_)
                    · try simp at hc7
                      all_goals
                        refine AW_r rfl rfl fun K hK => ?_
                        simp (disch := omega) [wrap64, List.getElem?_eq_getElem, toNat_pred, DtUps.cells, DtUp.cells, DtUps.cells, DtUp.cells]
                        repeat' first | (exfalso; omega) | (refine ⟨fun _ => ?_, fun _ => ?_⟩) | (refine ⟨by omega, ?_⟩) | (intro _)
                        all_goals (refine hK _ ?_; clear hK K)
                        all_goals
                          refine AW_ret (end_s ?_)
                          simp (disch := omega) [wrap64, List.getElem?_eq_getElem, toNat_pred, DtUps.cells, DtUp.cells, DtUps.cells, DtUp.cells]
                          all_goals first | (refine decB_f fun h => ?_; grind [UpsOkP, UpAt, NodeAt]) | (refine decB_t ?_; grind [UpsOkP, UpAt, NodeAt]) | (rw [Bool.eq_iff_iff, decB_true]; grind [UpsOkP, UpAt, NodeAt])
                    · try simp at hc7
                      all_goals
                        refine AW_skip ?_
                        refine AW_id ?_
                        refine AW_r rfl rfl fun K hK => ?_
                        simp (disch := omega) [wrap64, List.getElem?_eq_getElem, toNat_pred, DtUps.cells, DtUp.cells, DtUps.cells, DtUp.cells]
                        repeat' first | (exfalso; omega) | (refine ⟨fun _ => ?_, fun _ => ?_⟩) | (refine ⟨by omega, ?_⟩) | (intro _)
                        all_goals (refine hK _ ?_; clear hK K)
                        all_goals
                          refine AW_block ?_
                          refine AW_loopS (fun mM sS => ∃ (k : Nat), mM = (u.fList[i]).fNodes.length - k ∧ (k ≤ (u.fList[i]).fNodes.length ∧ ∀ j n, j < k → (u.fList[i]).fNodes[j]? = some n → NodeAt (u.fList[i]).fNodes j n) ∧ sS = { env := lkE [(1, .ptr 32 0), (8, .sl 3 (u.fList.map DtUp.cells)), (9, (.g (.int .i64 ((u.fList.length : Nat))))), (10, (.g (.int .i64 ((i : Nat))))), (3, (.g (.int .i64 ((i : Nat))))), (4, .ptr 80 0), (50, .sl 1 ((u.fList[i]).fNodes.map cI)), (51, (.g (.int .i64 (((u.fList[i]).fNodes.length : Nat))))), (52, (.g (.int .i64 ((k : Nat)))))], ob := lk [(32, .cells (DtUps.cells u)), (80, .cells (DtUp.cells u.fList[i]))] }) ?_ ?_
                          · refine ⟨_, LeS.ko [(1, .ptr 32 0), (8, .sl 3 (u.fList.map DtUp.cells)), (9, (.g (.int .i64 ((u.fList.length : Nat))))), (10, (.g (.int .i64 ((i : Nat))))), (3, (.g (.int .i64 ((i : Nat))))), (4, .ptr 80 0), (50, .sl 1 ((u.fList[i]).fNodes.map cI)), (51, (.g (.int .i64 (((u.fList[i]).fNodes.length : Nat))))), (52, (.g (.int .i64 (((0) : Nat)))))] [(32, .cells (DtUps.cells u)), (80, .cells (DtUp.cells u.fList[i]))] (by simp [KpE, upd_app, lkE_app, lk_cons, DtUps.cells, DtUp.cells]; try rfl) (by simp [KpO, upd_app, lk_cons, lk_nil, formOb_nn, DtUps.cells, DtUp.cells]; try rfl) (by rfl) (by simp) (by rfl), _, 0, rfl, ?_, rfl⟩
                            · simp
                          · rintro mM sS ⟨k, rfl, ⟨hk, hkre⟩, rfl⟩
                            have hl3 : (u.fList[i]).fNodes.length ≤ 1048576 := hl2 i (by omega)
                            refine AW_r rfl rfl fun K hK => ?_
                            simp (disch := omega) [wrap64, List.getElem?_eq_getElem, toNat_pred, DtUps.cells, DtUp.cells, DtUps.cells, DtUp.cells, cI]
                            repeat' first | (exfalso; omega) | (refine ⟨fun _ => ?_, fun _ => ?_⟩) | (refine ⟨by omega, ?_⟩) | (intro _)
                            all_goals (refine hK _ ?_; clear hK K)
                            all_goals
                              refine AW_seq ?_
                              refine AW_cond rfl (fun hc8 => ?_) (fun hc8 => ?_)
                              · try simp at hc8
                                all_goals
                                  have hg2 : (u.fList[i]).fNodes[k]? = some ((u.fList[i]).fNodes[k]) := List.getElem?_eq_getElem (by omega)
                                  have hg2' : (u.fList[i]).fNodes[k - 1]? = some ((u.fList[i]).fNodes[k - 1]) := List.getElem?_eq_getElem (by omega)
                                  rcases Nat.eq_zero_or_pos k with hk0 | hk0
                                  all_goals
                                    refine AW_skip ?_
                                    refine AW_id ?_
                                    refine AW_seq ?_
                                    refine AW_block ?_
                                    refine AW_r rfl rfl fun K hK => ?_
                                    simp (disch := omega) [wrap64, List.getElem?_eq_getElem, toNat_pred, DtUps.cells, DtUp.cells, DtUps.cells, DtUp.cells, cI]
                                    repeat' first | (exfalso; omega) | (refine ⟨fun _ => ?_, fun _ => ?_⟩) | (refine ⟨by omega, ?_⟩) | (intro _)
                                    all_goals (refine hK _ ?_; clear hK K)
                                    all_goals
                                      refine AW_r rfl rfl fun K hK => ?_
                                      simp (disch := omega) [wrap64, List.getElem?_eq_getElem, toNat_pred, DtUps.cells, DtUp.cells, DtUps.cells, DtUp.cells, cI]
                                      repeat' first | (exfalso; omega) | (refine CKd_v (am2s_cons am2_g am2s_nil) (isRep _) rfl ?_; simp (disch := omega) [wrap64, List.getElem?_eq_getElem, toNat_pred, DtUps.cells, DtUp.cells, DtUps.cells, DtUp.cells, cI]) | (refine ⟨fun _ => ?_, fun _ => ?_⟩) | (refine ⟨by omega, ?_⟩) | (intro _)
                                      all_goals (refine hK _ ?_; clear hK K)
                                      all_goals
                                        refine AW_cond rfl (fun hc9 => ?_) (fun hc9 => ?_)
                                        · try simp at hc9
                                          all_goals
                                            refine AW_r rfl rfl fun K hK => ?_
                                            simp (disch := omega) [wrap64, List.getElem?_eq_getElem, toNat_pred, DtUps.cells, DtUp.cells, DtUps.cells, DtUp.cells, cI]
                                            repeat' first | (exfalso; omega) | (refine ⟨fun _ => ?_, fun _ => ?_⟩) | (refine ⟨by omega, ?_⟩) | (intro _)
                                            all_goals (refine hK _ ?_; clear hK K)
                                            all_goals
                                              refine AW_ret (end_s ?_)
                                              simp (disch := omega) [wrap64, List.getElem?_eq_getElem, toNat_pred, DtUps.cells, DtUp.cells, DtUps.cells, DtUp.cells, cI]
                                              all_goals first | (refine decB_f fun h => ?_; grind [UpsOkP, UpAt, NodeAt]) | (refine decB_t ?_; grind [UpsOkP, UpAt, NodeAt]) | (rw [Bool.eq_iff_iff, decB_true]; grind [UpsOkP, UpAt, NodeAt])
                                        · try simp at hc9
                                          all_goals
                                            refine AW_skip ?_
                                            refine AW_id ?_
                                            refine AW_re rfl rfl fun K hK => ?_
                                            simp (disch := omega) [wrap64, List.getElem?_eq_getElem, toNat_pred, DtUps.cells, DtUp.cells, DtUps.cells, DtUp.cells, cI]
                                            repeat' first | (exfalso; omega) | (refine ⟨fun _ => ?_, fun _ => ?_⟩) | (refine ⟨by omega, ?_⟩) | (intro _)
                                            all_goals (refine hK _ ?_; clear hK K)
                                            all_goals
                                              refine ⟨_, LeS.ko [(1, .ptr 32 0), (8, .sl 3 (u.fList.map DtUp.cells)), (9, (.g (.int .i64 ((u.fList.length : Nat))))), (10, (.g (.int .i64 ((i : Nat))))), (3, (.g (.int .i64 ((i : Nat))))), (4, .ptr 80 0), (50, .sl 1 ((u.fList[i]).fNodes.map cI)), (51, (.g (.int .i64 (((u.fList[i]).fNodes.length : Nat))))), (52, (.g (.int .i64 (((k + 1) : Nat)))))] [(32, .cells (DtUps.cells u)), (80, .cells (DtUp.cells u.fList[i]))] (by simp [KpE, upd_app, lkE_app, lk_cons, DtUps.cells, DtUp.cells]; try rfl) (by simp [KpO, upd_app, lk_cons, lk_nil, formOb_nn, DtUps.cells, DtUp.cells]; try rfl) (by rfl) (by simp) (by rfl), _, ?_, k + 1, rfl, ?_, rfl⟩
                                              · omega
                                              · refine ⟨by omega, fun j x hj hx => ?_⟩
                                                by_cases hji : j = k
                                                · subst hji; clear hs hl hl2; grind [UpAt, NodeAt]
                                                · exact hkre j x (by omega) hx
                              · try simp at hc8
                                all_goals
                                  refine AW_exit ?_
                                  refine AW_id ?_
                                  refine AW_re rfl rfl fun K hK => ?_
                                  simp (disch := omega) [wrap64, List.getElem?_eq_getElem, toNat_pred, DtUps.cells, DtUp.cells, DtUps.cells, DtUp.cells, cI]
                                  repeat' first | (exfalso; omega) | (refine ⟨fun _ => ?_, fun _ => ?_⟩) | (refine ⟨by omega, ?_⟩) | (intro _)
                                  all_goals (refine hK _ ?_; clear hK K)
                                  all_goals
                                    refine ⟨_, LeS.ko [(1, .ptr 32 0), (8, .sl 3 (u.fList.map DtUp.cells)), (9, (.g (.int .i64 ((u.fList.length : Nat))))), (10, (.g (.int .i64 (((i + 1) : Nat)))))] [(32, .cells (DtUps.cells u))] (by simp [KpE, upd_app, lkE_app, lk_cons, DtUps.cells, DtUp.cells]; try rfl) (by simp [KpO, upd_app, lk_cons, lk_nil, formOb_nn, DtUps.cells, DtUp.cells]; try rfl) (by rfl) (by simp) (by rfl), _, ?_, i + 1, rfl, ?_, rfl⟩
                                    · omega
                                    · refine ⟨by omega, fun j x hj hx => ?_⟩
                                      by_cases hji : j = i
                                      · subst hji; clear hs hl hl2; grind [UpAt, NodeAt]
                                      · exact hpre j x (by omega) hx
          · try simp at hc6
            all_goals
              have hi2 : i = u.fList.length := by omega
              subst hi2
              refine AW_exit ?_
              refine AW_id ?_
              refine AW_r rfl rfl fun K hK => ?_
              simp (disch := omega) [wrap64, List.getElem?_eq_getElem, toNat_pred, DtUps.cells, DtUp.cells, DtUps.cells, DtUp.cells]
              repeat' first | (exfalso; omega) | (refine CKd_v (am2s_cons am2_g (am2s_cons am2_g (am2s_cons am2_g am2s_nil))) (within _ _ _) rfl ?_; simp (disch := omega) [wrap64, List.getElem?_eq_getElem, toNat_pred, DtUps.cells, DtUp.cells, DtUps.cells, DtUp.cells]) | (refine ⟨fun _ => ?_, fun _ => ?_⟩) | (refine ⟨by omega, ?_⟩) | (intro _)
              all_goals (refine hK _ ?_; clear hK K)
              all_goals
                refine AW_ret (end_s ?_)
                simp (disch := omega) [wrap64, List.getElem?_eq_getElem, toNat_pred, DtUps.cells, DtUp.cells, DtUps.cells, DtUp.cells]
                all_goals first | (refine decB_f fun h => ?_; grind [UpsOkP, UpAt, NodeAt]) | (refine decB_t ?_; grind [UpsOkP, UpAt, NodeAt]) | (rw [Bool.eq_iff_iff, decB_true]; grind [UpsOkP, UpAt, NodeAt])
end Go.Proofs.Ytcedomdpbgjbpaa.Vs
