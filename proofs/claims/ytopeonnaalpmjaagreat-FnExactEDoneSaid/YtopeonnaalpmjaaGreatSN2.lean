import Derived.Test.YtopeonnaalpmjaaGreatSN1
open Go Go.Proofs Go.Proofs.YtopeonnaalpmjaaGreat.Vs
namespace Go.Proofs.YtopeonnaalpmjaaGreat.Vs
set_option linter.unusedVariables false
set_option linter.unusedSimpArgs false
set_option linter.unusedSectionVars false
set_option linter.unnecessarySimpa false
set_option linter.all false
set_option linter.unusedSimpArgs false
set_option linter.unusedVariables false
set_option maxRecDepth 100000
def MsgSm (x : DtEMsg) : Prop := x.fDeps.length ≤ 1048576 ∧ x.fCmd.fChunks.length ≤ 1048576
theorem l11Has (xs : List DtEMsg) (m : DtEMsg) (hn : xs.length ≤ 1048576) (hm : ∀ x ∈ xs, MsgSm x) : PCall Tryz.prog 23 [.sl 19 (xs.map DtEMsg.cells), .agg (DtEMsg.cells m)] (.g (.bool (decB (m ∈ xs)))) := by
  refine gcall_of_walk Tryz.func23 (by rfl) (by rfl) (by rw [Tryz.ntmps23]; exact Nat.le_of_ble_eq_true rfl) rfl (by decide) ?_
  rw [Tryz.ntmps23]
  refine AW_k [(0, _), (1, _)] ⟨rfl, rfl, trivial⟩ ?_
  refine AW_r rfl rfl fun K hK => ?_
  simp (disch := omega) [wrap64, List.getElem?_eq_getElem, toNat_pred, DtEMsg.cells]
  repeat' first | (exfalso; omega) | (refine ⟨fun _ => ?_, fun _ => ?_⟩) | (refine ⟨by omega, ?_⟩) | (intro _)
  all_goals (refine hK _ ?_; clear hK K)
  all_goals
    refine AW_seq ?_
    refine AW_r rfl rfl fun K hK => ?_
    simp (disch := omega) [wrap64, List.getElem?_eq_getElem, toNat_pred, DtEMsg.cells]
    repeat' first | (exfalso; omega) | (refine ⟨fun _ => ?_, fun _ => ?_⟩) | (refine ⟨by omega, ?_⟩) | (intro _)
    all_goals (refine hK _ ?_; clear hK K)
    all_goals
      refine AW_block ?_
      refine AW_loopS (fun mM sS => ∃ (i : Nat), mM = xs.length - i ∧ (i ≤ xs.length ∧ ∀ (j : Nat) y, j < i → xs[j]? = some y → ¬ y = m) ∧ sS = { env := lkE [(0, .sl 19 (xs.map DtEMsg.cells)), (3, .ptr 64 0), (5, (.g (.int .i64 ((i : Nat)))))], ob := lk [(64, .cells (DtEMsg.cells m))] }) ?_ ?_
      · refine ⟨_, LeS.ko [(0, .sl 19 (xs.map DtEMsg.cells)), (3, .ptr 64 0), (5, (.g (.int .i64 (((0) : Nat)))))] [(64, .cells (DtEMsg.cells m))] (by simp [KpE, upd_app, lkE_app, lk_cons, DtEMsg.cells]; try rfl) (by simp [KpO, upd_app, lk_cons, lk_nil, formOb_nn, DtEMsg.cells]; try rfl) (by rfl) (by simp) (by rfl), _, 0, rfl, ?_, rfl⟩
        · simp
      · rintro mM sS ⟨i, rfl, ⟨hi, hpre⟩, rfl⟩
        refine AW_seq ?_
        refine AW_r rfl rfl fun K hK => ?_
        simp (disch := omega) [wrap64, List.getElem?_eq_getElem, toNat_pred, DtEMsg.cells]
        repeat' first | (exfalso; omega) | (refine ⟨fun _ => ?_, fun _ => ?_⟩) | (refine ⟨by omega, ?_⟩) | (intro _)
        all_goals (refine hK _ ?_; clear hK K)
        all_goals
          refine AW_cond rfl (fun hc1 => ?_) (fun hc1 => ?_)
          · try simp [decB_true, decB_false, eqB_true, eqB_false, cmpI_lt, cmpI_ge] at hc1
            all_goals
              have hg : xs[i]? = some xs[i] := List.getElem?_eq_getElem (by omega)
              obtain ⟨hx1, hx2⟩ := hm _ (List.getElem_mem (n := i) (h := by omega))
              refine AW_skip ?_
              refine AW_id ?_
              refine AW_seq ?_
              refine AW_block ?_
              refine AW_q rfl mix (by kernel_rfl) rfl fun K hK => ?_
              simp (disch := omega) [wrap64, List.getElem?_eq_getElem, toNat_pred, DtEMsg.cells]
              repeat' first | (exfalso; omega) | (refine CKd_v (am2s_cons (am2_agg rfl) (am2s_cons (am2_agg rfl) am2s_nil)) (specSameMsg _ _ (by assumption) (by assumption)) rfl ?_; simp (disch := omega) [wrap64, List.getElem?_eq_getElem, toNat_pred, DtEMsg.cells]) | (refine ⟨fun _ => ?_, fun _ => ?_⟩) | (refine ⟨by omega, ?_⟩) | (intro _)
              all_goals (refine hK _ ?_; clear hK K)
              all_goals
                refine AW_cond rfl (fun hc2 => ?_) (fun hc2 => ?_)
                · try simp [decB_true, decB_false, eqB_true, eqB_false, cmpI_lt, cmpI_ge] at hc2
                  all_goals
                    refine AW_r rfl rfl fun K hK => ?_
                    simp (disch := omega) [wrap64, List.getElem?_eq_getElem, toNat_pred, DtEMsg.cells]
                    repeat' first | (exfalso; omega) | (refine ⟨fun _ => ?_, fun _ => ?_⟩) | (refine ⟨by omega, ?_⟩) | (intro _)
                    all_goals (refine hK _ ?_; clear hK K)
                    all_goals
                      refine AW_ret (end_s ?_)
                      simp (disch := omega) [wrap64, List.getElem?_eq_getElem, toNat_pred, DtEMsg.cells]
                      all_goals first | (refine decB_f fun h => ?_; obtain ⟨j, hj⟩ := List.getElem?_of_mem h; exact hpre j m (by have := (List.getElem?_eq_some_iff.1 hj).1; omega) hj rfl) | (refine decB_t ?_; exact List.mem_of_getElem? (hg.trans (by congr)))
                · try simp [decB_true, decB_false, eqB_true, eqB_false, cmpI_lt, cmpI_ge] at hc2
                  all_goals
                    refine AW_skip ?_
                    refine AW_id ?_
                    refine AW_re rfl rfl fun K hK => ?_
                    simp (disch := omega) [wrap64, List.getElem?_eq_getElem, toNat_pred, DtEMsg.cells]
                    repeat' first | (exfalso; omega) | (refine ⟨fun _ => ?_, fun _ => ?_⟩) | (refine ⟨by omega, ?_⟩) | (intro _)
                    all_goals (refine hK _ ?_; clear hK K)
                    all_goals
                      refine ⟨_, LeS.ko [(0, .sl 19 (xs.map DtEMsg.cells)), (3, .ptr 64 0), (5, (.g (.int .i64 (((i + 1) : Nat)))))] [(64, .cells (DtEMsg.cells m))] (by simp [KpE, upd_app, lkE_app, lk_cons, DtEMsg.cells]; try rfl) (by simp [KpO, upd_app, lk_cons, lk_nil, formOb_nn, DtEMsg.cells]; try rfl) (by rfl) (by simp) (by rfl), _, ?_, i + 1, rfl, ?_, rfl⟩
                      · omega
                      · refine ⟨by omega, fun j x hj hx => ?_⟩
                        by_cases hji : j = i
                        · subst hji; rw [hg] at hx; cases hx; assumption
                        · exact hpre j x (by omega) hx
          · try simp [decB_true, decB_false, eqB_true, eqB_false, cmpI_lt, cmpI_ge] at hc1
            all_goals
              refine AW_exit ?_
              refine AW_id ?_
              refine AW_r rfl rfl fun K hK => ?_
              simp (disch := omega) [wrap64, List.getElem?_eq_getElem, toNat_pred, DtEMsg.cells]
              repeat' first | (exfalso; omega) | (refine ⟨fun _ => ?_, fun _ => ?_⟩) | (refine ⟨by omega, ?_⟩) | (intro _)
              all_goals (refine hK _ ?_; clear hK K)
              all_goals
                refine AW_ret (end_s ?_)
                simp (disch := omega) [wrap64, List.getElem?_eq_getElem, toNat_pred, DtEMsg.cells]
                all_goals first | (refine decB_f fun h => ?_; obtain ⟨j, hj⟩ := List.getElem?_of_mem h; exact hpre j m (by have := (List.getElem?_eq_some_iff.1 hj).1; omega) hj rfl) | (refine decB_t ?_; exact List.mem_of_getElem? (hg.trans (by congr)))
theorem hasMsg1 (x m : DtEMsg) (hd : x.fDeps.length ≤ 1048576) (hc : x.fCmd.fChunks.length ≤ 1048576) : GCall Tryz.prog 62 [.agg (DtEMsg.cells x), .ptr 0 0] [DtEMsg.cells m] [] (.g (.bool (eqB x m))) [] := by
  refine gcall_of_walk Tryz.func62 (by rfl) (by rfl) (by rw [Tryz.ntmps62]; exact Nat.le_of_ble_eq_true rfl) rfl (by decide) ?_
  rw [Tryz.ntmps62]
  refine AW_k [(0, _), (1, _)] ⟨rfl, rfl, trivial⟩ ?_
  refine AW_r rfl rfl fun K hK => ?_
  simp [DtEMsg.cells]
  repeat' first | (refine ⟨fun _ => ?_, fun _ => ?_⟩) | (refine ⟨by omega, ?_⟩) | (intro _)
  all_goals (refine hK _ ?_; clear hK K)
  all_goals
    refine AW_r rfl rfl fun K hK => ?_
    simp [DtEMsg.cells]
    repeat' first | (refine CKd_v (am2s_cons (am2_agg rfl) (am2s_cons (am2_agg rfl) am2s_nil)) (implSameMsg _ _ (by assumption) (by assumption)) rfl ?_; simp [DtEMsg.cells]) | (refine ⟨fun _ => ?_, fun _ => ?_⟩) | (refine ⟨by omega, ?_⟩) | (intro _)
    all_goals (refine hK _ ?_; clear hK K)
    all_goals
      refine AW_ret (end_s ?_)
      simp [DtEMsg.cells]
      all_goals first | omega | (simp_all; done) | (simp [List.take_of_length_le]; done) | ((try simp_all); (try simp (disch := omega) only [wrap64, Int.tdiv_eq_ediv_of_nonneg, Int.tmod_eq_emod_of_nonneg, and_true, true_and]); done) | ((try simp_all); (try simp (disch := omega) only [wrap64, Int.tdiv_eq_ediv_of_nonneg, Int.tmod_eq_emod_of_nonneg, and_true, true_and] at *); omega)
theorem indexFuncMsg {F : FuncId} {m : DtEMsg} {p : DtEMsg → Bool} (xs : List DtEMsg) (hn : xs.length ≤ 1048576) (hf : ∀ x ∈ xs, GCall Tryz.prog F [.agg (DtEMsg.cells x), .ptr 0 0] [DtEMsg.cells m] [] (.g (.bool (p x))) []) : GCall Tryz.prog 93 [.sl 19 (xs.map DtEMsg.cells), .fn F [] [.ptr 0 0]] [DtEMsg.cells m] [] (.g (.int .i64 (idxZ p xs))) [] := by
  refine gcall_of_walk Tryz.func93 (by rfl) (by rfl) (by rw [Tryz.ntmps93]; exact Nat.le_of_ble_eq_true rfl) rfl (by decide) ?_
  rw [Tryz.ntmps93]
  refine AW_k [(0, _), (1, _)] ⟨rfl, rfl, trivial⟩ ?_
  refine AW_r rfl rfl fun K hK => ?_
  simp (disch := omega) [wrap64, List.getElem?_eq_getElem, toNat_pred, DtEMsg.cells]
  repeat' first | (exfalso; omega) | (refine CKd_r1 0 (.inr rfl) (am1s_plain (DtEMsg.cells m) rfl) (am2s_cons (am2_agg rfl) (am2s_cons am2_ptr0 am2s_nil)) (hf _ hmi) rfl ?_; simp (disch := omega) [wrap64, List.getElem?_eq_getElem, toNat_pred, DtEMsg.cells]) | (refine ⟨fun _ => ?_, fun _ => ?_⟩) | (refine ⟨by omega, ?_⟩) | (intro _)
  all_goals (refine hK _ ?_; clear hK K)
  all_goals
    refine AW_seq ?_
    refine AW_r rfl rfl fun K hK => ?_
    simp (disch := omega) [wrap64, List.getElem?_eq_getElem, toNat_pred, DtEMsg.cells]
    repeat' first | (exfalso; omega) | (refine CKd_r1 0 (.inr rfl) (am1s_plain (DtEMsg.cells m) rfl) (am2s_cons (am2_agg rfl) (am2s_cons am2_ptr0 am2s_nil)) (hf _ hmi) rfl ?_; simp (disch := omega) [wrap64, List.getElem?_eq_getElem, toNat_pred, DtEMsg.cells]) | (refine ⟨fun _ => ?_, fun _ => ?_⟩) | (refine ⟨by omega, ?_⟩) | (intro _)
    all_goals (refine hK _ ?_; clear hK K)
    all_goals
      refine AW_block ?_
      refine AW_loopS (fun mM sS => ∃ (i : Nat), mM = xs.length - i ∧ (i ≤ xs.length ∧ ∀ j x, j < i → xs[j]? = some x → p x = false) ∧ sS = { env := lkE [(0, .sl 19 (xs.map DtEMsg.cells)), (1, .fn F [] [.ptr 0 0]), (6, .sl 19 (xs.map DtEMsg.cells)), (7, (.g (.int .i64 ((xs.length : Nat))))), (8, (.g (.int .i64 ((i : Nat)))))], ob := formOb [DtEMsg.cells m] [] }) ?_ ?_
      · refine ⟨_, LeS.kp [(0, .sl 19 (xs.map DtEMsg.cells)), (1, .fn F [] [.ptr 0 0]), (6, .sl 19 (xs.map DtEMsg.cells)), (7, (.g (.int .i64 ((xs.length : Nat))))), (8, (.g (.int .i64 (((0) : Nat)))))] (by simp [KpE, upd_app, lkE_app, lk_cons]; try rfl), _, 0, rfl, ?_, rfl⟩
        · simp
      · rintro mM sS ⟨i, rfl, ⟨hi, hpre⟩, rfl⟩
        refine AW_r rfl rfl fun K hK => ?_
        simp (disch := omega) [wrap64, List.getElem?_eq_getElem, toNat_pred, DtEMsg.cells]
        repeat' first | (exfalso; omega) | (refine CKd_r1 0 (.inr rfl) (am1s_plain (DtEMsg.cells m) rfl) (am2s_cons (am2_agg rfl) (am2s_cons am2_ptr0 am2s_nil)) (hf _ hmi) rfl ?_; simp (disch := omega) [wrap64, List.getElem?_eq_getElem, toNat_pred, DtEMsg.cells]) | (refine ⟨fun _ => ?_, fun _ => ?_⟩) | (refine ⟨by omega, ?_⟩) | (intro _)
        all_goals (refine hK _ ?_; clear hK K)
        all_goals
          refine AW_seq ?_
          refine AW_cond rfl (fun hc3 => ?_) (fun hc3 => ?_)
          · try simp [decB_true, decB_false, eqB_true, eqB_false, cmpI_lt, cmpI_ge] at hc3
            all_goals
              have hg : xs[i]? = some (xs[i]) := List.getElem?_eq_getElem (by omega)
              have hmi := List.getElem_mem (l := xs) (n := i) (h := by omega)
              refine AW_skip ?_
              refine AW_id ?_
              refine AW_seq ?_
              refine AW_block ?_
              refine AW_r rfl rfl fun K hK => ?_
              simp (disch := omega) [wrap64, List.getElem?_eq_getElem, toNat_pred, DtEMsg.cells]
              repeat' first | (exfalso; omega) | (refine CKd_r1 0 (.inr rfl) (am1s_plain (DtEMsg.cells m) rfl) (am2s_cons (am2_agg rfl) (am2s_cons am2_ptr0 am2s_nil)) (hf _ hmi) rfl ?_; simp (disch := omega) [wrap64, List.getElem?_eq_getElem, toNat_pred, DtEMsg.cells]) | (refine ⟨fun _ => ?_, fun _ => ?_⟩) | (refine ⟨by omega, ?_⟩) | (intro _)
              all_goals (refine hK _ ?_; clear hK K)
              all_goals
                refine AW_r rfl rfl fun K hK => ?_
                simp (disch := omega) [wrap64, List.getElem?_eq_getElem, toNat_pred, DtEMsg.cells]
                repeat' first | (exfalso; omega) | (refine CKd_r1 0 (.inr rfl) (am1s_plain (DtEMsg.cells m) rfl) (am2s_cons (am2_agg rfl) (am2s_cons am2_ptr0 am2s_nil)) (hf _ hmi) rfl ?_; simp (disch := omega) [wrap64, List.getElem?_eq_getElem, toNat_pred, DtEMsg.cells]) | (refine ⟨fun _ => ?_, fun _ => ?_⟩) | (refine ⟨by omega, ?_⟩) | (intro _)
                all_goals (refine hK _ ?_; clear hK K)
                all_goals
                  refine AW_cond rfl (fun hc4 => ?_) (fun hc4 => ?_)
                  · try simp [decB_true, decB_false, eqB_true, eqB_false, cmpI_lt, cmpI_ge] at hc4
                    all_goals
                      refine AW_r rfl rfl fun K hK => ?_
                      simp (disch := omega) [wrap64, List.getElem?_eq_getElem, toNat_pred, DtEMsg.cells]
                      repeat' first | (exfalso; omega) | (refine CKd_r1 0 (.inr rfl) (am1s_plain (DtEMsg.cells m) rfl) (am2s_cons (am2_agg rfl) (am2s_cons am2_ptr0 am2s_nil)) (hf _ hmi) rfl ?_; simp (disch := omega) [wrap64, List.getElem?_eq_getElem, toNat_pred, DtEMsg.cells]) | (refine ⟨fun _ => ?_, fun _ => ?_⟩) | (refine ⟨by omega, ?_⟩) | (intro _)
                      all_goals (refine hK _ ?_; clear hK K)
                      all_goals
                        refine AW_ret (end_s ?_)
                        simp (disch := omega) [wrap64, List.getElem?_eq_getElem, toNat_pred, DtEMsg.cells]
                        all_goals first | (exact idxZ_found (by assumption) (by assumption) hpre) | (exact idxZ_none (fun j x h => hpre j x (by omega)))
                  · try simp [decB_true, decB_false, eqB_true, eqB_false, cmpI_lt, cmpI_ge] at hc4
                    all_goals
                      refine AW_skip ?_
                      refine AW_id ?_
                      refine AW_re rfl rfl fun K hK => ?_
                      simp (disch := omega) [wrap64, List.getElem?_eq_getElem, toNat_pred, DtEMsg.cells]
                      repeat' first | (exfalso; omega) | (refine CKd_r1 0 (.inr rfl) (am1s_plain (DtEMsg.cells m) rfl) (am2s_cons (am2_agg rfl) (am2s_cons am2_ptr0 am2s_nil)) (hf _ hmi) rfl ?_; simp (disch := omega) [wrap64, List.getElem?_eq_getElem, toNat_pred, DtEMsg.cells]) | (refine ⟨fun _ => ?_, fun _ => ?_⟩) | (refine ⟨by omega, ?_⟩) | (intro _)
                      all_goals (refine hK _ ?_; clear hK K)
                      all_goals
                        refine ⟨_, LeS.kp [(0, .sl 19 (xs.map DtEMsg.cells)), (1, .fn F [] [.ptr 0 0]), (6, .sl 19 (xs.map DtEMsg.cells)), (7, (.g (.int .i64 ((xs.length : Nat))))), (8, (.g (.int .i64 (((i + 1) : Nat)))))] (by simp [KpE, upd_app, lkE_app, lk_cons]; try rfl), _, ?_, i + 1, rfl, ?_, rfl⟩
                        · omega
                        · refine ⟨by omega, ?_⟩; clear hf; grind
          · try simp [decB_true, decB_false, eqB_true, eqB_false, cmpI_lt, cmpI_ge] at hc3
            all_goals
              refine AW_exit ?_
              refine AW_id ?_
              refine AW_r rfl rfl fun K hK => ?_
              simp (disch := omega) [wrap64, List.getElem?_eq_getElem, toNat_pred, DtEMsg.cells]
              repeat' first | (exfalso; omega) | (refine CKd_r1 0 (.inr rfl) (am1s_plain (DtEMsg.cells m) rfl) (am2s_cons (am2_agg rfl) (am2s_cons am2_ptr0 am2s_nil)) (hf _ hmi) rfl ?_; simp (disch := omega) [wrap64, List.getElem?_eq_getElem, toNat_pred, DtEMsg.cells]) | (refine ⟨fun _ => ?_, fun _ => ?_⟩) | (refine ⟨by omega, ?_⟩) | (intro _)
              all_goals (refine hK _ ?_; clear hK K)
              all_goals
                refine AW_ret (end_s ?_)
                simp (disch := omega) [wrap64, List.getElem?_eq_getElem, toNat_pred, DtEMsg.cells]
                all_goals first | (exact idxZ_found (by assumption) (by assumption) hpre) | (exact idxZ_none (fun j x h => hpre j x (by omega)))
theorem containsFuncMsg {F : FuncId} {m : DtEMsg} {p : DtEMsg → Bool} (xs : List DtEMsg) (hn : xs.length ≤ 1048576) (hf : ∀ x ∈ xs, GCall Tryz.prog F [.agg (DtEMsg.cells x), .ptr 0 0] [DtEMsg.cells m] [] (.g (.bool (p x))) []) : GCall Tryz.prog 61 [.sl 19 (xs.map DtEMsg.cells), .fn F [] [.ptr 0 0]] [DtEMsg.cells m] [] (.g (.bool (decide (0 ≤ idxZ p xs)))) [] := by
  refine gcall_of_walk Tryz.func61 (by rfl) (by rfl) (by rw [Tryz.ntmps61]; exact Nat.le_of_ble_eq_true rfl) rfl (by decide) ?_
  rw [Tryz.ntmps61]
  refine AW_k [(0, _), (1, _)] ⟨rfl, rfl, trivial⟩ ?_
  refine AW_r rfl rfl fun K hK => ?_
  simp [DtEMsg.cells]
  repeat' first | (refine ⟨fun _ => ?_, fun _ => ?_⟩) | (refine ⟨by omega, ?_⟩) | (intro _)
  all_goals (refine hK _ ?_; clear hK K)
  all_goals
    refine AW_r rfl rfl fun K hK => ?_
    simp [DtEMsg.cells]
    repeat' first | (refine CKd_r1 0 (.inr rfl) (am1s_plain (DtEMsg.cells m) rfl) (am2s_cons am2_sl (am2s_cons am2_fn0 am2s_nil)) (indexFuncMsg xs hn hf) rfl ?_; simp [DtEMsg.cells]) | (refine ⟨fun _ => ?_, fun _ => ?_⟩) | (refine ⟨by omega, ?_⟩) | (intro _)
    all_goals (refine hK _ ?_; clear hK K)
    all_goals
      refine AW_ret (end_s ?_)
      simp [DtEMsg.cells]
      all_goals first | omega | (simp_all; done) | (simp [List.take_of_length_le]; done) | ((try simp_all); (try simp (disch := omega) only [wrap64, Int.tdiv_eq_ediv_of_nonneg, Int.tmod_eq_emod_of_nonneg, and_true, true_and]); done) | ((try simp_all); (try simp (disch := omega) only [wrap64, Int.tdiv_eq_ediv_of_nonneg, Int.tmod_eq_emod_of_nonneg, and_true, true_and] at *); omega)
theorem idxZ_mem2 {α : Type} (l : List α) (x : α) : decide (0 ≤ idxZ (fun y => eqB y x) l) = decB (x ∈ l) := by
  rw [Bool.eq_iff_iff, decB_true]
  simp only [decide_eq_true_eq]
  unfold idxZ
  split
  · rename_i i h
    obtain ⟨h1, h2, -⟩ := List.findIdx?_eq_some_iff_getElem.1 h
    rw [eqB_true] at h2
    exact ⟨fun _ => h2 ▸ List.getElem_mem _, fun _ => by omega⟩
  · rename_i h
    rw [List.findIdx?_eq_none_iff] at h
    refine ⟨fun h => by omega, fun hx => ?_⟩
    have := h x hx
    simp [eqB_self] at this
theorem hasMsg (xs : List DtEMsg) (m : DtEMsg) (hn : xs.length ≤ 1048576) (hm : ∀ x ∈ xs, MsgSm x) : PCall Tryz.prog 28 [.sl 19 (xs.map DtEMsg.cells), .agg (DtEMsg.cells m)] (.g (.bool (decB (m ∈ xs)))) := by
  refine gcall_of_walk Tryz.func28 (by rfl) (by rfl) (by rw [Tryz.ntmps28]; exact Nat.le_of_ble_eq_true rfl) rfl (by decide) ?_
  rw [Tryz.ntmps28]
  refine AW_k [(0, _), (1, _)] ⟨rfl, rfl, trivial⟩ ?_
  refine AW_r rfl rfl fun K hK => ?_
  simp [DtEMsg.cells, idxZ_mem2]
  repeat' first | (refine ⟨fun _ => ?_, fun _ => ?_⟩) | (refine ⟨by omega, ?_⟩) | (intro _)
  all_goals (refine hK _ ?_; clear hK K)
  all_goals
    refine AW_r rfl rfl fun K hK => ?_
    simp [DtEMsg.cells, idxZ_mem2]
    repeat' first | (refine CKd_r1 64 (.inl rfl) (am1s_plain (DtEMsg.cells m) rfl) (am2s_cons am2_sl (am2s_cons am2_fn0 am2s_nil)) (containsFuncMsg xs hn (fun x hx => hasMsg1 x m (hm x hx).1 (hm x hx).2)) rfl ?_; simp [DtEMsg.cells, idxZ_mem2]) | (refine ⟨fun _ => ?_, fun _ => ?_⟩) | (refine ⟨by omega, ?_⟩) | (intro _)
    all_goals (refine hK _ ?_; clear hK K)
    all_goals
      refine AW_ret (end_s ?_)
      simp [DtEMsg.cells, idxZ_mem2]
      all_goals first | (exact (idxZ_mem2 xs m).symm) | (rw [idxZ_mem2])
theorem l11HasT (xs : List DtEMsg) (i : Nat) (m : DtEMsg) (hn : xs.length ≤ 1048576) (hm : ∀ x ∈ xs, MsgSm x) : PCall Tryz.prog 23 [.sl 19 ((xs.map DtEMsg.cells).take i), .agg (DtEMsg.cells m)] (.g (.bool (decB (m ∈ xs.take i)))) := by
  rw [← List.map_take]
  exact l11Has _ m (by simp; omega) fun x hx => hm x (List.mem_of_mem_take hx)
theorem hasMsgT (xs : List DtEMsg) (i : Nat) (m : DtEMsg) (hn : xs.length ≤ 1048576) (hm : ∀ x ∈ xs, MsgSm x) : PCall Tryz.prog 28 [.sl 19 ((xs.map DtEMsg.cells).take i), .agg (DtEMsg.cells m)] (.g (.bool (decB (m ∈ xs.take i)))) := by
  rw [← List.map_take]
  exact hasMsg _ m (by simp; omega) fun x hx => hm x (List.mem_of_mem_take hx)
end Go.Proofs.YtopeonnaalpmjaaGreat.Vs
