import Derived.Test.YtpaccfeiaekacaaSCT

open Go Go.Proofs Go.Proofs.Ytpaccfeiaekacaa.Vs
namespace Go.Proofs.Ytpaccfeiaekacaa.Vs
set_option linter.unusedVariables false
set_option linter.unusedSimpArgs false
set_option linter.unusedSectionVars false
set_option linter.unnecessarySimpa false
set_option linter.all false
set_option linter.unusedSimpArgs false
set_option linter.unusedVariables false
theorem szIntS (xs : List Int) (n : Int) (hn : 0 ≤ n ∧ n ≤ 1048576) (hw : (wfS wfI) xs) : PCall Try.prog 73 [.sl 1 (xs.map cI), (.g (.int .i64 (n)))] (.g (.int .i64 (szR n xs.length))) := by
  have hw1 := hw.1
  refine gcall_of_walk Try.func73 (by rfl) (by rfl) (by rw [Try.ntmps73]; exact Nat.le_of_ble_eq_true rfl) rfl (by decide) ?_
  rw [Try.ntmps73]
  refine AW_k [(0, _), (1, _)] ⟨rfl, rfl, trivial⟩ ?_
  refine AW_r rfl rfl fun K hK => ?_
  simp (disch := omega) [wrap64, List.getElem?_eq_getElem, toNat_pred, szR]
  repeat' first | (exfalso; omega) | (refine ⟨fun _ => ?_, fun _ => ?_⟩) | (refine ⟨by omega, ?_⟩) | (intro _)
  all_goals (refine hK _ ?_; clear hK K)
  all_goals
    refine AW_r rfl rfl fun K hK => ?_
    simp (disch := omega) [wrap64, List.getElem?_eq_getElem, toNat_pred, szR]
    repeat' first | (exfalso; omega) | (refine ⟨fun _ => ?_, fun _ => ?_⟩) | (refine ⟨by omega, ?_⟩) | (intro _)
    all_goals (refine hK _ ?_; clear hK K)
    all_goals
      refine AW_seq ?_
      refine AW_r rfl rfl fun K hK => ?_
      simp (disch := omega) [wrap64, List.getElem?_eq_getElem, toNat_pred, szR]
      repeat' first | (exfalso; omega) | (refine ⟨fun _ => ?_, fun _ => ?_⟩) | (refine ⟨by omega, ?_⟩) | (intro _)
      all_goals (refine hK _ ?_; clear hK K)
      all_goals
        refine AW_cond rfl (fun hc1 => ?_) (fun hc1 => ?_)
        · try simp at hc1
          all_goals
            refine AW_r rfl rfl fun K hK => ?_
            simp (disch := omega) [wrap64, List.getElem?_eq_getElem, toNat_pred, szR]
            repeat' first | (exfalso; omega) | (refine ⟨fun _ => ?_, fun _ => ?_⟩) | (refine ⟨by omega, ?_⟩) | (intro _)
            all_goals (refine hK _ ?_; clear hK K)
            all_goals
              refine AW_ret (end_s ?_)
              simp (disch := omega) [wrap64, List.getElem?_eq_getElem, toNat_pred, szR]
              all_goals first | omega | (simp_all; done) | (simp [List.take_of_length_le]; done) | ((try simp_all); (try simp (disch := omega) only [wrap64, Int.tdiv_eq_ediv_of_nonneg, Int.tmod_eq_emod_of_nonneg, and_true, true_and]); done) | ((try simp_all); (try simp (disch := omega) only [wrap64, Int.tdiv_eq_ediv_of_nonneg, Int.tmod_eq_emod_of_nonneg, and_true, true_and] at *); omega)
        · try simp at hc1
          all_goals
            refine AW_skip ?_
            refine AW_id ?_
            refine AW_r rfl rfl fun K hK => ?_
            simp (disch := omega) [wrap64, List.getElem?_eq_getElem, toNat_pred, szR]
            repeat' first | (exfalso; omega) | (refine ⟨fun _ => ?_, fun _ => ?_⟩) | (refine ⟨by omega, ?_⟩) | (intro _)
            all_goals (refine hK _ ?_; clear hK K)
            all_goals
              refine AW_ret (end_s ?_)
              simp (disch := omega) [wrap64, List.getElem?_eq_getElem, toNat_pred, szR]
              all_goals first | omega | (simp_all; done) | (simp [List.take_of_length_le]; done) | ((try simp_all); (try simp (disch := omega) only [wrap64, Int.tdiv_eq_ediv_of_nonneg, Int.tmod_eq_emod_of_nonneg, and_true, true_and]); done) | ((try simp_all); (try simp (disch := omega) only [wrap64, Int.tdiv_eq_ediv_of_nonneg, Int.tmod_eq_emod_of_nonneg, and_true, true_and] at *); omega)
theorem eqIntS (xs ys : List Int) (hs : (xs.length : Int) ≤ 1048576) : PCall Try.prog 13 [.sl 1 (xs.map cI), .sl 1 (ys.map cI)] (.g (.bool (eqB xs ys))) := by
  have hn : xs.length ≤ 1048576 := by omega
  refine gcall_of_walk Try.func13 (by rfl) (by rfl) (by rw [Try.ntmps13]; exact Nat.le_of_ble_eq_true rfl) rfl (by decide) ?_
  rw [Try.ntmps13]
  refine AW_k [(0, _), (1, _)] ⟨rfl, rfl, trivial⟩ ?_
  refine AW_r rfl rfl fun K hK => ?_
  simp (disch := omega) [wrap64, List.getElem?_eq_getElem, toNat_pred]
  repeat' first | (exfalso; omega) | (refine ⟨fun _ => ?_, fun _ => ?_⟩) | (refine ⟨by omega, ?_⟩) | (intro _)
  all_goals (refine hK _ ?_; clear hK K)
  all_goals
    refine AW_seq ?_
    refine AW_r rfl rfl fun K hK => ?_
    simp (disch := omega) [wrap64, List.getElem?_eq_getElem, toNat_pred]
    repeat' first | (exfalso; omega) | (refine ⟨fun _ => ?_, fun _ => ?_⟩) | (refine ⟨by omega, ?_⟩) | (intro _)
    all_goals (refine hK _ ?_; clear hK K)
    all_goals
      refine AW_cond rfl (fun hc3 => ?_) (fun hc3 => ?_)
      · try simp at hc3
        all_goals
          refine AW_r rfl rfl fun K hK => ?_
          simp (disch := omega) [wrap64, List.getElem?_eq_getElem, toNat_pred]
          repeat' first | (exfalso; omega) | (refine ⟨fun _ => ?_, fun _ => ?_⟩) | (refine ⟨by omega, ?_⟩) | (intro _)
          all_goals (refine hK _ ?_; clear hK K)
          all_goals
            refine AW_ret (end_s ?_)
            simp (disch := omega) [wrap64, List.getElem?_eq_getElem, toNat_pred]
            all_goals first | (exact eqB_of heq) | (refine eqB_ne fun heq => ?_; subst heq; simp_all [eqB_true, eqB_false, eqB_self]; done) | (refine (eqB_ne fun heq => ?_).symm; subst heq; simp_all [eqB_true, eqB_false, eqB_self]; done) | simp_all [eqB_self]
      · try simp at hc3
        all_goals
          refine AW_skip ?_
          refine AW_id ?_
          refine AW_seq ?_
          refine AW_r rfl rfl fun K hK => ?_
          simp (disch := omega) [wrap64, List.getElem?_eq_getElem, toNat_pred]
          repeat' first | (exfalso; omega) | (refine ⟨fun _ => ?_, fun _ => ?_⟩) | (refine ⟨by omega, ?_⟩) | (intro _)
          all_goals (refine hK _ ?_; clear hK K)
          all_goals
            refine AW_block ?_
            refine AW_loopS (fun mM sS => ∃ (i : Nat), mM = xs.length - i ∧ (i ≤ xs.length ∧ ∀ j, j < i → xs[j]? = ys[j]?) ∧ sS = { env := lkE [(0, .sl 1 (xs.map cI)), (1, .sl 1 (ys.map cI)), (5, (.g (.int .i64 ((i : Nat)))))], ob := formOb [] [] }) ?_ ?_
            · refine ⟨_, LeS.kp [(0, .sl 1 (xs.map cI)), (1, .sl 1 (ys.map cI)), (5, (.g (.int .i64 (((0) : Nat)))))] (by simp [KpE, upd_app, lkE_app, lk_cons]; try rfl), _, 0, rfl, ?_, rfl⟩
              · simp
            · rintro mM sS ⟨i, rfl, ⟨hi, hpre⟩, rfl⟩
              refine AW_seq ?_
              refine AW_r rfl rfl fun K hK => ?_
              simp (disch := omega) [wrap64, List.getElem?_eq_getElem, toNat_pred, cI]
              repeat' first | (exfalso; omega) | (refine ⟨fun _ => ?_, fun _ => ?_⟩) | (refine ⟨by omega, ?_⟩) | (intro _)
              all_goals (refine hK _ ?_; clear hK K)
              all_goals
                refine AW_cond rfl (fun hc4 => ?_) (fun hc4 => ?_)
                · try simp at hc4
                  all_goals
                    have h7 : i < ys.length := by omega
                    refine AW_skip ?_
                    refine AW_id ?_
                    refine AW_seq ?_
                    refine AW_block ?_
                    refine AW_q rfl mix (by kernel_rfl) rfl fun K hK => ?_
                    simp (disch := omega) [wrap64, List.getElem?_eq_getElem, toNat_pred, cI]
                    repeat' first | (exfalso; omega) | (refine ⟨fun _ => ?_, fun _ => ?_⟩) | (refine ⟨by omega, ?_⟩) | (intro _)
                    all_goals (refine hK _ ?_; clear hK K)
                    all_goals
                      refine AW_cond rfl (fun hc5 => ?_) (fun hc5 => ?_)
                      · try simp at hc5
                        all_goals
                          refine AW_r rfl rfl fun K hK => ?_
                          simp (disch := omega) [wrap64, List.getElem?_eq_getElem, toNat_pred, cI]
                          repeat' first | (exfalso; omega) | (refine ⟨fun _ => ?_, fun _ => ?_⟩) | (refine ⟨by omega, ?_⟩) | (intro _)
                          all_goals (refine hK _ ?_; clear hK K)
                          all_goals
                            refine AW_ret (end_s ?_)
                            simp (disch := omega) [wrap64, List.getElem?_eq_getElem, toNat_pred, cI]
                            all_goals first | (exact eqB_of heq) | (refine eqB_ne fun heq => ?_; subst heq; simp_all [eqB_true, eqB_false, eqB_self]; done) | (refine (eqB_ne fun heq => ?_).symm; subst heq; simp_all [eqB_true, eqB_false, eqB_self]; done) | simp_all [eqB_self]
                      · try simp at hc5
                        all_goals
                          refine AW_skip ?_
                          refine AW_id ?_
                          refine AW_re rfl rfl fun K hK => ?_
                          simp (disch := omega) [wrap64, List.getElem?_eq_getElem, toNat_pred, cI]
                          repeat' first | (exfalso; omega) | (refine ⟨fun _ => ?_, fun _ => ?_⟩) | (refine ⟨by omega, ?_⟩) | (intro _)
                          all_goals (refine hK _ ?_; clear hK K)
                          all_goals
                            refine ⟨_, LeS.kp [(0, .sl 1 (xs.map cI)), (1, .sl 1 (ys.map cI)), (5, (.g (.int .i64 (((i + 1) : Nat)))))] (by simp [KpE, upd_app, lkE_app, lk_cons]; try rfl), _, ?_, i + 1, rfl, ?_, rfl⟩
                            · omega
                            · refine ⟨by omega, fun j hj => ?_⟩
                              by_cases hji : j = i
                              · subst hji; simp_all [eqB_true, eqB_false]
                              · exact hpre j (by omega)
                · try simp at hc4
                  all_goals
                    have hi2 : i = xs.length := by omega
                    subst hi2
                    have heq : xs = ys := List.ext_getElem? fun j => by
                      by_cases hj : j < xs.length
                      · exact hpre j hj
                      · rw [List.getElem?_eq_none (by omega), List.getElem?_eq_none (by omega)]
                    refine AW_exit ?_
                    refine AW_id ?_
                    refine AW_r rfl rfl fun K hK => ?_
                    simp (disch := omega) [wrap64, List.getElem?_eq_getElem, toNat_pred, cI]
                    repeat' first | (exfalso; omega) | (refine ⟨fun _ => ?_, fun _ => ?_⟩) | (refine ⟨by omega, ?_⟩) | (intro _)
                    all_goals (refine hK _ ?_; clear hK K)
                    all_goals
                      refine AW_ret (end_s ?_)
                      simp (disch := omega) [wrap64, List.getElem?_eq_getElem, toNat_pred, cI]
                      all_goals first | (exact eqB_of heq) | (refine eqB_ne fun heq => ?_; subst heq; simp_all [eqB_true, eqB_false, eqB_self]; done) | (refine (eqB_ne fun heq => ?_).symm; subst heq; simp_all [eqB_true, eqB_false, eqB_self]; done) | simp_all [eqB_self]
theorem szUp (u : DtUp) (n : Int) (hn : 0 ≤ n ∧ n ≤ 1048576) (hw : DtUp.wf u) : PCall Try.prog 59 [.agg (DtUp.cells u), (.g (.int .i64 (n)))] (.g (.int .i64 (szR n (DtUp.sz u)))) := by
  have ⟨w0, w1, w2⟩ := hw
  have w02 : u.fChunk.length ≤ 9223372036854775807 := w0
  have w12 := w1.1
  refine gcall_of_walk Try.func59 (by rfl) (by rfl) (by rw [Try.ntmps59]; exact Nat.le_of_ble_eq_true rfl) rfl (by decide) ?_
  rw [Try.ntmps59]
  refine AW_k [(0, _), (1, _)] ⟨rfl, rfl, trivial⟩ ?_
  refine AW_r rfl rfl fun K hK => ?_
  simp (disch := omega) [wrap64, List.getElem?_eq_getElem, toNat_pred, szR, DtUp.cells]
  repeat' first | (exfalso; omega) | (refine ⟨fun _ => ?_, fun _ => ?_⟩) | (refine ⟨by omega, ?_⟩) | (intro _)
  all_goals (refine hK _ ?_; clear hK K)
  all_goals
    refine AW_r rfl rfl fun K hK => ?_
    simp (disch := omega) [wrap64, List.getElem?_eq_getElem, toNat_pred, szR, DtUp.cells]
    repeat' first | (exfalso; omega) | (refine ⟨fun _ => ?_, fun _ => ?_⟩) | (refine ⟨by omega, ?_⟩) | (intro _)
    all_goals (refine hK _ ?_; clear hK K)
    all_goals
      refine AW_seq ?_
      refine AW_r rfl rfl fun K hK => ?_
      simp (disch := omega) [wrap64, List.getElem?_eq_getElem, toNat_pred, szR, DtUp.cells]
      repeat' first | (exfalso; omega) | (refine ⟨fun _ => ?_, fun _ => ?_⟩) | (refine ⟨by omega, ?_⟩) | (intro _)
      all_goals (refine hK _ ?_; clear hK K)
      all_goals
        refine AW_cond rfl (fun hc16 => ?_) (fun hc16 => ?_)
        · try simp at hc16
          all_goals
            refine AW_r rfl rfl fun K hK => ?_
            simp (disch := omega) [wrap64, List.getElem?_eq_getElem, toNat_pred, szR, DtUp.cells]
            repeat' first | (exfalso; omega) | (refine ⟨fun _ => ?_, fun _ => ?_⟩) | (refine ⟨by omega, ?_⟩) | (intro _)
            all_goals (refine hK _ ?_; clear hK K)
            all_goals
              refine AW_ret (end_s ?_)
              simp (disch := omega) [wrap64, List.getElem?_eq_getElem, toNat_pred, szR, DtUp.cells, DtUp.sz]
              all_goals first | omega | (simp_all; done) | (split <;> omega) | (split <;> simp_all <;> omega) | (simp_all [szR]; omega)
        · try simp at hc16
          all_goals
            refine AW_skip ?_
            refine AW_id ?_
            refine AW_r rfl rfl fun K hK => ?_
            simp (disch := omega) [wrap64, List.getElem?_eq_getElem, toNat_pred, szR, DtUp.cells]
            repeat' first | (exfalso; omega) | (refine CKd_v (am2s_cons am2_sl (am2s_cons am2_g am2s_nil)) (szIntS _ _ (by omega) (by assumption)) rfl ?_; simp (disch := omega) [wrap64, List.getElem?_eq_getElem, toNat_pred, szR, DtUp.cells]) | (refine ⟨fun _ => ?_, fun _ => ?_⟩) | (refine ⟨by omega, ?_⟩) | (intro _)
            all_goals (refine hK _ ?_; clear hK K)
            all_goals
              refine AW_seq ?_
              refine AW_r rfl rfl fun K hK => ?_
              simp (disch := omega) [wrap64, List.getElem?_eq_getElem, toNat_pred, szR, DtUp.cells]
              repeat' first | (exfalso; omega) | (refine ⟨fun _ => ?_, fun _ => ?_⟩) | (refine ⟨by omega, ?_⟩) | (intro _)
              all_goals (refine hK _ ?_; clear hK K)
              all_goals
                refine AW_cond rfl (fun hc17 => ?_) (fun hc17 => ?_)
                · try simp at hc17
                  all_goals
                    refine AW_r rfl rfl fun K hK => ?_
                    simp (disch := omega) [wrap64, List.getElem?_eq_getElem, toNat_pred, szR, DtUp.cells]
                    repeat' first | (exfalso; omega) | (refine ⟨fun _ => ?_, fun _ => ?_⟩) | (refine ⟨by omega, ?_⟩) | (intro _)
                    all_goals (refine hK _ ?_; clear hK K)
                    all_goals
                      refine AW_ret (end_s ?_)
                      simp (disch := omega) [wrap64, List.getElem?_eq_getElem, toNat_pred, szR, DtUp.cells, DtUp.sz]
                      all_goals first | omega | (simp_all; done) | (split <;> omega) | (split <;> simp_all <;> omega) | (simp_all [szR]; omega)
                · try simp at hc17
                  all_goals
                    refine AW_skip ?_
                    refine AW_id ?_
                    refine AW_r rfl rfl fun K hK => ?_
                    simp (disch := omega) [wrap64, List.getElem?_eq_getElem, toNat_pred, szR, DtUp.cells]
                    repeat' first | (exfalso; omega) | (refine ⟨fun _ => ?_, fun _ => ?_⟩) | (refine ⟨by omega, ?_⟩) | (intro _)
                    all_goals (refine hK _ ?_; clear hK K)
                    all_goals
                      refine AW_ret (end_s ?_)
                      simp (disch := omega) [wrap64, List.getElem?_eq_getElem, toNat_pred, szR, DtUp.cells, DtUp.sz]
                      all_goals first | omega | (simp_all; done) | (split <;> omega) | (split <;> simp_all <;> omega) | (simp_all [szR]; omega)
theorem eqUp (u v : DtUp) (hs : DtUp.sz u ≤ 1048576) : PCall Try.prog 63 [.agg (DtUp.cells u), .agg (DtUp.cells v)] (.g (.bool (eqB u v))) := by
  simp only [DtUp.sz] at hs
  have s0 : (u.fChunk.length : Int) ≤ 1048576 := by omega
  have s1 : (u.fNodes.length : Int) ≤ 1048576 := by omega
  have he := DtUp.ext_iff u v
  refine gcall_of_walk Try.func63 (by rfl) (by rfl) (by rw [Try.ntmps63]; exact Nat.le_of_ble_eq_true rfl) rfl (by decide) ?_
  rw [Try.ntmps63]
  refine AW_k [(0, _), (1, _)] ⟨rfl, rfl, trivial⟩ ?_
  refine AW_r rfl rfl fun K hK => ?_
  simp [DtUp.cells]
  repeat' first | (refine ⟨fun _ => ?_, fun _ => ?_⟩) | (refine ⟨by omega, ?_⟩) | (intro _)
  all_goals (refine hK _ ?_; clear hK K)
  all_goals
    refine AW_seq ?_
    refine AW_r rfl rfl fun K hK => ?_
    simp [DtUp.cells]
    repeat' first | (refine ⟨fun _ => ?_, fun _ => ?_⟩) | (refine ⟨by omega, ?_⟩) | (intro _)
    all_goals (refine hK _ ?_; clear hK K)
    all_goals
      refine AW_cond rfl (fun hc18 => ?_) (fun hc18 => ?_)
      · try simp at hc18
        all_goals
          refine AW_r rfl rfl fun K hK => ?_
          simp [DtUp.cells]
          repeat' first | (refine ⟨fun _ => ?_, fun _ => ?_⟩) | (refine ⟨by omega, ?_⟩) | (intro _)
          all_goals (refine hK _ ?_; clear hK K)
          all_goals
            refine AW_ret (end_s ?_)
            simp [DtUp.cells]
            all_goals first | (refine eqB_of (he.mpr ?_); simp_all [eqB_true, eqB_false]; done) | (refine eqB_ne fun h => ?_; rw [he] at h; simp_all [eqB_true, eqB_false, eqB_self]; done) | (refine (eqB_of (he.mpr ?_)).symm; simp_all [eqB_true, eqB_false]; done) | (refine (eqB_ne fun h => ?_).symm; rw [he] at h; simp_all [eqB_true, eqB_false, eqB_self]; done)
      · try simp at hc18
        all_goals
          refine AW_skip ?_
          refine AW_id ?_
          refine AW_seq ?_
          refine AW_r rfl rfl fun K hK => ?_
          simp [DtUp.cells]
          repeat' first | (refine CKd_v (am2s_cons am2_sl (am2s_cons am2_sl am2s_nil)) (eqIntS _ _ (by first | assumption | omega)) rfl ?_; simp [DtUp.cells]) | (refine ⟨fun _ => ?_, fun _ => ?_⟩) | (refine ⟨by omega, ?_⟩) | (intro _)
          all_goals (refine hK _ ?_; clear hK K)
          all_goals
            refine AW_cond rfl (fun hc19 => ?_) (fun hc19 => ?_)
            · try simp at hc19
              all_goals
                refine AW_r rfl rfl fun K hK => ?_
                simp [DtUp.cells]
                repeat' first | (refine ⟨fun _ => ?_, fun _ => ?_⟩) | (refine ⟨by omega, ?_⟩) | (intro _)
                all_goals (refine hK _ ?_; clear hK K)
                all_goals
                  refine AW_ret (end_s ?_)
                  simp [DtUp.cells]
                  all_goals first | (refine eqB_of (he.mpr ?_); simp_all [eqB_true, eqB_false]; done) | (refine eqB_ne fun h => ?_; rw [he] at h; simp_all [eqB_true, eqB_false, eqB_self]; done) | (refine (eqB_of (he.mpr ?_)).symm; simp_all [eqB_true, eqB_false]; done) | (refine (eqB_ne fun h => ?_).symm; rw [he] at h; simp_all [eqB_true, eqB_false, eqB_self]; done)
            · try simp at hc19
              all_goals
                refine AW_skip ?_
                refine AW_id ?_
                refine AW_seq ?_
                refine AW_r rfl rfl fun K hK => ?_
                simp [DtUp.cells]
                repeat' first | (refine ⟨fun _ => ?_, fun _ => ?_⟩) | (refine ⟨by omega, ?_⟩) | (intro _)
                all_goals (refine hK _ ?_; clear hK K)
                all_goals
                  refine AW_cond rfl (fun hc20 => ?_) (fun hc20 => ?_)
                  · try simp at hc20
                    all_goals
                      refine AW_r rfl rfl fun K hK => ?_
                      simp [DtUp.cells]
                      repeat' first | (refine ⟨fun _ => ?_, fun _ => ?_⟩) | (refine ⟨by omega, ?_⟩) | (intro _)
                      all_goals (refine hK _ ?_; clear hK K)
                      all_goals
                        refine AW_ret (end_s ?_)
                        simp [DtUp.cells]
                        all_goals first | (refine eqB_of (he.mpr ?_); simp_all [eqB_true, eqB_false]; done) | (refine eqB_ne fun h => ?_; rw [he] at h; simp_all [eqB_true, eqB_false, eqB_self]; done) | (refine (eqB_of (he.mpr ?_)).symm; simp_all [eqB_true, eqB_false]; done) | (refine (eqB_ne fun h => ?_).symm; rw [he] at h; simp_all [eqB_true, eqB_false, eqB_self]; done)
                  · try simp at hc20
                    all_goals
                      refine AW_skip ?_
                      refine AW_id ?_
                      refine AW_r rfl rfl fun K hK => ?_
                      simp [DtUp.cells]
                      repeat' first | (refine ⟨fun _ => ?_, fun _ => ?_⟩) | (refine ⟨by omega, ?_⟩) | (intro _)
                      all_goals (refine hK _ ?_; clear hK K)
                      all_goals
                        refine AW_ret (end_s ?_)
                        simp [DtUp.cells]
                        all_goals first | (refine eqB_of (he.mpr ?_); simp_all [eqB_true, eqB_false]; done) | (refine eqB_ne fun h => ?_; rw [he] at h; simp_all [eqB_true, eqB_false, eqB_self]; done) | (refine (eqB_of (he.mpr ?_)).symm; simp_all [eqB_true, eqB_false]; done) | (refine (eqB_ne fun h => ?_).symm; rw [he] at h; simp_all [eqB_true, eqB_false, eqB_self]; done)
theorem szUpS (xs : List DtUp) (n : Int) (hn : 0 ≤ n ∧ n ≤ 1048576) (hw : (wfS DtUp.wf) xs) : PCall Try.prog 41 [.sl 3 (xs.map DtUp.cells), (.g (.int .i64 (n)))] (.g (.int .i64 (szR n (szS DtUp.sz xs)))) := by
  have hq := sumZ_nonneg DtUp.sz_nonneg xs
  have hw1 := hw.1
  refine gcall_of_walk Try.func41 (by rfl) (by rfl) (by rw [Try.ntmps41]; exact Nat.le_of_ble_eq_true rfl) rfl (by decide) ?_
  rw [Try.ntmps41]
  refine AW_k [(0, _), (1, _)] ⟨rfl, rfl, trivial⟩ ?_
  refine AW_r rfl rfl fun K hK => ?_
  simp (disch := omega) [wrap64, List.getElem?_eq_getElem, toNat_pred, szR]
  repeat' first | (exfalso; omega) | (refine ⟨fun _ => ?_, fun _ => ?_⟩) | (refine ⟨by omega, ?_⟩) | (intro _)
  all_goals (refine hK _ ?_; clear hK K)
  all_goals
    refine AW_r rfl rfl fun K hK => ?_
    simp (disch := omega) [wrap64, List.getElem?_eq_getElem, toNat_pred, szR]
    repeat' first | (exfalso; omega) | (refine ⟨fun _ => ?_, fun _ => ?_⟩) | (refine ⟨by omega, ?_⟩) | (intro _)
    all_goals (refine hK _ ?_; clear hK K)
    all_goals
      refine AW_seq ?_
      refine AW_r rfl rfl fun K hK => ?_
      simp (disch := omega) [wrap64, List.getElem?_eq_getElem, toNat_pred, szR]
      repeat' first | (exfalso; omega) | (refine ⟨fun _ => ?_, fun _ => ?_⟩) | (refine ⟨by omega, ?_⟩) | (intro _)
      all_goals (refine hK _ ?_; clear hK K)
      all_goals
        refine AW_cond rfl (fun hc21 => ?_) (fun hc21 => ?_)
        · try simp at hc21
          all_goals
            refine AW_r rfl rfl fun K hK => ?_
            simp (disch := omega) [wrap64, List.getElem?_eq_getElem, toNat_pred, szR]
            repeat' first | (exfalso; omega) | (refine ⟨fun _ => ?_, fun _ => ?_⟩) | (refine ⟨by omega, ?_⟩) | (intro _)
            all_goals (refine hK _ ?_; clear hK K)
            all_goals
              refine AW_ret (end_s ?_)
              simp (disch := omega) [wrap64, List.getElem?_eq_getElem, toNat_pred, szR, szS]
              all_goals first | omega | (split <;> omega)
        · try simp at hc21
          all_goals
            refine AW_skip ?_
            refine AW_id ?_
            refine AW_seq ?_
            refine AW_r rfl rfl fun K hK => ?_
            simp (disch := omega) [wrap64, List.getElem?_eq_getElem, toNat_pred, szR]
            repeat' first | (exfalso; omega) | (refine ⟨fun _ => ?_, fun _ => ?_⟩) | (refine ⟨by omega, ?_⟩) | (intro _)
            all_goals (refine hK _ ?_; clear hK K)
            all_goals
              refine AW_block ?_
              refine AW_loopS (fun mM sS => ∃ (i : Nat), mM = xs.length - i ∧ (i ≤ xs.length ∧ 0 ≤ n - xs.length - sumZ DtUp.sz (xs.take i)) ∧ sS = { env := lkE [(0, .sl 3 (xs.map DtUp.cells)), (1, (.g (.int .i64 (n - xs.length - sumZ DtUp.sz (xs.take i))))), (5, (.g (.int .i64 ((i : Nat)))))], ob := formOb [] [] }) ?_ ?_
              · refine ⟨_, LeS.kp [(0, .sl 3 (xs.map DtUp.cells)), (1, (.g (.int .i64 (n - xs.length - sumZ DtUp.sz (xs.take (0)))))), (5, (.g (.int .i64 (((0) : Nat)))))] (by simp [KpE, upd_app, lkE_app, lk_cons, sumZ_nil]; try first | rfl | omega), _, 0, rfl, ?_, rfl⟩
                · simp [sumZ_nil]; omega
              · rintro mM sS ⟨i, rfl, ⟨hi, hn⟩, rfl⟩
                have hz := sumZ_nonneg DtUp.sz_nonneg (xs.take i)
                have hz2 := sumZ_take_le DtUp.sz_nonneg xs i
                refine AW_seq ?_
                refine AW_r rfl rfl fun K hK => ?_
                simp (disch := omega) [wrap64, List.getElem?_eq_getElem, toNat_pred, szR, DtUp.cells]
                repeat' first | (exfalso; omega) | (refine ⟨fun _ => ?_, fun _ => ?_⟩) | (refine ⟨by omega, ?_⟩) | (intro _)
                all_goals (refine hK _ ?_; clear hK K)
                all_goals
                  refine AW_cond rfl (fun hc22 => ?_) (fun hc22 => ?_)
                  · try simp at hc22
                    all_goals
                      have hl := sumZ_take (f := DtUp.sz) xs i (by omega)
                      have hwE : DtUp.wf xs[i] := hw.2 _ (List.getElem_mem _)
                      have hz3 := sumZ_take_le DtUp.sz_nonneg xs (i + 1)
                      have hzE := DtUp.sz_nonneg xs[i]
                      have hszR : szR (n - xs.length - sumZ DtUp.sz (xs.take i)) (DtUp.sz xs[i]) = n - xs.length - sumZ DtUp.sz (xs.take (i + 1)) ∨ (szR (n - xs.length - sumZ DtUp.sz (xs.take i)) (DtUp.sz xs[i]) = -1 ∧ n - xs.length - sumZ DtUp.sz (xs.take (i + 1)) < 0) := by unfold szR; split <;> omega
                      refine AW_skip ?_
                      refine AW_id ?_
                      refine AW_seq ?_
                      refine AW_block ?_
                      refine AW_r rfl rfl fun K hK => ?_
                      simp (disch := omega) [wrap64, List.getElem?_eq_getElem, toNat_pred, szR, DtUp.cells]
                      repeat' first | (exfalso; omega) | (refine CKd_v (am2s_cons (am2_agg rfl) (am2s_cons am2_g am2s_nil)) (szUp _ _ (by omega) (by first | exact hwE | exact hw)) rfl ?_; simp (disch := omega) [wrap64, List.getElem?_eq_getElem, toNat_pred, szR, DtUp.cells]) | (refine ⟨fun _ => ?_, fun _ => ?_⟩) | (refine ⟨by omega, ?_⟩) | (intro _)
                      all_goals (refine hK _ ?_; clear hK K)
                      all_goals
                        refine AW_r rfl rfl fun K hK => ?_
                        simp (disch := omega) [wrap64, List.getElem?_eq_getElem, toNat_pred, szR, DtUp.cells]
                        repeat' first | (exfalso; omega) | (refine ⟨fun _ => ?_, fun _ => ?_⟩) | (refine ⟨by omega, ?_⟩) | (intro _)
                        all_goals (refine hK _ ?_; clear hK K)
                        all_goals
                          refine AW_cond rfl (fun hc23 => ?_) (fun hc23 => ?_)
                          · try simp at hc23
                            all_goals
                              refine AW_r rfl rfl fun K hK => ?_
                              simp (disch := omega) [wrap64, List.getElem?_eq_getElem, toNat_pred, szR, DtUp.cells]
                              repeat' first | (exfalso; omega) | (refine ⟨fun _ => ?_, fun _ => ?_⟩) | (refine ⟨by omega, ?_⟩) | (intro _)
                              all_goals (refine hK _ ?_; clear hK K)
                              all_goals
                                refine AW_ret (end_s ?_)
                                simp (disch := omega) [wrap64, List.getElem?_eq_getElem, toNat_pred, szR, DtUp.cells, szS]
                                all_goals first | omega | (split <;> omega)
                          · try simp at hc23
                            all_goals
                              refine AW_skip ?_
                              refine AW_id ?_
                              refine AW_re rfl rfl fun K hK => ?_
                              simp (disch := omega) [wrap64, List.getElem?_eq_getElem, toNat_pred, szR, DtUp.cells]
                              repeat' first | (exfalso; omega) | (refine ⟨fun _ => ?_, fun _ => ?_⟩) | (refine ⟨by omega, ?_⟩) | (intro _)
                              all_goals (refine hK _ ?_; clear hK K)
                              all_goals
                                refine ⟨_, LeS.kp [(0, .sl 3 (xs.map DtUp.cells)), (1, (.g (.int .i64 (n - xs.length - sumZ DtUp.sz (xs.take (i + 1)))))), (5, (.g (.int .i64 (((i + 1) : Nat)))))] (by simp [KpE, upd_app, lkE_app, lk_cons, sumZ_nil]; try first | rfl | omega), _, ?_, i + 1, rfl, ?_, rfl⟩
                                · omega
                                · omega
                  · try simp at hc22
                    all_goals
                      have hi2 : i = xs.length := by omega
                      subst hi2
                      simp only [List.take_length] at *
                      refine AW_exit ?_
                      refine AW_id ?_
                      refine AW_r rfl rfl fun K hK => ?_
                      simp (disch := omega) [wrap64, List.getElem?_eq_getElem, toNat_pred, szR, DtUp.cells]
                      repeat' first | (exfalso; omega) | (refine ⟨fun _ => ?_, fun _ => ?_⟩) | (refine ⟨by omega, ?_⟩) | (intro _)
                      all_goals (refine hK _ ?_; clear hK K)
                      all_goals
                        refine AW_ret (end_s ?_)
                        simp (disch := omega) [wrap64, List.getElem?_eq_getElem, toNat_pred, szR, DtUp.cells, szS]
                        all_goals first | omega | (split <;> omega)
theorem eqUpS (xs ys : List DtUp) (hs : szS DtUp.sz xs ≤ 1048576) : PCall Try.prog 47 [.sl 3 (xs.map DtUp.cells), .sl 3 (ys.map DtUp.cells)] (.g (.bool (eqB xs ys))) := by
  have hn : xs.length ≤ 1048576 := by have := sumZ_nonneg DtUp.sz_nonneg xs; simp only [szS] at hs; omega
  refine gcall_of_walk Try.func47 (by rfl) (by rfl) (by rw [Try.ntmps47]; exact Nat.le_of_ble_eq_true rfl) rfl (by decide) ?_
  rw [Try.ntmps47]
  refine AW_k [(0, _), (1, _)] ⟨rfl, rfl, trivial⟩ ?_
  refine AW_r rfl rfl fun K hK => ?_
  simp (disch := omega) [wrap64, List.getElem?_eq_getElem, toNat_pred]
  repeat' first | (exfalso; omega) | (refine ⟨fun _ => ?_, fun _ => ?_⟩) | (refine ⟨by omega, ?_⟩) | (intro _)
  all_goals (refine hK _ ?_; clear hK K)
  all_goals
    refine AW_seq ?_
    refine AW_r rfl rfl fun K hK => ?_
    simp (disch := omega) [wrap64, List.getElem?_eq_getElem, toNat_pred]
    repeat' first | (exfalso; omega) | (refine ⟨fun _ => ?_, fun _ => ?_⟩) | (refine ⟨by omega, ?_⟩) | (intro _)
    all_goals (refine hK _ ?_; clear hK K)
    all_goals
      refine AW_cond rfl (fun hc25 => ?_) (fun hc25 => ?_)
      · try simp at hc25
        all_goals
          refine AW_r rfl rfl fun K hK => ?_
          simp (disch := omega) [wrap64, List.getElem?_eq_getElem, toNat_pred]
          repeat' first | (exfalso; omega) | (refine ⟨fun _ => ?_, fun _ => ?_⟩) | (refine ⟨by omega, ?_⟩) | (intro _)
          all_goals (refine hK _ ?_; clear hK K)
          all_goals
            refine AW_ret (end_s ?_)
            simp (disch := omega) [wrap64, List.getElem?_eq_getElem, toNat_pred]
            all_goals first | (exact eqB_of heq) | (refine eqB_ne fun heq => ?_; subst heq; simp_all [eqB_true, eqB_false, eqB_self]; done) | (refine (eqB_ne fun heq => ?_).symm; subst heq; simp_all [eqB_true, eqB_false, eqB_self]; done) | simp_all [eqB_self]
      · try simp at hc25
        all_goals
          refine AW_skip ?_
          refine AW_id ?_
          refine AW_seq ?_
          refine AW_r rfl rfl fun K hK => ?_
          simp (disch := omega) [wrap64, List.getElem?_eq_getElem, toNat_pred]
          repeat' first | (exfalso; omega) | (refine ⟨fun _ => ?_, fun _ => ?_⟩) | (refine ⟨by omega, ?_⟩) | (intro _)
          all_goals (refine hK _ ?_; clear hK K)
          all_goals
            refine AW_block ?_
            refine AW_loopS (fun mM sS => ∃ (i : Nat), mM = xs.length - i ∧ (i ≤ xs.length ∧ ∀ j, j < i → xs[j]? = ys[j]?) ∧ sS = { env := lkE [(0, .sl 3 (xs.map DtUp.cells)), (1, .sl 3 (ys.map DtUp.cells)), (5, (.g (.int .i64 ((i : Nat)))))], ob := formOb [] [] }) ?_ ?_
            · refine ⟨_, LeS.kp [(0, .sl 3 (xs.map DtUp.cells)), (1, .sl 3 (ys.map DtUp.cells)), (5, (.g (.int .i64 (((0) : Nat)))))] (by simp [KpE, upd_app, lkE_app, lk_cons]; try rfl), _, 0, rfl, ?_, rfl⟩
              · simp
            · rintro mM sS ⟨i, rfl, ⟨hi, hpre⟩, rfl⟩
              refine AW_seq ?_
              refine AW_r rfl rfl fun K hK => ?_
              simp (disch := omega) [wrap64, List.getElem?_eq_getElem, toNat_pred, DtUp.cells]
              repeat' first | (exfalso; omega) | (refine ⟨fun _ => ?_, fun _ => ?_⟩) | (refine ⟨by omega, ?_⟩) | (intro _)
              all_goals (refine hK _ ?_; clear hK K)
              all_goals
                refine AW_cond rfl (fun hc26 => ?_) (fun hc26 => ?_)
                · try simp at hc26
                  all_goals
                    have h7 : i < ys.length := by omega
                    have hsE : DtUp.sz xs[i] ≤ 1048576 := by have := sumZ_mem_le DtUp.sz_nonneg xs xs[i] (List.getElem_mem _); simp only [szS] at hs; omega
                    refine AW_skip ?_
                    refine AW_id ?_
                    refine AW_seq ?_
                    refine AW_block ?_
                    refine AW_q rfl mix (by kernel_rfl) rfl fun K hK => ?_
                    simp (disch := omega) [wrap64, List.getElem?_eq_getElem, toNat_pred, DtUp.cells]
                    repeat' first | (exfalso; omega) | (refine CKd_v (am2s_cons (am2_agg rfl) (am2s_cons (am2_agg rfl) am2s_nil)) (eqUp _ _ (by first | assumption | omega)) rfl ?_; simp (disch := omega) [wrap64, List.getElem?_eq_getElem, toNat_pred, DtUp.cells]) | (refine ⟨fun _ => ?_, fun _ => ?_⟩) | (refine ⟨by omega, ?_⟩) | (intro _)
                    all_goals (refine hK _ ?_; clear hK K)
                    all_goals
                      refine AW_cond rfl (fun hc27 => ?_) (fun hc27 => ?_)
                      · try simp at hc27
                        all_goals
                          refine AW_r rfl rfl fun K hK => ?_
                          simp (disch := omega) [wrap64, List.getElem?_eq_getElem, toNat_pred, DtUp.cells]
                          repeat' first | (exfalso; omega) | (refine ⟨fun _ => ?_, fun _ => ?_⟩) | (refine ⟨by omega, ?_⟩) | (intro _)
                          all_goals (refine hK _ ?_; clear hK K)
                          all_goals
                            refine AW_ret (end_s ?_)
                            simp (disch := omega) [wrap64, List.getElem?_eq_getElem, toNat_pred, DtUp.cells]
                            all_goals first | (exact eqB_of heq) | (refine eqB_ne fun heq => ?_; subst heq; simp_all [eqB_true, eqB_false, eqB_self]; done) | (refine (eqB_ne fun heq => ?_).symm; subst heq; simp_all [eqB_true, eqB_false, eqB_self]; done) | simp_all [eqB_self]
                      · try simp at hc27
                        all_goals
                          refine AW_skip ?_
                          refine AW_id ?_
                          refine AW_re rfl rfl fun K hK => ?_
                          simp (disch := omega) [wrap64, List.getElem?_eq_getElem, toNat_pred, DtUp.cells]
                          repeat' first | (exfalso; omega) | (refine ⟨fun _ => ?_, fun _ => ?_⟩) | (refine ⟨by omega, ?_⟩) | (intro _)
                          all_goals (refine hK _ ?_; clear hK K)
                          all_goals
                            refine ⟨_, LeS.kp [(0, .sl 3 (xs.map DtUp.cells)), (1, .sl 3 (ys.map DtUp.cells)), (5, (.g (.int .i64 (((i + 1) : Nat)))))] (by simp [KpE, upd_app, lkE_app, lk_cons]; try rfl), _, ?_, i + 1, rfl, ?_, rfl⟩
                            · omega
                            · refine ⟨by omega, fun j hj => ?_⟩
                              by_cases hji : j = i
                              · subst hji; simp_all [eqB_true, eqB_false]
                              · exact hpre j (by omega)
                · try simp at hc26
                  all_goals
                    have hi2 : i = xs.length := by omega
                    subst hi2
                    have heq : xs = ys := List.ext_getElem? fun j => by
                      by_cases hj : j < xs.length
                      · exact hpre j hj
                      · rw [List.getElem?_eq_none (by omega), List.getElem?_eq_none (by omega)]
                    refine AW_exit ?_
                    refine AW_id ?_
                    refine AW_r rfl rfl fun K hK => ?_
                    simp (disch := omega) [wrap64, List.getElem?_eq_getElem, toNat_pred, DtUp.cells]
                    repeat' first | (exfalso; omega) | (refine ⟨fun _ => ?_, fun _ => ?_⟩) | (refine ⟨by omega, ?_⟩) | (intro _)
                    all_goals (refine hK _ ?_; clear hK K)
                    all_goals
                      refine AW_ret (end_s ?_)
                      simp (disch := omega) [wrap64, List.getElem?_eq_getElem, toNat_pred, DtUp.cells]
                      all_goals first | (exact eqB_of heq) | (refine eqB_ne fun heq => ?_; subst heq; simp_all [eqB_true, eqB_false, eqB_self]; done) | (refine (eqB_ne fun heq => ?_).symm; subst heq; simp_all [eqB_true, eqB_false, eqB_self]; done) | simp_all [eqB_self]
theorem szUps (u : DtUps) (n : Int) (hn : 0 ≤ n ∧ n ≤ 1048576) (hw : DtUps.wf u) : PCall Try.prog 25 [.agg (DtUps.cells u), (.g (.int .i64 (n)))] (.g (.int .i64 (szR n (DtUps.sz u)))) := by
  have ⟨w0, w1⟩ := hw
  have w12 := w1.1
  have z1 := (szS_nonneg DtUp.sz_nonneg) u.fList
  refine gcall_of_walk Try.func25 (by rfl) (by rfl) (by rw [Try.ntmps25]; exact Nat.le_of_ble_eq_true rfl) rfl (by decide) ?_
  rw [Try.ntmps25]
  refine AW_k [(0, _), (1, _)] ⟨rfl, rfl, trivial⟩ ?_
  refine AW_r rfl rfl fun K hK => ?_
  simp (disch := omega) [wrap64, List.getElem?_eq_getElem, toNat_pred, szR, DtUps.cells]
  repeat' first | (exfalso; omega) | (refine ⟨fun _ => ?_, fun _ => ?_⟩) | (refine ⟨by omega, ?_⟩) | (intro _)
  all_goals (refine hK _ ?_; clear hK K)
  all_goals
    refine AW_r rfl rfl fun K hK => ?_
    simp (disch := omega) [wrap64, List.getElem?_eq_getElem, toNat_pred, szR, DtUps.cells]
    repeat' first | (exfalso; omega) | (refine CKd_v (am2s_cons am2_sl (am2s_cons am2_g am2s_nil)) (szUpS _ _ (by omega) (by assumption)) rfl ?_; simp (disch := omega) [wrap64, List.getElem?_eq_getElem, toNat_pred, szR, DtUps.cells]) | (refine ⟨fun _ => ?_, fun _ => ?_⟩) | (refine ⟨by omega, ?_⟩) | (intro _)
    all_goals (refine hK _ ?_; clear hK K)
    all_goals
      refine AW_seq ?_
      refine AW_r rfl rfl fun K hK => ?_
      simp (disch := omega) [wrap64, List.getElem?_eq_getElem, toNat_pred, szR, DtUps.cells]
      repeat' first | (exfalso; omega) | (refine ⟨fun _ => ?_, fun _ => ?_⟩) | (refine ⟨by omega, ?_⟩) | (intro _)
      all_goals (refine hK _ ?_; clear hK K)
      all_goals
        refine AW_cond rfl (fun hc28 => ?_) (fun hc28 => ?_)
        · try simp at hc28
          all_goals
            refine AW_r rfl rfl fun K hK => ?_
            simp (disch := omega) [wrap64, List.getElem?_eq_getElem, toNat_pred, szR, DtUps.cells]
            repeat' first | (exfalso; omega) | (refine ⟨fun _ => ?_, fun _ => ?_⟩) | (refine ⟨by omega, ?_⟩) | (intro _)
            all_goals (refine hK _ ?_; clear hK K)
            all_goals
              refine AW_ret (end_s ?_)
              simp (disch := omega) [wrap64, List.getElem?_eq_getElem, toNat_pred, szR, DtUps.cells, DtUps.sz]
              all_goals first | omega | (simp_all; done) | (split <;> omega) | (split <;> simp_all <;> omega) | (simp_all [szR]; omega)
        · try simp at hc28
          all_goals
            refine AW_skip ?_
            refine AW_id ?_
            refine AW_r rfl rfl fun K hK => ?_
            simp (disch := omega) [wrap64, List.getElem?_eq_getElem, toNat_pred, szR, DtUps.cells]
            repeat' first | (exfalso; omega) | (refine ⟨fun _ => ?_, fun _ => ?_⟩) | (refine ⟨by omega, ?_⟩) | (intro _)
            all_goals (refine hK _ ?_; clear hK K)
            all_goals
              refine AW_ret (end_s ?_)
              simp (disch := omega) [wrap64, List.getElem?_eq_getElem, toNat_pred, szR, DtUps.cells, DtUps.sz]
              all_goals first | omega | (simp_all; done) | (split <;> omega) | (split <;> simp_all <;> omega) | (simp_all [szR]; omega)
theorem eqUps (u v : DtUps) (hs : DtUps.sz u ≤ 1048576) : PCall Try.prog 29 [.agg (DtUps.cells u), .agg (DtUps.cells v)] (.g (.bool (eqB u v))) := by
  simp only [DtUps.sz] at hs
  have z1 := (szS_nonneg DtUp.sz_nonneg) u.fList
  have s1 : szS DtUp.sz u.fList ≤ 1048576 := by omega
  have he := DtUps.ext_iff u v
  refine gcall_of_walk Try.func29 (by rfl) (by rfl) (by rw [Try.ntmps29]; exact Nat.le_of_ble_eq_true rfl) rfl (by decide) ?_
  rw [Try.ntmps29]
  refine AW_k [(0, _), (1, _)] ⟨rfl, rfl, trivial⟩ ?_
  refine AW_r rfl rfl fun K hK => ?_
  simp [DtUps.cells]
  repeat' first | (refine ⟨fun _ => ?_, fun _ => ?_⟩) | (refine ⟨by omega, ?_⟩) | (intro _)
  all_goals (refine hK _ ?_; clear hK K)
  all_goals
    refine AW_seq ?_
    refine AW_r rfl rfl fun K hK => ?_
    simp [DtUps.cells]
    repeat' first | (refine ⟨fun _ => ?_, fun _ => ?_⟩) | (refine ⟨by omega, ?_⟩) | (intro _)
    all_goals (refine hK _ ?_; clear hK K)
    all_goals
      refine AW_cond rfl (fun hc29 => ?_) (fun hc29 => ?_)
      · try simp at hc29
        all_goals
          refine AW_r rfl rfl fun K hK => ?_
          simp [DtUps.cells]
          repeat' first | (refine ⟨fun _ => ?_, fun _ => ?_⟩) | (refine ⟨by omega, ?_⟩) | (intro _)
          all_goals (refine hK _ ?_; clear hK K)
          all_goals
            refine AW_ret (end_s ?_)
            simp [DtUps.cells]
            all_goals first | (refine eqB_of (he.mpr ?_); simp_all [eqB_true, eqB_false]; done) | (refine eqB_ne fun h => ?_; rw [he] at h; simp_all [eqB_true, eqB_false, eqB_self]; done) | (refine (eqB_of (he.mpr ?_)).symm; simp_all [eqB_true, eqB_false]; done) | (refine (eqB_ne fun h => ?_).symm; rw [he] at h; simp_all [eqB_true, eqB_false, eqB_self]; done)
      · try simp at hc29
        all_goals
          refine AW_skip ?_
          refine AW_id ?_
          refine AW_seq ?_
          refine AW_r rfl rfl fun K hK => ?_
          simp [DtUps.cells]
          repeat' first | (refine CKd_v (am2s_cons am2_sl (am2s_cons am2_sl am2s_nil)) (eqUpS _ _ (by first | assumption | omega)) rfl ?_; simp [DtUps.cells]) | (refine ⟨fun _ => ?_, fun _ => ?_⟩) | (refine ⟨by omega, ?_⟩) | (intro _)
          all_goals (refine hK _ ?_; clear hK K)
          all_goals
            refine AW_cond rfl (fun hc30 => ?_) (fun hc30 => ?_)
            · try simp at hc30
              all_goals
                refine AW_r rfl rfl fun K hK => ?_
                simp [DtUps.cells]
                repeat' first | (refine ⟨fun _ => ?_, fun _ => ?_⟩) | (refine ⟨by omega, ?_⟩) | (intro _)
                all_goals (refine hK _ ?_; clear hK K)
                all_goals
                  refine AW_ret (end_s ?_)
                  simp [DtUps.cells]
                  all_goals first | (refine eqB_of (he.mpr ?_); simp_all [eqB_true, eqB_false]; done) | (refine eqB_ne fun h => ?_; rw [he] at h; simp_all [eqB_true, eqB_false, eqB_self]; done) | (refine (eqB_of (he.mpr ?_)).symm; simp_all [eqB_true, eqB_false]; done) | (refine (eqB_ne fun h => ?_).symm; rw [he] at h; simp_all [eqB_true, eqB_false, eqB_self]; done)
            · try simp at hc30
              all_goals
                refine AW_skip ?_
                refine AW_id ?_
                refine AW_r rfl rfl fun K hK => ?_
                simp [DtUps.cells]
                repeat' first | (refine ⟨fun _ => ?_, fun _ => ?_⟩) | (refine ⟨by omega, ?_⟩) | (intro _)
                all_goals (refine hK _ ?_; clear hK K)
                all_goals
                  refine AW_ret (end_s ?_)
                  simp [DtUps.cells]
                  all_goals first | (refine eqB_of (he.mpr ?_); simp_all [eqB_true, eqB_false]; done) | (refine eqB_ne fun h => ?_; rw [he] at h; simp_all [eqB_true, eqB_false, eqB_self]; done) | (refine (eqB_of (he.mpr ?_)).symm; simp_all [eqB_true, eqB_false]; done) | (refine (eqB_ne fun h => ?_).symm; rw [he] at h; simp_all [eqB_true, eqB_false, eqB_self]; done)
end Go.Proofs.Ytpaccfeiaekacaa.Vs
