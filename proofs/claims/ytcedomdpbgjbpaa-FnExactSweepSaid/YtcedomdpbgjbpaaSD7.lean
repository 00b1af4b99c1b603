import Derived.Test.YtcedomdpbgjbpaaVs8
import Derived.Test.YtcedomdpbgjbpaaSCT
open Go Go.Proofs Go.Proofs.Ytcedomdpbgjbpaa.Vs
namespace Go.Proofs.Ytcedomdpbgjbpaa.Vs
set_option linter.unusedVariables false
set_option linter.unusedSimpArgs false
set_option linter.unusedSectionVars false
set_option linter.unnecessarySimpa false
set_option linter.all false
set_option linter.unusedSimpArgs false
set_option linter.unusedVariables false
theorem szStringS (xs : List (List UInt8)) (n : Int) (hn : 0 ≤ n ∧ n ≤ 1048576) (hw : (wfS wfL) xs) : PCall Try.prog 117 [.sl 1 (xs.map cS), (.g (.int .i64 (n)))] (.g (.int .i64 (szR n (szS lenZ xs)))) := by
  have hq := sumZ_nonneg lenZ_nonneg xs
  have hw1 := hw.1
  refine gcall_of_walk Try.func117 (by rfl) (by rfl) (by rw [Try.ntmps117]; exact Nat.le_of_ble_eq_true rfl) rfl (by decide) ?_
  rw [Try.ntmps117]
  refine AW_k [(0, _), (1, _)] ⟨rfl, rfl, trivial⟩ ?_
  refine AW_r rfl rfl fun K hK => ?_
  simp (disch := omega) [wrap64, List.getElem?_eq_getElem, toNat_pred, szR]
  repeat' first | (exfalso; omega) | (refine ⟨fun _ => ?_, fun _ => ?_⟩) | (refine ⟨by omega, ?_⟩) | (intro _)
  all_goals (refine hK _ ?_; clear hK K)
  all_goals
    refine AW_r rfl rfl fun K hK => ?_
    simp (disch := omega) [wrap64, List.getElem?_eq_getElem, toNat_pred, szR]
    repeat' first | (exfalso; omega) | (refine ⟨fun _ => ?_, fun _ => ?_⟩) | (refine ⟨by omega, ?_⟩) | (intro _)
    all_goals (refine hK _ ?_; clear hK K)
    all_goals
      refine AW_seq ?_
      refine AW_r rfl rfl fun K hK => ?_
      simp (disch := omega) [wrap64, List.getElem?_eq_getElem, toNat_pred, szR]
      repeat' first | (exfalso; omega) | (refine ⟨fun _ => ?_, fun _ => ?_⟩) | (refine ⟨by omega, ?_⟩) | (intro _)
      all_goals (refine hK _ ?_; clear hK K)
      all_goals
        refine AW_cond rfl (fun hc1 => ?_) (fun hc1 => ?_)
        · try simp at hc1
          all_goals
            refine AW_r rfl rfl fun K hK => ?_
            simp (disch := omega) [wrap64, List.getElem?_eq_getElem, toNat_pred, szR]
            repeat' first | (exfalso; omega) | (refine ⟨fun _ => ?_, fun _ => ?_⟩) | (refine ⟨by omega, ?_⟩) | (intro _)
            all_goals (refine hK _ ?_; clear hK K)
            all_goals
              refine AW_ret (end_s ?_)
              simp (disch := omega) [wrap64, List.getElem?_eq_getElem, toNat_pred, szR, szS]
              all_goals first | omega | (split <;> omega)
        · try simp at hc1
          all_goals
            refine AW_skip ?_
            refine AW_id ?_
            refine AW_seq ?_
            refine AW_r rfl rfl fun K hK => ?_
            simp (disch := omega) [wrap64, List.getElem?_eq_getElem, toNat_pred, szR]
            repeat' first | (exfalso; omega) | (refine ⟨fun _ => ?_, fun _ => ?_⟩) | (refine ⟨by omega, ?_⟩) | (intro _)
            all_goals (refine hK _ ?_; clear hK K)
            all_goals
              refine AW_block ?_
              refine AW_loopS (fun mM sS => ∃ (i : Nat), mM = xs.length - i ∧ (i ≤ xs.length ∧ 0 ≤ n - xs.length - sumZ lenZ (xs.take i)) ∧ sS = { env := lkE [(0, .sl 1 (xs.map cS)), (1, (.g (.int .i64 (n - xs.length - sumZ lenZ (xs.take i))))), (5, (.g (.int .i64 ((i : Nat)))))], ob := formOb [] [] }) ?_ ?_
              · refine ⟨_, LeS.kp [(0, .sl 1 (xs.map cS)), (1, (.g (.int .i64 (n - xs.length - sumZ lenZ (xs.take (0)))))), (5, (.g (.int .i64 (((0) : Nat)))))] (by simp [KpE, upd_app, lkE_app, lk_cons, sumZ_nil]; try first | rfl | omega), _, 0, rfl, ?_, rfl⟩
                · simp [sumZ_nil]; omega
              · rintro mM sS ⟨i, rfl, ⟨hi, hn⟩, rfl⟩
                have hz := sumZ_nonneg lenZ_nonneg (xs.take i)
                have hz2 := sumZ_take_le lenZ_nonneg xs i
                refine AW_seq ?_
                refine AW_r rfl rfl fun K hK => ?_
                simp (disch := omega) [wrap64, List.getElem?_eq_getElem, toNat_pred, szR, cS, lenZ]
                repeat' first | (exfalso; omega) | (refine ⟨fun _ => ?_, fun _ => ?_⟩) | (refine ⟨by omega, ?_⟩) | (intro _)
                all_goals (refine hK _ ?_; clear hK K)
                all_goals
                  refine AW_cond rfl (fun hc2 => ?_) (fun hc2 => ?_)
                  · try simp at hc2
                    all_goals
                      have hl := sumZ_take (f := lenZ) xs i (by omega)
                      have hwE : wfL xs[i] := hw.2 _ (List.getElem_mem _)
                      have hwE2 : xs[i].length ≤ 9223372036854775807 := hwE
                      simp only [lenZ] at hl
                      have hz3 := sumZ_take_le lenZ_nonneg xs (i + 1)
                      refine AW_skip ?_
                      refine AW_id ?_
                      refine AW_seq ?_
                      refine AW_block ?_
                      refine AW_r rfl rfl fun K hK => ?_
                      simp (disch := omega) [wrap64, List.getElem?_eq_getElem, toNat_pred, szR, cS, lenZ]
                      repeat' first | (exfalso; omega) | (refine ⟨fun _ => ?_, fun _ => ?_⟩) | (refine ⟨by omega, ?_⟩) | (intro _)
                      all_goals (refine hK _ ?_; clear hK K)
                      all_goals
                        refine AW_r rfl rfl fun K hK => ?_
                        simp (disch := omega) [wrap64, List.getElem?_eq_getElem, toNat_pred, szR, cS, lenZ]
                        repeat' first | (exfalso; omega) | (refine ⟨fun _ => ?_, fun _ => ?_⟩) | (refine ⟨by omega, ?_⟩) | (intro _)
                        all_goals (refine hK _ ?_; clear hK K)
                        all_goals
                          refine AW_cond rfl (fun hc3 => ?_) (fun hc3 => ?_)
                          · try simp at hc3
                            all_goals
                              refine AW_r rfl rfl fun K hK => ?_
                              simp (disch := omega) [wrap64, List.getElem?_eq_getElem, toNat_pred, szR, cS, lenZ]
                              repeat' first | (exfalso; omega) | (refine ⟨fun _ => ?_, fun _ => ?_⟩) | (refine ⟨by omega, ?_⟩) | (intro _)
                              all_goals (refine hK _ ?_; clear hK K)
                              all_goals
                                refine AW_ret (end_s ?_)
                                simp (disch := omega) [wrap64, List.getElem?_eq_getElem, toNat_pred, szR, cS, lenZ, szS]
                                all_goals first | omega | (split <;> omega)
                          · try simp at hc3
                            all_goals
                              refine AW_skip ?_
                              refine AW_id ?_
                              refine AW_re rfl rfl fun K hK => ?_
                              simp (disch := omega) [wrap64, List.getElem?_eq_getElem, toNat_pred, szR, cS, lenZ]
                              repeat' first | (exfalso; omega) | (refine ⟨fun _ => ?_, fun _ => ?_⟩) | (refine ⟨by omega, ?_⟩) | (intro _)
                              all_goals (refine hK _ ?_; clear hK K)
                              all_goals
                                refine ⟨_, LeS.kp [(0, .sl 1 (xs.map cS)), (1, (.g (.int .i64 (n - xs.length - sumZ lenZ (xs.take (i + 1)))))), (5, (.g (.int .i64 (((i + 1) : Nat)))))] (by simp [KpE, upd_app, lkE_app, lk_cons, sumZ_nil]; try first | rfl | omega), _, ?_, i + 1, rfl, ?_, rfl⟩
                                · omega
                                · omega
                  · try simp at hc2
                    all_goals
                      have hi2 : i = xs.length := by omega
                      subst hi2
                      simp only [List.take_length] at *
                      refine AW_exit ?_
                      refine AW_id ?_
                      refine AW_r rfl rfl fun K hK => ?_
                      simp (disch := omega) [wrap64, List.getElem?_eq_getElem, toNat_pred, szR, cS, lenZ]
                      repeat' first | (exfalso; omega) | (refine ⟨fun _ => ?_, fun _ => ?_⟩) | (refine ⟨by omega, ?_⟩) | (intro _)
                      all_goals (refine hK _ ?_; clear hK K)
                      all_goals
                        refine AW_ret (end_s ?_)
                        simp (disch := omega) [wrap64, List.getElem?_eq_getElem, toNat_pred, szR, cS, lenZ, szS]
                        all_goals first | omega | (split <;> omega)
theorem eqStringS (xs ys : List (List UInt8)) (hs : szS lenZ xs ≤ 1048576) : PCall Try.prog 11 [.sl 1 (xs.map cS), .sl 1 (ys.map cS)] (.g (.bool (eqB xs ys))) := by
  have hn : xs.length ≤ 1048576 := by have := sumZ_nonneg lenZ_nonneg xs; simp only [szS] at hs; omega
  refine gcall_of_walk Try.func11 (by rfl) (by rfl) (by rw [Try.ntmps11]; exact Nat.le_of_ble_eq_true rfl) rfl (by decide) ?_
  rw [Try.ntmps11]
  refine AW_k [(0, _), (1, _)] ⟨rfl, rfl, trivial⟩ ?_
  refine AW_r rfl rfl fun K hK => ?_
  simp (disch := omega) [wrap64, List.getElem?_eq_getElem, toNat_pred]
  repeat' first | (exfalso; omega) | (refine ⟨fun _ => ?_, fun _ => ?_⟩) | (refine ⟨by omega, ?_⟩) | (intro _)
  all_goals (refine hK _ ?_; clear hK K)
  all_goals
    refine AW_seq ?_
    refine AW_r rfl rfl fun K hK => ?_
    simp (disch := omega) [wrap64, List.getElem?_eq_getElem, toNat_pred]
    repeat' first | (exfalso; omega) | (refine ⟨fun _ => ?_, fun _ => ?_⟩) | (refine ⟨by omega, ?_⟩) | (intro _)
    all_goals (refine hK _ ?_; clear hK K)
    all_goals
      refine AW_cond rfl (fun hc5 => ?_) (fun hc5 => ?_)
      · try simp at hc5
        all_goals
          refine AW_r rfl rfl fun K hK => ?_
          simp (disch := omega) [wrap64, List.getElem?_eq_getElem, toNat_pred]
          repeat' first | (exfalso; omega) | (refine ⟨fun _ => ?_, fun _ => ?_⟩) | (refine ⟨by omega, ?_⟩) | (intro _)
          all_goals (refine hK _ ?_; clear hK K)
          all_goals
            refine AW_ret (end_s ?_)
            simp (disch := omega) [wrap64, List.getElem?_eq_getElem, toNat_pred]
            all_goals first | (exact eqB_of heq) | (refine eqB_ne fun heq => ?_; subst heq; simp_all [eqB_true, eqB_false, eqB_self]; done) | (refine (eqB_ne fun heq => ?_).symm; subst heq; simp_all [eqB_true, eqB_false, eqB_self]; done) | simp_all [eqB_self]
      · try simp at hc5
        all_goals
          refine AW_skip ?_
          refine AW_id ?_
          refine AW_seq ?_
          refine AW_r rfl rfl fun K hK => ?_
          simp (disch := omega) [wrap64, List.getElem?_eq_getElem, toNat_pred]
          repeat' first | (exfalso; omega) | (refine ⟨fun _ => ?_, fun _ => ?_⟩) | (refine ⟨by omega, ?_⟩) | (intro _)
          all_goals (refine hK _ ?_; clear hK K)
          all_goals
            refine AW_block ?_
            refine AW_loopS (fun mM sS => ∃ (i : Nat), mM = xs.length - i ∧ (i ≤ xs.length ∧ ∀ j, j < i → xs[j]? = ys[j]?) ∧ sS = { env := lkE [(0, .sl 1 (xs.map cS)), (1, .sl 1 (ys.map cS)), (5, (.g (.int .i64 ((i : Nat)))))], ob := formOb [] [] }) ?_ ?_
            · refine ⟨_, LeS.kp [(0, .sl 1 (xs.map cS)), (1, .sl 1 (ys.map cS)), (5, (.g (.int .i64 (((0) : Nat)))))] (by simp [KpE, upd_app, lkE_app, lk_cons]; try rfl), _, 0, rfl, ?_, rfl⟩
              · simp
            · rintro mM sS ⟨i, rfl, ⟨hi, hpre⟩, rfl⟩
              refine AW_seq ?_
              refine AW_r rfl rfl fun K hK => ?_
              simp (disch := omega) [wrap64, List.getElem?_eq_getElem, toNat_pred, cS]
              repeat' first | (exfalso; omega) | (refine ⟨fun _ => ?_, fun _ => ?_⟩) | (refine ⟨by omega, ?_⟩) | (intro _)
              all_goals (refine hK _ ?_; clear hK K)
              all_goals
                refine AW_cond rfl (fun hc6 => ?_) (fun hc6 => ?_)
                · try simp at hc6
                  all_goals
                    have h7 : i < ys.length := by omega
                    refine AW_skip ?_
                    refine AW_id ?_
                    refine AW_seq ?_
                    refine AW_block ?_
                    refine AW_q rfl mix (by kernel_rfl) rfl fun K hK => ?_
                    simp (disch := omega) [wrap64, List.getElem?_eq_getElem, toNat_pred, cS]
                    repeat' first | (exfalso; omega) | (refine ⟨fun _ => ?_, fun _ => ?_⟩) | (refine ⟨by omega, ?_⟩) | (intro _)
                    all_goals (refine hK _ ?_; clear hK K)
                    all_goals
                      refine AW_cond rfl (fun hc7 => ?_) (fun hc7 => ?_)
                      · try simp at hc7
                        all_goals
                          refine AW_r rfl rfl fun K hK => ?_
                          simp (disch := omega) [wrap64, List.getElem?_eq_getElem, toNat_pred, cS]
                          repeat' first | (exfalso; omega) | (refine ⟨fun _ => ?_, fun _ => ?_⟩) | (refine ⟨by omega, ?_⟩) | (intro _)
                          all_goals (refine hK _ ?_; clear hK K)
                          all_goals
                            refine AW_ret (end_s ?_)
                            simp (disch := omega) [wrap64, List.getElem?_eq_getElem, toNat_pred, cS]
                            all_goals first | (exact eqB_of heq) | (refine eqB_ne fun heq => ?_; subst heq; simp_all [eqB_true, eqB_false, eqB_self]; done) | (refine (eqB_ne fun heq => ?_).symm; subst heq; simp_all [eqB_true, eqB_false, eqB_self]; done) | simp_all [eqB_self]
                      · try simp at hc7
                        all_goals
                          refine AW_skip ?_
                          refine AW_id ?_
                          refine AW_re rfl rfl fun K hK => ?_
                          simp (disch := omega) [wrap64, List.getElem?_eq_getElem, toNat_pred, cS]
                          repeat' first | (exfalso; omega) | (refine ⟨fun _ => ?_, fun _ => ?_⟩) | (refine ⟨by omega, ?_⟩) | (intro _)
                          all_goals (refine hK _ ?_; clear hK K)
                          all_goals
                            refine ⟨_, LeS.kp [(0, .sl 1 (xs.map cS)), (1, .sl 1 (ys.map cS)), (5, (.g (.int .i64 (((i + 1) : Nat)))))] (by simp [KpE, upd_app, lkE_app, lk_cons]; try rfl), _, ?_, i + 1, rfl, ?_, rfl⟩
                            · omega
                            · refine ⟨by omega, fun j hj => ?_⟩
                              by_cases hji : j = i
                              · subst hji; simp_all [eqB_true, eqB_false]
                              · exact hpre j (by omega)
                · try simp at hc6
                  all_goals
                    have hi2 : i = xs.length := by omega
                    subst hi2
                    have heq : xs = ys := List.ext_getElem? fun j => by
                      by_cases hj : j < xs.length
                      · exact hpre j hj
                      · rw [List.getElem?_eq_none (by omega), List.getElem?_eq_none (by omega)]
                    refine AW_exit ?_
                    refine AW_id ?_
                    refine AW_r rfl rfl fun K hK => ?_
                    simp (disch := omega) [wrap64, List.getElem?_eq_getElem, toNat_pred, cS]
                    repeat' first | (exfalso; omega) | (refine ⟨fun _ => ?_, fun _ => ?_⟩) | (refine ⟨by omega, ?_⟩) | (intro _)
                    all_goals (refine hK _ ?_; clear hK K)
                    all_goals
                      refine AW_ret (end_s ?_)
                      simp (disch := omega) [wrap64, List.getElem?_eq_getElem, toNat_pred, cS]
                      all_goals first | (exact eqB_of heq) | (refine eqB_ne fun heq => ?_; subst heq; simp_all [eqB_true, eqB_false, eqB_self]; done) | (refine (eqB_ne fun heq => ?_).symm; subst heq; simp_all [eqB_true, eqB_false, eqB_self]; done) | simp_all [eqB_self]
theorem szCSnap (u : DtCSnap) (n : Int) (hn : 0 ≤ n ∧ n ≤ 1048576) (hw : DtCSnap.wf u) : PCall Try.prog 132 [.agg (DtCSnap.cells u), (.g (.int .i64 (n)))] (.g (.int .i64 (szR n (DtCSnap.sz u)))) := by
  have ⟨w0, w1, w2⟩ := hw
  have w02 : u.fName.length ≤ 9223372036854775807 := w0
  have w12 : u.fTag.length ≤ 9223372036854775807 := w1
  have w22 := w2.1
  have z2 := (szS_nonneg lenZ_nonneg) u.fChunks
  refine gcall_of_walk Try.func132 (by rfl) (by rfl) (by rw [Try.ntmps132]; exact Nat.le_of_ble_eq_true rfl) rfl (by decide) ?_
  rw [Try.ntmps132]
  refine AW_k [(0, _), (1, _)] ⟨rfl, rfl, trivial⟩ ?_
  refine AW_r rfl rfl fun K hK => ?_
  simp (disch := omega) [wrap64, List.getElem?_eq_getElem, toNat_pred, szR, DtCSnap.cells]
  repeat' first | (exfalso; omega) | (refine ⟨fun _ => ?_, fun _ => ?_⟩) | (refine ⟨by omega, ?_⟩) | (intro _)
  all_goals (refine hK _ ?_; clear hK K)
  all_goals
    refine AW_r rfl rfl fun K hK => ?_
    simp (disch := omega) [wrap64, List.getElem?_eq_getElem, toNat_pred, szR, DtCSnap.cells]
    repeat' first | (exfalso; omega) | (refine ⟨fun _ => ?_, fun _ => ?_⟩) | (refine ⟨by omega, ?_⟩) | (intro _)
    all_goals (refine hK _ ?_; clear hK K)
    all_goals
      refine AW_seq ?_
      refine AW_r rfl rfl fun K hK => ?_
      simp (disch := omega) [wrap64, List.getElem?_eq_getElem, toNat_pred, szR, DtCSnap.cells]
      repeat' first | (exfalso; omega) | (refine ⟨fun _ => ?_, fun _ => ?_⟩) | (refine ⟨by omega, ?_⟩) | (intro _)
      all_goals (refine hK _ ?_; clear hK K)
      all_goals
        refine AW_cond rfl (fun hc8 => ?_) (fun hc8 => ?_)
        · try simp at hc8
          all_goals
            refine AW_r rfl rfl fun K hK => ?_
            simp (disch := omega) [wrap64, List.getElem?_eq_getElem, toNat_pred, szR, DtCSnap.cells]
            repeat' first | (exfalso; omega) | (refine ⟨fun _ => ?_, fun _ => ?_⟩) | (refine ⟨by omega, ?_⟩) | (intro _)
            all_goals (refine hK _ ?_; clear hK K)
            all_goals
              refine AW_ret (end_s ?_)
              simp (disch := omega) [wrap64, List.getElem?_eq_getElem, toNat_pred, szR, DtCSnap.cells, DtCSnap.sz]
              all_goals first | omega | (simp_all; done) | (split <;> omega) | (split <;> simp_all <;> omega) | (simp_all [szR]; omega)
        · try simp at hc8
          all_goals
            refine AW_skip ?_
            refine AW_id ?_
            refine AW_r rfl rfl fun K hK => ?_
            simp (disch := omega) [wrap64, List.getElem?_eq_getElem, toNat_pred, szR, DtCSnap.cells]
            repeat' first | (exfalso; omega) | (refine ⟨fun _ => ?_, fun _ => ?_⟩) | (refine ⟨by omega, ?_⟩) | (intro _)
            all_goals (refine hK _ ?_; clear hK K)
            all_goals
              refine AW_seq ?_
              refine AW_r rfl rfl fun K hK => ?_
              simp (disch := omega) [wrap64, List.getElem?_eq_getElem, toNat_pred, szR, DtCSnap.cells]
              repeat' first | (exfalso; omega) | (refine ⟨fun _ => ?_, fun _ => ?_⟩) | (refine ⟨by omega, ?_⟩) | (intro _)
              all_goals (refine hK _ ?_; clear hK K)
              all_goals
                refine AW_cond rfl (fun hc9 => ?_) (fun hc9 => ?_)
                · try simp at hc9
                  all_goals
                    refine AW_r rfl rfl fun K hK => ?_
                    simp (disch := omega) [wrap64, List.getElem?_eq_getElem, toNat_pred, szR, DtCSnap.cells]
                    repeat' first | (exfalso; omega) | (refine ⟨fun _ => ?_, fun _ => ?_⟩) | (refine ⟨by omega, ?_⟩) | (intro _)
                    all_goals (refine hK _ ?_; clear hK K)
                    all_goals
                      refine AW_ret (end_s ?_)
                      simp (disch := omega) [wrap64, List.getElem?_eq_getElem, toNat_pred, szR, DtCSnap.cells, DtCSnap.sz]
                      all_goals first | omega | (simp_all; done) | (split <;> omega) | (split <;> simp_all <;> omega) | (simp_all [szR]; omega)
                · try simp at hc9
                  all_goals
                    refine AW_skip ?_
                    refine AW_id ?_
                    refine AW_r rfl rfl fun K hK => ?_
                    simp (disch := omega) [wrap64, List.getElem?_eq_getElem, toNat_pred, szR, DtCSnap.cells]
                    repeat' first | (exfalso; omega) | (refine CKd_v (am2s_cons am2_sl (am2s_cons am2_g am2s_nil)) (szStringS _ _ (by omega) (by assumption)) rfl ?_; simp (disch := omega) [wrap64, List.getElem?_eq_getElem, toNat_pred, szR, DtCSnap.cells]) | (refine ⟨fun _ => ?_, fun _ => ?_⟩) | (refine ⟨by omega, ?_⟩) | (intro _)
                    all_goals (refine hK _ ?_; clear hK K)
                    all_goals
                      refine AW_seq ?_
                      refine AW_r rfl rfl fun K hK => ?_
                      simp (disch := omega) [wrap64, List.getElem?_eq_getElem, toNat_pred, szR, DtCSnap.cells]
                      repeat' first | (exfalso; omega) | (refine ⟨fun _ => ?_, fun _ => ?_⟩) | (refine ⟨by omega, ?_⟩) | (intro _)
                      all_goals (refine hK _ ?_; clear hK K)
                      all_goals
                        refine AW_cond rfl (fun hc10 => ?_) (fun hc10 => ?_)
                        · try simp at hc10
                          all_goals
                            refine AW_r rfl rfl fun K hK => ?_
                            simp (disch := omega) [wrap64, List.getElem?_eq_getElem, toNat_pred, szR, DtCSnap.cells]
                            repeat' first | (exfalso; omega) | (refine ⟨fun _ => ?_, fun _ => ?_⟩) | (refine ⟨by omega, ?_⟩) | (intro _)
                            all_goals (refine hK _ ?_; clear hK K)
                            all_goals
                              refine AW_ret (end_s ?_)
                              simp (disch := omega) [wrap64, List.getElem?_eq_getElem, toNat_pred, szR, DtCSnap.cells, DtCSnap.sz]
                              all_goals first | omega | (simp_all; done) | (split <;> omega) | (split <;> simp_all <;> omega) | (simp_all [szR]; omega)
                        · try simp at hc10
                          all_goals
                            refine AW_skip ?_
                            refine AW_id ?_
                            refine AW_r rfl rfl fun K hK => ?_
                            simp (disch := omega) [wrap64, List.getElem?_eq_getElem, toNat_pred, szR, DtCSnap.cells]
                            repeat' first | (exfalso; omega) | (refine ⟨fun _ => ?_, fun _ => ?_⟩) | (refine ⟨by omega, ?_⟩) | (intro _)
                            all_goals (refine hK _ ?_; clear hK K)
                            all_goals
                              refine AW_ret (end_s ?_)
                              simp (disch := omega) [wrap64, List.getElem?_eq_getElem, toNat_pred, szR, DtCSnap.cells, DtCSnap.sz]
                              all_goals first | omega | (simp_all; done) | (split <;> omega) | (split <;> simp_all <;> omega) | (simp_all [szR]; omega)
theorem eqCSnap (u v : DtCSnap) (hs : DtCSnap.sz u ≤ 1048576) : PCall Try.prog 142 [.agg (DtCSnap.cells u), .agg (DtCSnap.cells v)] (.g (.bool (eqB u v))) := by
  simp only [DtCSnap.sz] at hs
  have z2 := (szS_nonneg lenZ_nonneg) u.fChunks
  have s0 : (u.fName.length : Int) ≤ 1048576 := by omega
  have s1 : (u.fTag.length : Int) ≤ 1048576 := by omega
  have s2 : szS lenZ u.fChunks ≤ 1048576 := by omega
  have he := DtCSnap.ext_iff u v
  refine gcall_of_walk Try.func142 (by rfl) (by rfl) (by rw [Try.ntmps142]; exact Nat.le_of_ble_eq_true rfl) rfl (by decide) ?_
  rw [Try.ntmps142]
  refine AW_k [(0, _), (1, _)] ⟨rfl, rfl, trivial⟩ ?_
  refine AW_r rfl rfl fun K hK => ?_
  simp [DtCSnap.cells]
  repeat' first | (refine ⟨fun _ => ?_, fun _ => ?_⟩) | (refine ⟨by omega, ?_⟩) | (intro _)
  all_goals (refine hK _ ?_; clear hK K)
  all_goals
    refine AW_seq ?_
    refine AW_r rfl rfl fun K hK => ?_
    simp [DtCSnap.cells]
    repeat' first | (refine ⟨fun _ => ?_, fun _ => ?_⟩) | (refine ⟨by omega, ?_⟩) | (intro _)
    all_goals (refine hK _ ?_; clear hK K)
    all_goals
      refine AW_cond rfl (fun hc11 => ?_) (fun hc11 => ?_)
      · try simp at hc11
        all_goals
          refine AW_r rfl rfl fun K hK => ?_
          simp [DtCSnap.cells]
          repeat' first | (refine ⟨fun _ => ?_, fun _ => ?_⟩) | (refine ⟨by omega, ?_⟩) | (intro _)
          all_goals (refine hK _ ?_; clear hK K)
          all_goals
            refine AW_ret (end_s ?_)
            simp [DtCSnap.cells]
            all_goals first | (refine eqB_of (he.mpr ?_); simp_all [eqB_true, eqB_false]; done) | (refine eqB_ne fun h => ?_; rw [he] at h; simp_all [eqB_true, eqB_false, eqB_self]; done) | (refine (eqB_of (he.mpr ?_)).symm; simp_all [eqB_true, eqB_false]; done) | (refine (eqB_ne fun h => ?_).symm; rw [he] at h; simp_all [eqB_true, eqB_false, eqB_self]; done)
      · try simp at hc11
        all_goals
          refine AW_skip ?_
          refine AW_id ?_
          refine AW_seq ?_
          refine AW_r rfl rfl fun K hK => ?_
          simp [DtCSnap.cells]
          repeat' first | (refine ⟨fun _ => ?_, fun _ => ?_⟩) | (refine ⟨by omega, ?_⟩) | (intro _)
          all_goals (refine hK _ ?_; clear hK K)
          all_goals
            refine AW_cond rfl (fun hc12 => ?_) (fun hc12 => ?_)
            · try simp at hc12
              all_goals
                refine AW_r rfl rfl fun K hK => ?_
                simp [DtCSnap.cells]
                repeat' first | (refine ⟨fun _ => ?_, fun _ => ?_⟩) | (refine ⟨by omega, ?_⟩) | (intro _)
                all_goals (refine hK _ ?_; clear hK K)
                all_goals
                  refine AW_ret (end_s ?_)
                  simp [DtCSnap.cells]
                  all_goals first | (refine eqB_of (he.mpr ?_); simp_all [eqB_true, eqB_false]; done) | (refine eqB_ne fun h => ?_; rw [he] at h; simp_all [eqB_true, eqB_false, eqB_self]; done) | (refine (eqB_of (he.mpr ?_)).symm; simp_all [eqB_true, eqB_false]; done) | (refine (eqB_ne fun h => ?_).symm; rw [he] at h; simp_all [eqB_true, eqB_false, eqB_self]; done)
            · try simp at hc12
              all_goals
                refine AW_skip ?_
                refine AW_id ?_
                refine AW_seq ?_
                refine AW_r rfl rfl fun K hK => ?_
                simp [DtCSnap.cells]
                repeat' first | (refine CKd_v (am2s_cons am2_sl (am2s_cons am2_sl am2s_nil)) (eqStringS _ _ (by first | assumption | omega)) rfl ?_; simp [DtCSnap.cells]) | (refine ⟨fun _ => ?_, fun _ => ?_⟩) | (refine ⟨by omega, ?_⟩) | (intro _)
                all_goals (refine hK _ ?_; clear hK K)
                all_goals
                  refine AW_cond rfl (fun hc13 => ?_) (fun hc13 => ?_)
                  · try simp at hc13
                    all_goals
                      refine AW_r rfl rfl fun K hK => ?_
                      simp [DtCSnap.cells]
                      repeat' first | (refine ⟨fun _ => ?_, fun _ => ?_⟩) | (refine ⟨by omega, ?_⟩) | (intro _)
                      all_goals (refine hK _ ?_; clear hK K)
                      all_goals
                        refine AW_ret (end_s ?_)
                        simp [DtCSnap.cells]
                        all_goals first | (refine eqB_of (he.mpr ?_); simp_all [eqB_true, eqB_false]; done) | (refine eqB_ne fun h => ?_; rw [he] at h; simp_all [eqB_true, eqB_false, eqB_self]; done) | (refine (eqB_of (he.mpr ?_)).symm; simp_all [eqB_true, eqB_false]; done) | (refine (eqB_ne fun h => ?_).symm; rw [he] at h; simp_all [eqB_true, eqB_false, eqB_self]; done)
                  · try simp at hc13
                    all_goals
                      refine AW_skip ?_
                      refine AW_id ?_
                      refine AW_r rfl rfl fun K hK => ?_
                      simp [DtCSnap.cells]
                      repeat' first | (refine ⟨fun _ => ?_, fun _ => ?_⟩) | (refine ⟨by omega, ?_⟩) | (intro _)
                      all_goals (refine hK _ ?_; clear hK K)
                      all_goals
                        refine AW_ret (end_s ?_)
                        simp [DtCSnap.cells]
                        all_goals first | (refine eqB_of (he.mpr ?_); simp_all [eqB_true, eqB_false]; done) | (refine eqB_ne fun h => ?_; rw [he] at h; simp_all [eqB_true, eqB_false, eqB_self]; done) | (refine (eqB_of (he.mpr ?_)).symm; simp_all [eqB_true, eqB_false]; done) | (refine (eqB_ne fun h => ?_).symm; rw [he] at h; simp_all [eqB_true, eqB_false, eqB_self]; done)
theorem szCSnapS (xs : List DtCSnap) (n : Int) (hn : 0 ≤ n ∧ n ≤ 1048576) (hw : (wfS DtCSnap.wf) xs) : PCall Try.prog 97 [.sl 3 (xs.map DtCSnap.cells), (.g (.int .i64 (n)))] (.g (.int .i64 (szR n (szS DtCSnap.sz xs)))) := by
  have hq := sumZ_nonneg DtCSnap.sz_nonneg xs
  have hw1 := hw.1
  refine gcall_of_walk Try.func97 (by rfl) (by rfl) (by rw [Try.ntmps97]; exact Nat.le_of_ble_eq_true rfl) rfl (by decide) ?_
  rw [Try.ntmps97]
  refine AW_k [(0, _), (1, _)] ⟨rfl, rfl, trivial⟩ ?_
  refine AW_r rfl rfl fun K hK => ?_
  simp (disch := omega) [wrap64, List.getElem?_eq_getElem, toNat_pred, szR]
  repeat' first | (exfalso; omega) | (refine ⟨fun _ => ?_, fun _ => ?_⟩) | (refine ⟨by omega, ?_⟩) | (intro _)
  all_goals (refine hK _ ?_; clear hK K)
  all_goals
    refine AW_r rfl rfl fun K hK => ?_
    simp (disch := omega) [wrap64, List.getElem?_eq_getElem, toNat_pred, szR]
    repeat' first | (exfalso; omega) | (refine ⟨fun _ => ?_, fun _ => ?_⟩) | (refine ⟨by omega, ?_⟩) | (intro _)
    all_goals (refine hK _ ?_; clear hK K)
    all_goals
      refine AW_seq ?_
      refine AW_r rfl rfl fun K hK => ?_
      simp (disch := omega) [wrap64, List.getElem?_eq_getElem, toNat_pred, szR]
      repeat' first | (exfalso; omega) | (refine ⟨fun _ => ?_, fun _ => ?_⟩) | (refine ⟨by omega, ?_⟩) | (intro _)
      all_goals (refine hK _ ?_; clear hK K)
      all_goals
        refine AW_cond rfl (fun hc14 => ?_) (fun hc14 => ?_)
        · try simp at hc14
          all_goals
            refine AW_r rfl rfl fun K hK => ?_
            simp (disch := omega) [wrap64, List.getElem?_eq_getElem, toNat_pred, szR]
            repeat' first | (exfalso; omega) | (refine ⟨fun _ => ?_, fun _ => ?_⟩) | (refine ⟨by omega, ?_⟩) | (intro _)
            all_goals (refine hK _ ?_; clear hK K)
            all_goals
              refine AW_ret (end_s ?_)
              simp (disch := omega) [wrap64, List.getElem?_eq_getElem, toNat_pred, szR, szS]
              all_goals first | omega | (split <;> omega)
        · try simp at hc14
          all_goals
            refine AW_skip ?_
            refine AW_id ?_
            refine AW_seq ?_
            refine AW_r rfl rfl fun K hK => ?_
            simp (disch := omega) [wrap64, List.getElem?_eq_getElem, toNat_pred, szR]
            repeat' first | (exfalso; omega) | (refine ⟨fun _ => ?_, fun _ => ?_⟩) | (refine ⟨by omega, ?_⟩) | (intro _)
            all_goals (refine hK _ ?_; clear hK K)
            all_goals
              refine AW_block ?_
              refine AW_loopS (fun mM sS => ∃ (i : Nat), mM = xs.length - i ∧ (i ≤ xs.length ∧ 0 ≤ n - xs.length - sumZ DtCSnap.sz (xs.take i)) ∧ sS = { env := lkE [(0, .sl 3 (xs.map DtCSnap.cells)), (1, (.g (.int .i64 (n - xs.length - sumZ DtCSnap.sz (xs.take i))))), (5, (.g (.int .i64 ((i : Nat)))))], ob := formOb [] [] }) ?_ ?_
              · refine ⟨_, LeS.kp [(0, .sl 3 (xs.map DtCSnap.cells)), (1, (.g (.int .i64 (n - xs.length - sumZ DtCSnap.sz (xs.take (0)))))), (5, (.g (.int .i64 (((0) : Nat)))))] (by simp [KpE, upd_app, lkE_app, lk_cons, sumZ_nil]; try first | rfl | omega), _, 0, rfl, ?_, rfl⟩
                · simp [sumZ_nil]; omega
              · rintro mM sS ⟨i, rfl, ⟨hi, hn⟩, rfl⟩
                have hz := sumZ_nonneg DtCSnap.sz_nonneg (xs.take i)
                have hz2 := sumZ_take_le DtCSnap.sz_nonneg xs i
                refine AW_seq ?_
                refine AW_r rfl rfl fun K hK => ?_
                simp (disch := omega) [wrap64, List.getElem?_eq_getElem, toNat_pred, szR, DtCSnap.cells]
                repeat' first | (exfalso; omega) | (refine ⟨fun _ => ?_, fun _ => ?_⟩) | (refine ⟨by omega, ?_⟩) | (intro _)
                all_goals (refine hK _ ?_; clear hK K)
                all_goals
                  refine AW_cond rfl (fun hc15 => ?_) (fun hc15 => ?_)
                  · try simp at hc15
                    all_goals
                      have hl := sumZ_take (f := DtCSnap.sz) xs i (by omega)
                      have hwE : DtCSnap.wf xs[i] := hw.2 _ (List.getElem_mem _)
                      have hz3 := sumZ_take_le DtCSnap.sz_nonneg xs (i + 1)
                      have hzE := DtCSnap.sz_nonneg xs[i]
                      have hszR : szR (n - xs.length - sumZ DtCSnap.sz (xs.take i)) (DtCSnap.sz xs[i]) = n - xs.length - sumZ DtCSnap.sz (xs.take (i + 1)) ∨ (szR (n - xs.length - sumZ DtCSnap.sz (xs.take i)) (DtCSnap.sz xs[i]) = -1 ∧ n - xs.length - sumZ DtCSnap.sz (xs.take (i + 1)) < 0) := by unfold szR; split <;> omega
                      refine AW_skip ?_
                      refine AW_id ?_
                      refine AW_seq ?_
                      refine AW_block ?_
                      refine AW_r rfl rfl fun K hK => ?_
                      simp (disch := omega) [wrap64, List.getElem?_eq_getElem, toNat_pred, szR, DtCSnap.cells]
                      repeat' first | (exfalso; omega) | (refine CKd_v (am2s_cons (am2_agg rfl) (am2s_cons am2_g am2s_nil)) (szCSnap _ _ (by omega) (by first | exact hwE | exact hw)) rfl ?_; simp (disch := omega) [wrap64, List.getElem?_eq_getElem, toNat_pred, szR, DtCSnap.cells]) | (refine ⟨fun _ => ?_, fun _ => ?_⟩) | (refine ⟨by omega, ?_⟩) | (intro _)
                      all_goals (refine hK _ ?_; clear hK K)
                      all_goals
                        refine AW_r rfl rfl fun K hK => ?_
                        simp (disch := omega) [wrap64, List.getElem?_eq_getElem, toNat_pred, szR, DtCSnap.cells]
                        repeat' first | (exfalso; omega) | (refine ⟨fun _ => ?_, fun _ => ?_⟩) | (refine ⟨by omega, ?_⟩) | (intro _)
                        all_goals (refine hK _ ?_; clear hK K)
                        all_goals
                          refine AW_cond rfl (fun hc16 => ?_) (fun hc16 => ?_)
                          · try simp at hc16
                            all_goals
                              refine AW_r rfl rfl fun K hK => ?_
                              simp (disch := omega) [wrap64, List.getElem?_eq_getElem, toNat_pred, szR, DtCSnap.cells]
                              repeat' first | (exfalso; omega) | (refine ⟨fun _ => ?_, fun _ => ?_⟩) | (refine ⟨by omega, ?_⟩) | (intro _)
                              all_goals (refine hK _ ?_; clear hK K)
                              all_goals
                                refine AW_ret (end_s ?_)
                                simp (disch := omega) [wrap64, List.getElem?_eq_getElem, toNat_pred, szR, DtCSnap.cells, szS]
                                all_goals first | omega | (split <;> omega)
                          · try simp at hc16
                            all_goals
                              refine AW_skip ?_
                              refine AW_id ?_
                              refine AW_re rfl rfl fun K hK => ?_
                              simp (disch := omega) [wrap64, List.getElem?_eq_getElem, toNat_pred, szR, DtCSnap.cells]
                              repeat' first | (exfalso; omega) | (refine ⟨fun _ => ?_, fun _ => ?_⟩) | (refine ⟨by omega, ?_⟩) | (intro _)
                              all_goals (refine hK _ ?_; clear hK K)
                              all_goals
                                refine ⟨_, LeS.kp [(0, .sl 3 (xs.map DtCSnap.cells)), (1, (.g (.int .i64 (n - xs.length - sumZ DtCSnap.sz (xs.take (i + 1)))))), (5, (.g (.int .i64 (((i + 1) : Nat)))))] (by simp [KpE, upd_app, lkE_app, lk_cons, sumZ_nil]; try first | rfl | omega), _, ?_, i + 1, rfl, ?_, rfl⟩
                                · omega
                                · omega
                  · try simp at hc15
                    all_goals
                      have hi2 : i = xs.length := by omega
                      subst hi2
                      simp only [List.take_length] at *
                      refine AW_exit ?_
                      refine AW_id ?_
                      refine AW_r rfl rfl fun K hK => ?_
                      simp (disch := omega) [wrap64, List.getElem?_eq_getElem, toNat_pred, szR, DtCSnap.cells]
                      repeat' first | (exfalso; omega) | (refine ⟨fun _ => ?_, fun _ => ?_⟩) | (refine ⟨by omega, ?_⟩) | (intro _)
                      all_goals (refine hK _ ?_; clear hK K)
                      all_goals
                        refine AW_ret (end_s ?_)
                        simp (disch := omega) [wrap64, List.getElem?_eq_getElem, toNat_pred, szR, DtCSnap.cells, szS]
                        all_goals first | omega | (split <;> omega)
theorem eqCSnapS (xs ys : List DtCSnap) (hs : szS DtCSnap.sz xs ≤ 1048576) : PCall Try.prog 113 [.sl 3 (xs.map DtCSnap.cells), .sl 3 (ys.map DtCSnap.cells)] (.g (.bool (eqB xs ys))) := by
  have hn : xs.length ≤ 1048576 := by have := sumZ_nonneg DtCSnap.sz_nonneg xs; simp only [szS] at hs; omega
  refine gcall_of_walk Try.func113 (by rfl) (by rfl) (by rw [Try.ntmps113]; exact Nat.le_of_ble_eq_true rfl) rfl (by decide) ?_
  rw [Try.ntmps113]
  refine AW_k [(0, _), (1, _)] ⟨rfl, rfl, trivial⟩ ?_
  refine AW_r rfl rfl fun K hK => ?_
  simp (disch := omega) [wrap64, List.getElem?_eq_getElem, toNat_pred]
  repeat' first | (exfalso; omega) | (refine ⟨fun _ => ?_, fun _ => ?_⟩) | (refine ⟨by omega, ?_⟩) | (intro _)
  all_goals (refine hK _ ?_; clear hK K)
  all_goals
    refine AW_seq ?_
    refine AW_r rfl rfl fun K hK => ?_
    simp (disch := omega) [wrap64, List.getElem?_eq_getElem, toNat_pred]
    repeat' first | (exfalso; omega) | (refine ⟨fun _ => ?_, fun _ => ?_⟩) | (refine ⟨by omega, ?_⟩) | (intro _)
    all_goals (refine hK _ ?_; clear hK K)
    all_goals
      refine AW_cond rfl (fun hc18 => ?_) (fun hc18 => ?_)
      · try simp at hc18
        all_goals
          refine AW_r rfl rfl fun K hK => ?_
          simp (disch := omega) [wrap64, List.getElem?_eq_getElem, toNat_pred]
          repeat' first | (exfalso; omega) | (refine ⟨fun _ => ?_, fun _ => ?_⟩) | (refine ⟨by omega, ?_⟩) | (intro _)
          all_goals (refine hK _ ?_; clear hK K)
          all_goals
            refine AW_ret (end_s ?_)
            simp (disch := omega) [wrap64, List.getElem?_eq_getElem, toNat_pred]
            all_goals first | (exact eqB_of heq) | (refine eqB_ne fun heq => ?_; subst heq; simp_all [eqB_true, eqB_false, eqB_self]; done) | (refine (eqB_ne fun heq => ?_).symm; subst heq; simp_all [eqB_true, eqB_false, eqB_self]; done) | simp_all [eqB_self]
      · try simp at hc18
        all_goals
          refine AW_skip ?_
          refine AW_id ?_
          refine AW_seq ?_
          refine AW_r rfl rfl fun K hK => ?_
          simp (disch := omega) [wrap64, List.getElem?_eq_getElem, toNat_pred]
          repeat' first | (exfalso; omega) | (refine ⟨fun _ => ?_, fun _ => ?_⟩) | (refine ⟨by omega, ?_⟩) | (intro _)
          all_goals (refine hK _ ?_; clear hK K)
          all_goals
            refine AW_block ?_
            refine AW_loopS (fun mM sS => ∃ (i : Nat), mM = xs.length - i ∧ (i ≤ xs.length ∧ ∀ j, j < i → xs[j]? = ys[j]?) ∧ sS = { env := lkE [(0, .sl 3 (xs.map DtCSnap.cells)), (1, .sl 3 (ys.map DtCSnap.cells)), (5, (.g (.int .i64 ((i : Nat)))))], ob := formOb [] [] }) ?_ ?_
            · refine ⟨_, LeS.kp [(0, .sl 3 (xs.map DtCSnap.cells)), (1, .sl 3 (ys.map DtCSnap.cells)), (5, (.g (.int .i64 (((0) : Nat)))))] (by simp [KpE, upd_app, lkE_app, lk_cons]; try rfl), _, 0, rfl, ?_, rfl⟩
              · simp
            · rintro mM sS ⟨i, rfl, ⟨hi, hpre⟩, rfl⟩
              refine AW_seq ?_
              refine AW_r rfl rfl fun K hK => ?_
              simp (disch := omega) [wrap64, List.getElem?_eq_getElem, toNat_pred, DtCSnap.cells]
              repeat' first | (exfalso; omega) | (refine ⟨fun _ => ?_, fun _ => ?_⟩) | (refine ⟨by omega, ?_⟩) | (intro _)
              all_goals (refine hK _ ?_; clear hK K)
              all_goals
                refine AW_cond rfl (fun hc19 => ?_) (fun hc19 => ?_)
                · try simp at hc19
                  all_goals
                    have h7 : i < ys.length := by omega
                    have hsE : DtCSnap.sz xs[i] ≤ 1048576 := by have := sumZ_mem_le DtCSnap.sz_nonneg xs xs[i] (List.getElem_mem _); simp only [szS] at hs; omega
                    refine AW_skip ?_
                    refine AW_id ?_
                    refine AW_seq ?_
                    refine AW_block ?_
                    refine AW_q rfl mix (by kernel_rfl) rfl fun K hK => ?_
                    simp (disch := omega) [wrap64, List.getElem?_eq_getElem, toNat_pred, DtCSnap.cells]
                    repeat' first | (exfalso; omega) | (refine CKd_v (am2s_cons (am2_agg rfl) (am2s_cons (am2_agg rfl) am2s_nil)) (eqCSnap _ _ (by first | assumption | omega)) rfl ?_; simp (disch := omega) [wrap64, List.getElem?_eq_getElem, toNat_pred, DtCSnap.cells]) | (refine ⟨fun _ => ?_, fun _ => ?_⟩) | (refine ⟨by omega, ?_⟩) | (intro _)
                    all_goals (refine hK _ ?_; clear hK K)
                    all_goals
                      refine AW_cond rfl (fun hc20 => ?_) (fun hc20 => ?_)
                      · try simp at hc20
                        all_goals
                          refine AW_r rfl rfl fun K hK => ?_
                          simp (disch := omega) [wrap64, List.getElem?_eq_getElem, toNat_pred, DtCSnap.cells]
                          repeat' first | (exfalso; omega) | (refine ⟨fun _ => ?_, fun _ => ?_⟩) | (refine ⟨by omega, ?_⟩) | (intro _)
                          all_goals (refine hK _ ?_; clear hK K)
                          all_goals
                            refine AW_ret (end_s ?_)
                            simp (disch := omega) [wrap64, List.getElem?_eq_getElem, toNat_pred, DtCSnap.cells]
                            all_goals first | (exact eqB_of heq) | (refine eqB_ne fun heq => ?_; subst heq; simp_all [eqB_true, eqB_false, eqB_self]; done) | (refine (eqB_ne fun heq => ?_).symm; subst heq; simp_all [eqB_true, eqB_false, eqB_self]; done) | simp_all [eqB_self]
                      · try simp at hc20
                        all_goals
                          refine AW_skip ?_
                          refine AW_id ?_
                          refine AW_re rfl rfl fun K hK => ?_
                          simp (disch := omega) [wrap64, List.getElem?_eq_getElem, toNat_pred, DtCSnap.cells]
                          repeat' first | (exfalso; omega) | (refine ⟨fun _ => ?_, fun _ => ?_⟩) | (refine ⟨by omega, ?_⟩) | (intro _)
                          all_goals (refine hK _ ?_; clear hK K)
                          all_goals
                            refine ⟨_, LeS.kp [(0, .sl 3 (xs.map DtCSnap.cells)), (1, .sl 3 (ys.map DtCSnap.cells)), (5, (.g (.int .i64 (((i + 1) : Nat)))))] (by simp [KpE, upd_app, lkE_app, lk_cons]; try rfl), _, ?_, i + 1, rfl, ?_, rfl⟩
                            · omega
                            · refine ⟨by omega, fun j hj => ?_⟩
                              by_cases hji : j = i
                              · subst hji; simp_all [eqB_true, eqB_false]
                              · exact hpre j (by omega)
                · try simp at hc19
                  all_goals
                    have hi2 : i = xs.length := by omega
                    subst hi2
                    have heq : xs = ys := List.ext_getElem? fun j => by
                      by_cases hj : j < xs.length
                      · exact hpre j hj
                      · rw [List.getElem?_eq_none (by omega), List.getElem?_eq_none (by omega)]
                    refine AW_exit ?_
                    refine AW_id ?_
                    refine AW_r rfl rfl fun K hK => ?_
                    simp (disch := omega) [wrap64, List.getElem?_eq_getElem, toNat_pred, DtCSnap.cells]
                    repeat' first | (exfalso; omega) | (refine ⟨fun _ => ?_, fun _ => ?_⟩) | (refine ⟨by omega, ?_⟩) | (intro _)
                    all_goals (refine hK _ ?_; clear hK K)
                    all_goals
                      refine AW_ret (end_s ?_)
                      simp (disch := omega) [wrap64, List.getElem?_eq_getElem, toNat_pred, DtCSnap.cells]
                      all_goals first | (exact eqB_of heq) | (refine eqB_ne fun heq => ?_; subst heq; simp_all [eqB_true, eqB_false, eqB_self]; done) | (refine (eqB_ne fun heq => ?_).symm; subst heq; simp_all [eqB_true, eqB_false, eqB_self]; done) | simp_all [eqB_self]
theorem szCSet (u : DtCSet) (n : Int) (hn : 0 ≤ n ∧ n ≤ 1048576) (hw : DtCSet.wf u) : PCall Try.prog 63 [.agg (DtCSet.cells u), (.g (.int .i64 (n)))] (.g (.int .i64 (szR n (DtCSet.sz u)))) := by
  have ⟨w0, w1⟩ := hw
  have w02 : u.fName.length ≤ 9223372036854775807 := w0
  have w12 := w1.1
  have z1 := (szS_nonneg DtCSnap.sz_nonneg) u.fSnaps
  refine gcall_of_walk Try.func63 (by rfl) (by rfl) (by rw [Try.ntmps63]; exact Nat.le_of_ble_eq_true rfl) rfl (by decide) ?_
  rw [Try.ntmps63]
  refine AW_k [(0, _), (1, _)] ⟨rfl, rfl, trivial⟩ ?_
  refine AW_r rfl rfl fun K hK => ?_
  simp (disch := omega) [wrap64, List.getElem?_eq_getElem, toNat_pred, szR, DtCSet.cells]
  repeat' first | (exfalso; omega) | (refine ⟨fun _ => ?_, fun _ => ?_⟩) | (refine ⟨by omega, ?_⟩) | (intro _)
  all_goals (refine hK _ ?_; clear hK K)
  all_goals
    refine AW_r rfl rfl fun K hK => ?_
    simp (disch := omega) [wrap64, List.getElem?_eq_getElem, toNat_pred, szR, DtCSet.cells]
    repeat' first | (exfalso; omega) | (refine ⟨fun _ => ?_, fun _ => ?_⟩) | (refine ⟨by omega, ?_⟩) | (intro _)
    all_goals (refine hK _ ?_; clear hK K)
    all_goals
      refine AW_seq ?_
      refine AW_r rfl rfl fun K hK => ?_
      simp (disch := omega) [wrap64, List.getElem?_eq_getElem, toNat_pred, szR, DtCSet.cells]
      repeat' first | (exfalso; omega) | (refine ⟨fun _ => ?_, fun _ => ?_⟩) | (refine ⟨by omega, ?_⟩) | (intro _)
      all_goals (refine hK _ ?_; clear hK K)
      all_goals
        refine AW_cond rfl (fun hc21 => ?_) (fun hc21 => ?_)
        · try simp at hc21
          all_goals
            refine AW_r rfl rfl fun K hK => ?_
            simp (disch := omega) [wrap64, List.getElem?_eq_getElem, toNat_pred, szR, DtCSet.cells]
            repeat' first | (exfalso; omega) | (refine ⟨fun _ => ?_, fun _ => ?_⟩) | (refine ⟨by omega, ?_⟩) | (intro _)
            all_goals (refine hK _ ?_; clear hK K)
            all_goals
              refine AW_ret (end_s ?_)
              simp (disch := omega) [wrap64, List.getElem?_eq_getElem, toNat_pred, szR, DtCSet.cells, DtCSet.sz]
              all_goals first | omega | (simp_all; done) | (split <;> omega) | (split <;> simp_all <;> omega) | (simp_all [szR]; omega)
        · try simp at hc21
          all_goals
            refine AW_skip ?_
            refine AW_id ?_
            refine AW_r rfl rfl fun K hK => ?_
            simp (disch := omega) [wrap64, List.getElem?_eq_getElem, toNat_pred, szR, DtCSet.cells]
            repeat' first | (exfalso; omega) | (refine CKd_v (am2s_cons am2_sl (am2s_cons am2_g am2s_nil)) (szCSnapS _ _ (by omega) (by assumption)) rfl ?_; simp (disch := omega) [wrap64, List.getElem?_eq_getElem, toNat_pred, szR, DtCSet.cells]) | (refine ⟨fun _ => ?_, fun _ => ?_⟩) | (refine ⟨by omega, ?_⟩) | (intro _)
            all_goals (refine hK _ ?_; clear hK K)
            all_goals
              refine AW_seq ?_
              refine AW_r rfl rfl fun K hK => ?_
              simp (disch := omega) [wrap64, List.getElem?_eq_getElem, toNat_pred, szR, DtCSet.cells]
              repeat' first | (exfalso; omega) | (refine ⟨fun _ => ?_, fun _ => ?_⟩) | (refine ⟨by omega, ?_⟩) | (intro _)
              all_goals (refine hK _ ?_; clear hK K)
              all_goals
                refine AW_cond rfl (fun hc22 => ?_) (fun hc22 => ?_)
                · try simp at hc22
                  all_goals
                    refine AW_r rfl rfl fun K hK => ?_
                    simp (disch := omega) [wrap64, List.getElem?_eq_getElem, toNat_pred, szR, DtCSet.cells]
                    repeat' first | (exfalso; omega) | (refine ⟨fun _ => ?_, fun _ => ?_⟩) | (refine ⟨by omega, ?_⟩) | (intro _)
                    all_goals (refine hK _ ?_; clear hK K)
                    all_goals
                      refine AW_ret (end_s ?_)
                      simp (disch := omega) [wrap64, List.getElem?_eq_getElem, toNat_pred, szR, DtCSet.cells, DtCSet.sz]
                      all_goals first | omega | (simp_all; done) | (split <;> omega) | (split <;> simp_all <;> omega) | (simp_all [szR]; omega)
                · try simp at hc22
                  all_goals
                    refine AW_skip ?_
                    refine AW_id ?_
                    refine AW_r rfl rfl fun K hK => ?_
                    simp (disch := omega) [wrap64, List.getElem?_eq_getElem, toNat_pred, szR, DtCSet.cells]
                    repeat' first | (exfalso; omega) | (refine ⟨fun _ => ?_, fun _ => ?_⟩) | (refine ⟨by omega, ?_⟩) | (intro _)
                    all_goals (refine hK _ ?_; clear hK K)
                    all_goals
                      refine AW_ret (end_s ?_)
                      simp (disch := omega) [wrap64, List.getElem?_eq_getElem, toNat_pred, szR, DtCSet.cells, DtCSet.sz]
                      all_goals first | omega | (simp_all; done) | (split <;> omega) | (split <;> simp_all <;> omega) | (simp_all [szR]; omega)
theorem eqCSet (u v : DtCSet) (hs : DtCSet.sz u ≤ 1048576) : PCall Try.prog 71 [.agg (DtCSet.cells u), .agg (DtCSet.cells v)] (.g (.bool (eqB u v))) := by
  simp only [DtCSet.sz] at hs
  have z1 := (szS_nonneg DtCSnap.sz_nonneg) u.fSnaps
  have s0 : (u.fName.length : Int) ≤ 1048576 := by omega
  have s1 : szS DtCSnap.sz u.fSnaps ≤ 1048576 := by omega
  have he := DtCSet.ext_iff u v
  refine gcall_of_walk Try.func71 (by rfl) (by rfl) (by rw [Try.ntmps71]; exact Nat.le_of_ble_eq_true rfl) rfl (by decide) ?_
  rw [Try.ntmps71]
  refine AW_k [(0, _), (1, _)] ⟨rfl, rfl, trivial⟩ ?_
  refine AW_r rfl rfl fun K hK => ?_
  simp [DtCSet.cells]
  repeat' first | (refine ⟨fun _ => ?_, fun _ => ?_⟩) | (refine ⟨by omega, ?_⟩) | (intro _)
  all_goals (refine hK _ ?_; clear hK K)
  all_goals
    refine AW_seq ?_
    refine AW_r rfl rfl fun K hK => ?_
    simp [DtCSet.cells]
    repeat' first | (refine ⟨fun _ => ?_, fun _ => ?_⟩) | (refine ⟨by omega, ?_⟩) | (intro _)
    all_goals (refine hK _ ?_; clear hK K)
    all_goals
      refine AW_cond rfl (fun hc23 => ?_) (fun hc23 => ?_)
      · try simp at hc23
        all_goals
          refine AW_r rfl rfl fun K hK => ?_
          simp [DtCSet.cells]
          repeat' first | (refine ⟨fun _ => ?_, fun _ => ?_⟩) | (refine ⟨by omega, ?_⟩) | (intro _)
          all_goals (refine hK _ ?_; clear hK K)
          all_goals
            refine AW_ret (end_s ?_)
            simp [DtCSet.cells]
            all_goals first | (refine eqB_of (he.mpr ?_); simp_all [eqB_true, eqB_false]; done) | (refine eqB_ne fun h => ?_; rw [he] at h; simp_all [eqB_true, eqB_false, eqB_self]; done) | (refine (eqB_of (he.mpr ?_)).symm; simp_all [eqB_true, eqB_false]; done) | (refine (eqB_ne fun h => ?_).symm; rw [he] at h; simp_all [eqB_true, eqB_false, eqB_self]; done)
      · try simp at hc23
        all_goals
          refine AW_skip ?_
          refine AW_id ?_
          refine AW_seq ?_
          refine AW_r rfl rfl fun K hK => ?_
          simp [DtCSet.cells]
          repeat' first | (refine CKd_v (am2s_cons am2_sl (am2s_cons am2_sl am2s_nil)) (eqCSnapS _ _ (by first | assumption | omega)) rfl ?_; simp [DtCSet.cells]) | (refine ⟨fun _ => ?_, fun _ => ?_⟩) | (refine ⟨by omega, ?_⟩) | (intro _)
          all_goals (refine hK _ ?_; clear hK K)
          all_goals
            refine AW_cond rfl (fun hc24 => ?_) (fun hc24 => ?_)
            · try simp at hc24
              all_goals
                refine AW_r rfl rfl fun K hK => ?_
                simp [DtCSet.cells]
                repeat' first | (refine ⟨fun _ => ?_, fun _ => ?_⟩) | (refine ⟨by omega, ?_⟩) | (intro _)
                all_goals (refine hK _ ?_; clear hK K)
                all_goals
                  refine AW_ret (end_s ?_)
                  simp [DtCSet.cells]
                  all_goals first | (refine eqB_of (he.mpr ?_); simp_all [eqB_true, eqB_false]; done) | (refine eqB_ne fun h => ?_; rw [he] at h; simp_all [eqB_true, eqB_false, eqB_self]; done) | (refine (eqB_of (he.mpr ?_)).symm; simp_all [eqB_true, eqB_false]; done) | (refine (eqB_ne fun h => ?_).symm; rw [he] at h; simp_all [eqB_true, eqB_false, eqB_self]; done)
            · try simp at hc24
              all_goals
                refine AW_skip ?_
                refine AW_id ?_
                refine AW_r rfl rfl fun K hK => ?_
                simp [DtCSet.cells]
                repeat' first | (refine ⟨fun _ => ?_, fun _ => ?_⟩) | (refine ⟨by omega, ?_⟩) | (intro _)
                all_goals (refine hK _ ?_; clear hK K)
                all_goals
                  refine AW_ret (end_s ?_)
                  simp [DtCSet.cells]
                  all_goals first | (refine eqB_of (he.mpr ?_); simp_all [eqB_true, eqB_false]; done) | (refine eqB_ne fun h => ?_; rw [he] at h; simp_all [eqB_true, eqB_false, eqB_self]; done) | (refine (eqB_of (he.mpr ?_)).symm; simp_all [eqB_true, eqB_false]; done) | (refine (eqB_ne fun h => ?_).symm; rw [he] at h; simp_all [eqB_true, eqB_false, eqB_self]; done)
theorem szCSetS (xs : List DtCSet) (n : Int) (hn : 0 ≤ n ∧ n ≤ 1048576) (hw : (wfS DtCSet.wf) xs) : PCall Try.prog 34 [.sl 2 (xs.map DtCSet.cells), (.g (.int .i64 (n)))] (.g (.int .i64 (szR n (szS DtCSet.sz xs)))) := by
  have hq := sumZ_nonneg DtCSet.sz_nonneg xs
  have hw1 := hw.1
  refine gcall_of_walk Try.func34 (by rfl) (by rfl) (by rw [Try.ntmps34]; exact Nat.le_of_ble_eq_true rfl) rfl (by decide) ?_
  rw [Try.ntmps34]
  refine AW_k [(0, _), (1, _)] ⟨rfl, rfl, trivial⟩ ?_
  refine AW_r rfl rfl fun K hK => ?_
  simp (disch := omega) [wrap64, List.getElem?_eq_getElem, toNat_pred, szR]
  repeat' first | (exfalso; omega) | (refine ⟨fun _ => ?_, fun _ => ?_⟩) | (refine ⟨by omega, ?_⟩) | (intro _)
  all_goals (refine hK _ ?_; clear hK K)
  all_goals
    refine AW_r rfl rfl fun K hK => ?_
    simp (disch := omega) [wrap64, List.getElem?_eq_getElem, toNat_pred, szR]
    repeat' first | (exfalso; omega) | (refine ⟨fun _ => ?_, fun _ => ?_⟩) | (refine ⟨by omega, ?_⟩) | (intro _)
    all_goals (refine hK _ ?_; clear hK K)
    all_goals
      refine AW_seq ?_
      refine AW_r rfl rfl fun K hK => ?_
      simp (disch := omega) [wrap64, List.getElem?_eq_getElem, toNat_pred, szR]
      repeat' first | (exfalso; omega) | (refine ⟨fun _ => ?_, fun _ => ?_⟩) | (refine ⟨by omega, ?_⟩) | (intro _)
      all_goals (refine hK _ ?_; clear hK K)
      all_goals
        refine AW_cond rfl (fun hc25 => ?_) (fun hc25 => ?_)
        · try simp at hc25
          all_goals
            refine AW_r rfl rfl fun K hK => ?_
            simp (disch := omega) [wrap64, List.getElem?_eq_getElem, toNat_pred, szR]
            repeat' first | (exfalso; omega) | (refine ⟨fun _ => ?_, fun _ => ?_⟩) | (refine ⟨by omega, ?_⟩) | (intro _)
            all_goals (refine hK _ ?_; clear hK K)
            all_goals
              refine AW_ret (end_s ?_)
              simp (disch := omega) [wrap64, List.getElem?_eq_getElem, toNat_pred, szR, szS]
              all_goals first | omega | (split <;> omega)
        · try simp at hc25
          all_goals
            refine AW_skip ?_
            refine AW_id ?_
            refine AW_seq ?_
            refine AW_r rfl rfl fun K hK => ?_
            simp (disch := omega) [wrap64, List.getElem?_eq_getElem, toNat_pred, szR]
            repeat' first | (exfalso; omega) | (refine ⟨fun _ => ?_, fun _ => ?_⟩) | (refine ⟨by omega, ?_⟩) | (intro _)
            all_goals (refine hK _ ?_; clear hK K)
            all_goals
              refine AW_block ?_
              refine AW_loopS (fun mM sS => ∃ (i : Nat), mM = xs.length - i ∧ (i ≤ xs.length ∧ 0 ≤ n - xs.length - sumZ DtCSet.sz (xs.take i)) ∧ sS = { env := lkE [(0, .sl 2 (xs.map DtCSet.cells)), (1, (.g (.int .i64 (n - xs.length - sumZ DtCSet.sz (xs.take i))))), (5, (.g (.int .i64 ((i : Nat)))))], ob := formOb [] [] }) ?_ ?_
              · refine ⟨_, LeS.kp [(0, .sl 2 (xs.map DtCSet.cells)), (1, (.g (.int .i64 (n - xs.length - sumZ DtCSet.sz (xs.take (0)))))), (5, (.g (.int .i64 (((0) : Nat)))))] (by simp [KpE, upd_app, lkE_app, lk_cons, sumZ_nil]; try first | rfl | omega), _, 0, rfl, ?_, rfl⟩
                · simp [sumZ_nil]; omega
              · rintro mM sS ⟨i, rfl, ⟨hi, hn⟩, rfl⟩
                have hz := sumZ_nonneg DtCSet.sz_nonneg (xs.take i)
                have hz2 := sumZ_take_le DtCSet.sz_nonneg xs i
                refine AW_seq ?_
                refine AW_r rfl rfl fun K hK => ?_
                simp (disch := omega) [wrap64, List.getElem?_eq_getElem, toNat_pred, szR, DtCSet.cells]
                repeat' first | (exfalso; omega) | (refine ⟨fun _ => ?_, fun _ => ?_⟩) | (refine ⟨by omega, ?_⟩) | (intro _)
                all_goals (refine hK _ ?_; clear hK K)
                all_goals
                  refine AW_cond rfl (fun hc26 => ?_) (fun hc26 => ?_)
                  · try simp at hc26
                    all_goals
                      have hl := sumZ_take (f := DtCSet.sz) xs i (by omega)
                      have hwE : DtCSet.wf xs[i] := hw.2 _ (List.getElem_mem _)
                      have hz3 := sumZ_take_le DtCSet.sz_nonneg xs (i + 1)
                      have hzE := DtCSet.sz_nonneg xs[i]
                      have hszR : szR (n - xs.length - sumZ DtCSet.sz (xs.take i)) (DtCSet.sz xs[i]) = n - xs.length - sumZ DtCSet.sz (xs.take (i + 1)) ∨ (szR (n - xs.length - sumZ DtCSet.sz (xs.take i)) (DtCSet.sz xs[i]) = -1 ∧ n - xs.length - sumZ DtCSet.sz (xs.take (i + 1)) < 0) := by unfold szR; split <;> omega
                      refine AW_skip ?_
                      refine AW_id ?_
                      refine AW_seq ?_
                      refine AW_block ?_
                      refine AW_r rfl rfl fun K hK => ?_
                      simp (disch := omega) [wrap64, List.getElem?_eq_getElem, toNat_pred, szR, DtCSet.cells]
                      repeat' first | (exfalso; omega) | (refine CKd_v (am2s_cons (am2_agg rfl) (am2s_cons am2_g am2s_nil)) (szCSet _ _ (by omega) (by first | exact hwE | exact hw)) rfl ?_; simp (disch := omega) [wrap64, List.getElem?_eq_getElem, toNat_pred, szR, DtCSet.cells]) | (refine ⟨fun _ => ?_, fun _ => ?_⟩) | (refine ⟨by omega, ?_⟩) | (intro _)
                      all_goals (refine hK _ ?_; clear hK K)
                      all_goals
                        refine AW_r rfl rfl fun K hK => ?_
                        simp (disch := omega) [wrap64, List.getElem?_eq_getElem, toNat_pred, szR, DtCSet.cells]
                        repeat' first | (exfalso; omega) | (refine ⟨fun _ => ?_, fun _ => ?_⟩) | (refine ⟨by omega, ?_⟩) | (intro _)
                        all_goals (refine hK _ ?_; clear hK K)
                        all_goals
                          refine AW_cond rfl (fun hc27 => ?_) (fun hc27 => ?_)
                          · try simp at hc27
                            all_goals
                              refine AW_r rfl rfl fun K hK => ?_
                              simp (disch := omega) [wrap64, List.getElem?_eq_getElem, toNat_pred, szR, DtCSet.cells]
                              repeat' first | (exfalso; omega) | (refine ⟨fun _ => ?_, fun _ => ?_⟩) | (refine ⟨by omega, ?_⟩) | (intro _)
                              all_goals (refine hK _ ?_; clear hK K)
                              all_goals
                                refine AW_ret (end_s ?_)
                                simp (disch := omega) [wrap64, List.getElem?_eq_getElem, toNat_pred, szR, DtCSet.cells, szS]
                                all_goals first | omega | (split <;> omega)
                          · try simp at hc27
                            all_goals
                              refine AW_skip ?_
                              refine AW_id ?_
                              refine AW_re rfl rfl fun K hK => ?_
                              simp (disch := omega) [wrap64, List.getElem?_eq_getElem, toNat_pred, szR, DtCSet.cells]
                              repeat' first | (exfalso; omega) | (refine ⟨fun _ => ?_, fun _ => ?_⟩) | (refine ⟨by omega, ?_⟩) | (intro _)
                              all_goals (refine hK _ ?_; clear hK K)
                              all_goals
                                refine ⟨_, LeS.kp [(0, .sl 2 (xs.map DtCSet.cells)), (1, (.g (.int .i64 (n - xs.length - sumZ DtCSet.sz (xs.take (i + 1)))))), (5, (.g (.int .i64 (((i + 1) : Nat)))))] (by simp [KpE, upd_app, lkE_app, lk_cons, sumZ_nil]; try first | rfl | omega), _, ?_, i + 1, rfl, ?_, rfl⟩
                                · omega
                                · omega
                  · try simp at hc26
                    all_goals
                      have hi2 : i = xs.length := by omega
                      subst hi2
                      simp only [List.take_length] at *
                      refine AW_exit ?_
                      refine AW_id ?_
                      refine AW_r rfl rfl fun K hK => ?_
                      simp (disch := omega) [wrap64, List.getElem?_eq_getElem, toNat_pred, szR, DtCSet.cells]
                      repeat' first | (exfalso; omega) | (refine ⟨fun _ => ?_, fun _ => ?_⟩) | (refine ⟨by omega, ?_⟩) | (intro _)
                      all_goals (refine hK _ ?_; clear hK K)
                      all_goals
                        refine AW_ret (end_s ?_)
                        simp (disch := omega) [wrap64, List.getElem?_eq_getElem, toNat_pred, szR, DtCSet.cells, szS]
                        all_goals first | omega | (split <;> omega)
theorem eqCSetS (xs ys : List DtCSet) (hs : szS DtCSet.sz xs ≤ 1048576) : PCall Try.prog 41 [.sl 2 (xs.map DtCSet.cells), .sl 2 (ys.map DtCSet.cells)] (.g (.bool (eqB xs ys))) := by
  have hn : xs.length ≤ 1048576 := by have := sumZ_nonneg DtCSet.sz_nonneg xs; simp only [szS] at hs; omega
  refine gcall_of_walk Try.func41 (by rfl) (by rfl) (by rw [Try.ntmps41]; exact Nat.le_of_ble_eq_true rfl) rfl (by decide) ?_
  rw [Try.ntmps41]
  refine AW_k [(0, _), (1, _)] ⟨rfl, rfl, trivial⟩ ?_
  refine AW_r rfl rfl fun K hK => ?_
  simp (disch := omega) [wrap64, List.getElem?_eq_getElem, toNat_pred]
  repeat' first | (exfalso; omega) | (refine ⟨fun _ => ?_, fun _ => ?_⟩) | (refine ⟨by omega, ?_⟩) | (intro _)
  all_goals (refine hK _ ?_; clear hK K)
  all_goals
    refine AW_seq ?_
    refine AW_r rfl rfl fun K hK => ?_
    simp (disch := omega) [wrap64, List.getElem?_eq_getElem, toNat_pred]
    repeat' first | (exfalso; omega) | (refine ⟨fun _ => ?_, fun _ => ?_⟩) | (refine ⟨by omega, ?_⟩) | (intro _)
    all_goals (refine hK _ ?_; clear hK K)
    all_goals
      refine AW_cond rfl (fun hc29 => ?_) (fun hc29 => ?_)
      · try simp at hc29
        all_goals
          refine AW_r rfl rfl fun K hK => ?_
          simp (disch := omega) [wrap64, List.getElem?_eq_getElem, toNat_pred]
          repeat' first | (exfalso; omega) | (refine ⟨fun _ => ?_, fun _ => ?_⟩) | (refine ⟨by omega, ?_⟩) | (intro _)
          all_goals (refine hK _ ?_; clear hK K)
          all_goals
            refine AW_ret (end_s ?_)
            simp (disch := omega) [wrap64, List.getElem?_eq_getElem, toNat_pred]
            all_goals first | (exact eqB_of heq) | (refine eqB_ne fun heq => ?_; subst heq; simp_all [eqB_true, eqB_false, eqB_self]; done) | (refine (eqB_ne fun heq => ?_).symm; subst heq; simp_all [eqB_true, eqB_false, eqB_self]; done) | simp_all [eqB_self]
      · try simp at hc29
        all_goals
          refine AW_skip ?_
          refine AW_id ?_
          refine AW_seq ?_
          refine AW_r rfl rfl fun K hK => ?_
          simp (disch := omega) [wrap64, List.getElem?_eq_getElem, toNat_pred]
          repeat' first | (exfalso; omega) | (refine ⟨fun _ => ?_, fun _ => ?_⟩) | (refine ⟨by omega, ?_⟩) | (intro _)
          all_goals (refine hK _ ?_; clear hK K)
          all_goals
            refine AW_block ?_
            refine AW_loopS (fun mM sS => ∃ (i : Nat), mM = xs.length - i ∧ (i ≤ xs.length ∧ ∀ j, j < i → xs[j]? = ys[j]?) ∧ sS = { env := lkE [(0, .sl 2 (xs.map DtCSet.cells)), (1, .sl 2 (ys.map DtCSet.cells)), (5, (.g (.int .i64 ((i : Nat)))))], ob := formOb [] [] }) ?_ ?_
            · refine ⟨_, LeS.kp [(0, .sl 2 (xs.map DtCSet.cells)), (1, .sl 2 (ys.map DtCSet.cells)), (5, (.g (.int .i64 (((0) : Nat)))))] (by simp [KpE, upd_app, lkE_app, lk_cons]; try rfl), _, 0, rfl, ?_, rfl⟩
              · simp
            · rintro mM sS ⟨i, rfl, ⟨hi, hpre⟩, rfl⟩
              refine AW_seq ?_
              refine AW_r rfl rfl fun K hK => ?_
              simp (disch := omega) [wrap64, List.getElem?_eq_getElem, toNat_pred, DtCSet.cells]
              repeat' first | (exfalso; omega) | (refine ⟨fun _ => ?_, fun _ => ?_⟩) | (refine ⟨by omega, ?_⟩) | (intro _)
              all_goals (refine hK _ ?_; clear hK K)
              all_goals
                refine AW_cond rfl (fun hc30 => ?_) (fun hc30 => ?_)
                · try simp at hc30
                  all_goals
                    have h7 : i < ys.length := by omega
                    have hsE : DtCSet.sz xs[i] ≤ 1048576 := by have := sumZ_mem_le DtCSet.sz_nonneg xs xs[i] (List.getElem_mem _); simp only [szS] at hs; omega
                    refine AW_skip ?_
                    refine AW_id ?_
                    refine AW_seq ?_
                    refine AW_block ?_
                    refine AW_q rfl mix (by kernel_rfl) rfl fun K hK => ?_
                    simp (disch := omega) [wrap64, List.getElem?_eq_getElem, toNat_pred, DtCSet.cells]
                    repeat' first | (exfalso; omega) | (refine CKd_v (am2s_cons (am2_agg rfl) (am2s_cons (am2_agg rfl) am2s_nil)) (eqCSet _ _ (by first | assumption | omega)) rfl ?_; simp (disch := omega) [wrap64, List.getElem?_eq_getElem, toNat_pred, DtCSet.cells]) | (refine ⟨fun _ => ?_, fun _ => ?_⟩) | (refine ⟨by omega, ?_⟩) | (intro _)
                    all_goals (refine hK _ ?_; clear hK K)
                    all_goals
                      refine AW_cond rfl (fun hc31 => ?_) (fun hc31 => ?_)
                      · try simp at hc31
                        all_goals
                          refine AW_r rfl rfl fun K hK => ?_
                          simp (disch := omega) [wrap64, List.getElem?_eq_getElem, toNat_pred, DtCSet.cells]
                          repeat' first | (exfalso; omega) | (refine ⟨fun _ => ?_, fun _ => ?_⟩) | (refine ⟨by omega, ?_⟩) | (intro _)
                          all_goals (refine hK _ ?_; clear hK K)
                          all_goals
                            refine AW_ret (end_s ?_)
                            simp (disch := omega) [wrap64, List.getElem?_eq_getElem, toNat_pred, DtCSet.cells]
                            all_goals first | (exact eqB_of heq) | (refine eqB_ne fun heq => ?_; subst heq; simp_all [eqB_true, eqB_false, eqB_self]; done) | (refine (eqB_ne fun heq => ?_).symm; subst heq; simp_all [eqB_true, eqB_false, eqB_self]; done) | simp_all [eqB_self]
                      · try simp at hc31
                        all_goals
                          refine AW_skip ?_
                          refine AW_id ?_
                          refine AW_re rfl rfl fun K hK => ?_
                          simp (disch := omega) [wrap64, List.getElem?_eq_getElem, toNat_pred, DtCSet.cells]
                          repeat' first | (exfalso; omega) | (refine ⟨fun _ => ?_, fun _ => ?_⟩) | (refine ⟨by omega, ?_⟩) | (intro _)
                          all_goals (refine hK _ ?_; clear hK K)
                          all_goals
                            refine ⟨_, LeS.kp [(0, .sl 2 (xs.map DtCSet.cells)), (1, .sl 2 (ys.map DtCSet.cells)), (5, (.g (.int .i64 (((i + 1) : Nat)))))] (by simp [KpE, upd_app, lkE_app, lk_cons]; try rfl), _, ?_, i + 1, rfl, ?_, rfl⟩
                            · omega
                            · refine ⟨by omega, fun j hj => ?_⟩
                              by_cases hji : j = i
                              · subst hji; simp_all [eqB_true, eqB_false]
                              · exact hpre j (by omega)
                · try simp at hc30
                  all_goals
                    have hi2 : i = xs.length := by omega
                    subst hi2
                    have heq : xs = ys := List.ext_getElem? fun j => by
                      by_cases hj : j < xs.length
                      · exact hpre j hj
                      · rw [List.getElem?_eq_none (by omega), List.getElem?_eq_none (by omega)]
                    refine AW_exit ?_
                    refine AW_id ?_
                    refine AW_r rfl rfl fun K hK => ?_
                    simp (disch := omega) [wrap64, List.getElem?_eq_getElem, toNat_pred, DtCSet.cells]
                    repeat' first | (exfalso; omega) | (refine ⟨fun _ => ?_, fun _ => ?_⟩) | (refine ⟨by omega, ?_⟩) | (intro _)
                    all_goals (refine hK _ ?_; clear hK K)
                    all_goals
                      refine AW_ret (end_s ?_)
                      simp (disch := omega) [wrap64, List.getElem?_eq_getElem, toNat_pred, DtCSet.cells]
                      all_goals first | (exact eqB_of heq) | (refine eqB_ne fun heq => ?_; subst heq; simp_all [eqB_true, eqB_false, eqB_self]; done) | (refine (eqB_ne fun heq => ?_).symm; subst heq; simp_all [eqB_true, eqB_false, eqB_self]; done) | simp_all [eqB_self]
theorem szCatalog (u : DtCatalog) (n : Int) (hn : 0 ≤ n ∧ n ≤ 1048576) (hw : DtCatalog.wf u) : PCall Try.prog 7 [.agg (DtCatalog.cells u), (.g (.int .i64 (n)))] (.g (.int .i64 (szR n (DtCatalog.sz u)))) := by
  have w0 : (wfS DtCSet.wf) u.fSets := hw
  have w02 := w0.1
  have z0 := (szS_nonneg DtCSet.sz_nonneg) u.fSets
  refine gcall_of_walk Try.func7 (by rfl) (by rfl) (by rw [Try.ntmps7]; exact Nat.le_of_ble_eq_true rfl) rfl (by decide) ?_
  rw [Try.ntmps7]
  refine AW_k [(0, _), (1, _)] ⟨rfl, rfl, trivial⟩ ?_
  refine AW_r rfl rfl fun K hK => ?_
  simp (disch := omega) [wrap64, List.getElem?_eq_getElem, toNat_pred, szR, DtCatalog.cells]
  repeat' first | (exfalso; omega) | (refine ⟨fun _ => ?_, fun _ => ?_⟩) | (refine ⟨by omega, ?_⟩) | (intro _)
  all_goals (refine hK _ ?_; clear hK K)
  all_goals
    refine AW_r rfl rfl fun K hK => ?_
    simp (disch := omega) [wrap64, List.getElem?_eq_getElem, toNat_pred, szR, DtCatalog.cells]
    repeat' first | (exfalso; omega) | (refine CKd_v (am2s_cons am2_sl (am2s_cons am2_g am2s_nil)) (szCSetS _ _ (by omega) (by assumption)) rfl ?_; simp (disch := omega) [wrap64, List.getElem?_eq_getElem, toNat_pred, szR, DtCatalog.cells]) | (refine ⟨fun _ => ?_, fun _ => ?_⟩) | (refine ⟨by omega, ?_⟩) | (intro _)
    all_goals (refine hK _ ?_; clear hK K)
    all_goals
      refine AW_seq ?_
      refine AW_r rfl rfl fun K hK => ?_
      simp (disch := omega) [wrap64, List.getElem?_eq_getElem, toNat_pred, szR, DtCatalog.cells]
      repeat' first | (exfalso; omega) | (refine ⟨fun _ => ?_, fun _ => ?_⟩) | (refine ⟨by omega, ?_⟩) | (intro _)
      all_goals (refine hK _ ?_; clear hK K)
      all_goals
        refine AW_cond rfl (fun hc32 => ?_) (fun hc32 => ?_)
        · try simp at hc32
          all_goals
            refine AW_r rfl rfl fun K hK => ?_
            simp (disch := omega) [wrap64, List.getElem?_eq_getElem, toNat_pred, szR, DtCatalog.cells]
            repeat' first | (exfalso; omega) | (refine ⟨fun _ => ?_, fun _ => ?_⟩) | (refine ⟨by omega, ?_⟩) | (intro _)
            all_goals (refine hK _ ?_; clear hK K)
            all_goals
              refine AW_ret (end_s ?_)
              simp (disch := omega) [wrap64, List.getElem?_eq_getElem, toNat_pred, szR, DtCatalog.cells, DtCatalog.sz]
              all_goals first | omega | (simp_all; done) | (split <;> omega) | (split <;> simp_all <;> omega) | (simp_all [szR]; omega)
        · try simp at hc32
          all_goals
            refine AW_skip ?_
            refine AW_id ?_
            refine AW_r rfl rfl fun K hK => ?_
            simp (disch := omega) [wrap64, List.getElem?_eq_getElem, toNat_pred, szR, DtCatalog.cells]
            repeat' first | (exfalso; omega) | (refine ⟨fun _ => ?_, fun _ => ?_⟩) | (refine ⟨by omega, ?_⟩) | (intro _)
            all_goals (refine hK _ ?_; clear hK K)
            all_goals
              refine AW_ret (end_s ?_)
              simp (disch := omega) [wrap64, List.getElem?_eq_getElem, toNat_pred, szR, DtCatalog.cells, DtCatalog.sz]
              all_goals first | omega | (simp_all; done) | (split <;> omega) | (split <;> simp_all <;> omega) | (simp_all [szR]; omega)
theorem eqCatalog (u v : DtCatalog) (hs : DtCatalog.sz u ≤ 1048576) : PCall Try.prog 12 [.agg (DtCatalog.cells u), .agg (DtCatalog.cells v)] (.g (.bool (eqB u v))) := by
  simp only [DtCatalog.sz] at hs
  have z0 := (szS_nonneg DtCSet.sz_nonneg) u.fSets
  have s0 : szS DtCSet.sz u.fSets ≤ 1048576 := by omega
  have he := DtCatalog.ext_iff u v
  refine gcall_of_walk Try.func12 (by rfl) (by rfl) (by rw [Try.ntmps12]; exact Nat.le_of_ble_eq_true rfl) rfl (by decide) ?_
  rw [Try.ntmps12]
  refine AW_k [(0, _), (1, _)] ⟨rfl, rfl, trivial⟩ ?_
  refine AW_r rfl rfl fun K hK => ?_
  simp [DtCatalog.cells]
  repeat' first | (refine ⟨fun _ => ?_, fun _ => ?_⟩) | (refine ⟨by omega, ?_⟩) | (intro _)
  all_goals (refine hK _ ?_; clear hK K)
  all_goals
    refine AW_seq ?_
    refine AW_r rfl rfl fun K hK => ?_
    simp [DtCatalog.cells]
    repeat' first | (refine CKd_v (am2s_cons am2_sl (am2s_cons am2_sl am2s_nil)) (eqCSetS _ _ (by first | assumption | omega)) rfl ?_; simp [DtCatalog.cells]) | (refine ⟨fun _ => ?_, fun _ => ?_⟩) | (refine ⟨by omega, ?_⟩) | (intro _)
    all_goals (refine hK _ ?_; clear hK K)
    all_goals
      refine AW_cond rfl (fun hc33 => ?_) (fun hc33 => ?_)
      · try simp at hc33
        all_goals
          refine AW_r rfl rfl fun K hK => ?_
          simp [DtCatalog.cells]
          repeat' first | (refine ⟨fun _ => ?_, fun _ => ?_⟩) | (refine ⟨by omega, ?_⟩) | (intro _)
          all_goals (refine hK _ ?_; clear hK K)
          all_goals
            refine AW_ret (end_s ?_)
            simp [DtCatalog.cells]
            all_goals first | (refine eqB_of (he.mpr ?_); simp_all [eqB_true, eqB_false]; done) | (refine eqB_ne fun h => ?_; rw [he] at h; simp_all [eqB_true, eqB_false, eqB_self]; done) | (refine (eqB_of (he.mpr ?_)).symm; simp_all [eqB_true, eqB_false]; done) | (refine (eqB_ne fun h => ?_).symm; rw [he] at h; simp_all [eqB_true, eqB_false, eqB_self]; done)
      · try simp at hc33
        all_goals
          refine AW_skip ?_
          refine AW_id ?_
          refine AW_r rfl rfl fun K hK => ?_
          simp [DtCatalog.cells]
          repeat' first | (refine ⟨fun _ => ?_, fun _ => ?_⟩) | (refine ⟨by omega, ?_⟩) | (intro _)
          all_goals (refine hK _ ?_; clear hK K)
          all_goals
            refine AW_ret (end_s ?_)
            simp [DtCatalog.cells]
            all_goals first | (refine eqB_of (he.mpr ?_); simp_all [eqB_true, eqB_false]; done) | (refine eqB_ne fun h => ?_; rw [he] at h; simp_all [eqB_true, eqB_false, eqB_self]; done) | (refine (eqB_of (he.mpr ?_)).symm; simp_all [eqB_true, eqB_false]; done) | (refine (eqB_ne fun h => ?_).symm; rw [he] at h; simp_all [eqB_true, eqB_false, eqB_self]; done)
theorem szIntS (xs : List Int) (n : Int) (hn : 0 ≤ n ∧ n ≤ 1048576) (hw : (wfS wfI) xs) : PCall Try.prog 114 [.sl 1 (xs.map cI), (.g (.int .i64 (n)))] (.g (.int .i64 (szR n xs.length))) := by
  have hw1 := hw.1
  refine gcall_of_walk Try.func114 (by rfl) (by rfl) (by rw [Try.ntmps114]; exact Nat.le_of_ble_eq_true rfl) rfl (by decide) ?_
  rw [Try.ntmps114]
  refine AW_k [(0, _), (1, _)] ⟨rfl, rfl, trivial⟩ ?_
  refine AW_r rfl rfl fun K hK => ?_
  simp (disch := omega) [wrap64, List.getElem?_eq_getElem, toNat_pred, szR]
  repeat' first | (exfalso; omega) | (refine ⟨fun _ => ?_, fun _ => ?_⟩) | (refine ⟨by omega, ?_⟩) | (intro _)
  all_goals (refine hK _ ?_; clear hK K)
  all_goals
    refine AW_r rfl rfl fun K hK => ?_
    simp (disch := omega) [wrap64, List.getElem?_eq_getElem, toNat_pred, szR]
    repeat' first | (exfalso; omega) | (refine ⟨fun _ => ?_, fun _ => ?_⟩) | (refine ⟨by omega, ?_⟩) | (intro _)
    all_goals (refine hK _ ?_; clear hK K)
    all_goals
      refine AW_seq ?_
      refine AW_r rfl rfl fun K hK => ?_
      simp (disch := omega) [wrap64, List.getElem?_eq_getElem, toNat_pred, szR]
      repeat' first | (exfalso; omega) | (refine ⟨fun _ => ?_, fun _ => ?_⟩) | (refine ⟨by omega, ?_⟩) | (intro _)
      all_goals (refine hK _ ?_; clear hK K)
      all_goals
        refine AW_cond rfl (fun hc34 => ?_) (fun hc34 => ?_)
        · try simp at hc34
          all_goals
            refine AW_r rfl rfl fun K hK => ?_
            simp (disch := omega) [wrap64, List.getElem?_eq_getElem, toNat_pred, szR]
            repeat' first | (exfalso; omega) | (refine ⟨fun _ => ?_, fun _ => ?_⟩) | (refine ⟨by omega, ?_⟩) | (intro _)
            all_goals (refine hK _ ?_; clear hK K)
            all_goals
              refine AW_ret (end_s ?_)
              simp (disch := omega) [wrap64, List.getElem?_eq_getElem, toNat_pred, szR]
              all_goals first | omega | (simp_all; done) | (simp [List.take_of_length_le]; done) | ((try simp_all); (try simp (disch := omega) only [wrap64, Int.tdiv_eq_ediv_of_nonneg, Int.tmod_eq_emod_of_nonneg, and_true, true_and]); done) | ((try simp_all); (try simp (disch := omega) only [wrap64, Int.tdiv_eq_ediv_of_nonneg, Int.tmod_eq_emod_of_nonneg, and_true, true_and] at *); omega)
        · try simp at hc34
          all_goals
            refine AW_skip ?_
            refine AW_id ?_
            refine AW_r rfl rfl fun K hK => ?_
            simp (disch := omega) [wrap64, List.getElem?_eq_getElem, toNat_pred, szR]
            repeat' first | (exfalso; omega) | (refine ⟨fun _ => ?_, fun _ => ?_⟩) | (refine ⟨by omega, ?_⟩) | (intro _)
            all_goals (refine hK _ ?_; clear hK K)
            all_goals
              refine AW_ret (end_s ?_)
              simp (disch := omega) [wrap64, List.getElem?_eq_getElem, toNat_pred, szR]
              all_goals first | omega | (simp_all; done) | (simp [List.take_of_length_le]; done) | ((try simp_all); (try simp (disch := omega) only [wrap64, Int.tdiv_eq_ediv_of_nonneg, Int.tmod_eq_emod_of_nonneg, and_true, true_and]); done) | ((try simp_all); (try simp (disch := omega) only [wrap64, Int.tdiv_eq_ediv_of_nonneg, Int.tmod_eq_emod_of_nonneg, and_true, true_and] at *); omega)
theorem eqIntS (xs ys : List Int) (hs : (xs.length : Int) ≤ 1048576) : PCall Try.prog 116 [.sl 1 (xs.map cI), .sl 1 (ys.map cI)] (.g (.bool (eqB xs ys))) := by
  have hn : xs.length ≤ 1048576 := by omega
  refine gcall_of_walk Try.func116 (by rfl) (by rfl) (by rw [Try.ntmps116]; exact Nat.le_of_ble_eq_true rfl) rfl (by decide) ?_
  rw [Try.ntmps116]
  refine AW_k [(0, _), (1, _)] ⟨rfl, rfl, trivial⟩ ?_
  refine AW_r rfl rfl fun K hK => ?_
  simp (disch := omega) [wrap64, List.getElem?_eq_getElem, toNat_pred]
  repeat' first | (exfalso; omega) | (refine ⟨fun _ => ?_, fun _ => ?_⟩) | (refine ⟨by omega, ?_⟩) | (intro _)
  all_goals (refine hK _ ?_; clear hK K)
  all_goals
    refine AW_seq ?_
    refine AW_r rfl rfl fun K hK => ?_
    simp (disch := omega) [wrap64, List.getElem?_eq_getElem, toNat_pred]
    repeat' first | (exfalso; omega) | (refine ⟨fun _ => ?_, fun _ => ?_⟩) | (refine ⟨by omega, ?_⟩) | (intro _)
    all_goals (refine hK _ ?_; clear hK K)
    all_goals
      refine AW_cond rfl (fun hc36 => ?_) (fun hc36 => ?_)
      · try simp at hc36
        all_goals
          refine AW_r rfl rfl fun K hK => ?_
          simp (disch := omega) [wrap64, List.getElem?_eq_getElem, toNat_pred]
          repeat' first | (exfalso; omega) | (refine ⟨fun _ => ?_, fun _ => ?_⟩) | (refine ⟨by omega, ?_⟩) | (intro _)
          all_goals (refine hK _ ?_; clear hK K)
          all_goals
            refine AW_ret (end_s ?_)
            simp (disch := omega) [wrap64, List.getElem?_eq_getElem, toNat_pred]
            all_goals first | (exact eqB_of heq) | (refine eqB_ne fun heq => ?_; subst heq; simp_all [eqB_true, eqB_false, eqB_self]; done) | (refine (eqB_ne fun heq => ?_).symm; subst heq; simp_all [eqB_true, eqB_false, eqB_self]; done) | simp_all [eqB_self]
      · try simp at hc36
        all_goals
          refine AW_skip ?_
          refine AW_id ?_
          refine AW_seq ?_
          refine AW_r rfl rfl fun K hK => ?_
          simp (disch := omega) [wrap64, List.getElem?_eq_getElem, toNat_pred]
          repeat' first | (exfalso; omega) | (refine ⟨fun _ => ?_, fun _ => ?_⟩) | (refine ⟨by omega, ?_⟩) | (intro _)
          all_goals (refine hK _ ?_; clear hK K)
          all_goals
            refine AW_block ?_
            refine AW_loopS (fun mM sS => ∃ (i : Nat), mM = xs.length - i ∧ (i ≤ xs.length ∧ ∀ j, j < i → xs[j]? = ys[j]?) ∧ sS = { env := lkE [(0, .sl 1 (xs.map cI)), (1, .sl 1 (ys.map cI)), (5, (.g (.int .i64 ((i : Nat)))))], ob := formOb [] [] }) ?_ ?_
            · refine ⟨_, LeS.kp [(0, .sl 1 (xs.map cI)), (1, .sl 1 (ys.map cI)), (5, (.g (.int .i64 (((0) : Nat)))))] (by simp [KpE, upd_app, lkE_app, lk_cons]; try rfl), _, 0, rfl, ?_, rfl⟩
              · simp
            · rintro mM sS ⟨i, rfl, ⟨hi, hpre⟩, rfl⟩
              refine AW_seq ?_
              refine AW_r rfl rfl fun K hK => ?_
              simp (disch := omega) [wrap64, List.getElem?_eq_getElem, toNat_pred, cI]
              repeat' first | (exfalso; omega) | (refine ⟨fun _ => ?_, fun _ => ?_⟩) | (refine ⟨by omega, ?_⟩) | (intro _)
              all_goals (refine hK _ ?_; clear hK K)
              all_goals
                refine AW_cond rfl (fun hc37 => ?_) (fun hc37 => ?_)
                · try simp at hc37
                  all_goals
                    have h7 : i < ys.length := by omega
                    refine AW_skip ?_
                    refine AW_id ?_
                    refine AW_seq ?_
                    refine AW_block ?_
                    refine AW_q rfl mix (by kernel_rfl) rfl fun K hK => ?_
                    simp (disch := omega) [wrap64, List.getElem?_eq_getElem, toNat_pred, cI]
                    repeat' first | (exfalso; omega) | (refine ⟨fun _ => ?_, fun _ => ?_⟩) | (refine ⟨by omega, ?_⟩) | (intro _)
                    all_goals (refine hK _ ?_; clear hK K)
                    all_goals
                      refine AW_cond rfl (fun hc38 => ?_) (fun hc38 => ?_)
                      · try simp at hc38
                        all_goals
                          refine AW_r rfl rfl fun K hK => ?_
                          simp (disch := omega) [wrap64, List.getElem?_eq_getElem, toNat_pred, cI]
                          repeat' first | (exfalso; omega) | (refine ⟨fun _ => ?_, fun _ => ?_⟩) | (refine ⟨by omega, ?_⟩) | (intro _)
                          all_goals (refine hK _ ?_; clear hK K)
                          all_goals
                            refine AW_ret (end_s ?_)
                            simp (disch := omega) [wrap64, List.getElem?_eq_getElem, toNat_pred, cI]
                            all_goals first | (exact eqB_of heq) | (refine eqB_ne fun heq => ?_; subst heq; simp_all [eqB_true, eqB_false, eqB_self]; done) | (refine (eqB_ne fun heq => ?_).symm; subst heq; simp_all [eqB_true, eqB_false, eqB_self]; done) | simp_all [eqB_self]
                      · try simp at hc38
                        all_goals
                          refine AW_skip ?_
                          refine AW_id ?_
                          refine AW_re rfl rfl fun K hK => ?_
                          simp (disch := omega) [wrap64, List.getElem?_eq_getElem, toNat_pred, cI]
                          repeat' first | (exfalso; omega) | (refine ⟨fun _ => ?_, fun _ => ?_⟩) | (refine ⟨by omega, ?_⟩) | (intro _)
                          all_goals (refine hK _ ?_; clear hK K)
                          all_goals
                            refine ⟨_, LeS.kp [(0, .sl 1 (xs.map cI)), (1, .sl 1 (ys.map cI)), (5, (.g (.int .i64 (((i + 1) : Nat)))))] (by simp [KpE, upd_app, lkE_app, lk_cons]; try rfl), _, ?_, i + 1, rfl, ?_, rfl⟩
                            · omega
                            · refine ⟨by omega, fun j hj => ?_⟩
                              by_cases hji : j = i
                              · subst hji; simp_all [eqB_true, eqB_false]
                              · exact hpre j (by omega)
                · try simp at hc37
                  all_goals
                    have hi2 : i = xs.length := by omega
                    subst hi2
                    have heq : xs = ys := List.ext_getElem? fun j => by
                      by_cases hj : j < xs.length
                      · exact hpre j hj
                      · rw [List.getElem?_eq_none (by omega), List.getElem?_eq_none (by omega)]
                    refine AW_exit ?_
                    refine AW_id ?_
                    refine AW_r rfl rfl fun K hK => ?_
                    simp (disch := omega) [wrap64, List.getElem?_eq_getElem, toNat_pred, cI]
                    repeat' first | (exfalso; omega) | (refine ⟨fun _ => ?_, fun _ => ?_⟩) | (refine ⟨by omega, ?_⟩) | (intro _)
                    all_goals (refine hK _ ?_; clear hK K)
                    all_goals
                      refine AW_ret (end_s ?_)
                      simp (disch := omega) [wrap64, List.getElem?_eq_getElem, toNat_pred, cI]
                      all_goals first | (exact eqB_of heq) | (refine eqB_ne fun heq => ?_; subst heq; simp_all [eqB_true, eqB_false, eqB_self]; done) | (refine (eqB_ne fun heq => ?_).symm; subst heq; simp_all [eqB_true, eqB_false, eqB_self]; done) | simp_all [eqB_self]
theorem szUp (u : DtUp) (n : Int) (hn : 0 ≤ n ∧ n ≤ 1048576) (hw : DtUp.wf u) : PCall Try.prog 73 [.agg (DtUp.cells u), (.g (.int .i64 (n)))] (.g (.int .i64 (szR n (DtUp.sz u)))) := by
  have ⟨w0, w1, w2⟩ := hw
  have w02 : u.fChunk.length ≤ 9223372036854775807 := w0
  have w12 := w1.1
  refine gcall_of_walk Try.func73 (by rfl) (by rfl) (by rw [Try.ntmps73]; exact Nat.le_of_ble_eq_true rfl) rfl (by decide) ?_
  rw [Try.ntmps73]
  refine AW_k [(0, _), (1, _)] ⟨rfl, rfl, trivial⟩ ?_
  refine AW_r rfl rfl fun K hK => ?_
  simp (disch := omega) [wrap64, List.getElem?_eq_getElem, toNat_pred, szR, DtUp.cells]
  repeat' first | (exfalso; omega) | (refine ⟨fun _ => ?_, fun _ => ?_⟩) | (refine ⟨by omega, ?_⟩) | (intro _)
  all_goals (refine hK _ ?_; clear hK K)
  all_goals
    refine AW_r rfl rfl fun K hK => ?_
    simp (disch := omega) [wrap64, List.getElem?_eq_getElem, toNat_pred, szR, DtUp.cells]
    repeat' first | (exfalso; omega) | (refine ⟨fun _ => ?_, fun _ => ?_⟩) | (refine ⟨by omega, ?_⟩) | (intro _)
    all_goals (refine hK _ ?_; clear hK K)
    all_goals
      refine AW_seq ?_
      refine AW_r rfl rfl fun K hK => ?_
      simp (disch := omega) [wrap64, List.getElem?_eq_getElem, toNat_pred, szR, DtUp.cells]
      repeat' first | (exfalso; omega) | (refine ⟨fun _ => ?_, fun _ => ?_⟩) | (refine ⟨by omega, ?_⟩) | (intro _)
      all_goals (refine hK _ ?_; clear hK K)
      all_goals
        refine AW_cond rfl (fun hc39 => ?_) (fun hc39 => ?_)
        · try simp at hc39
          all_goals
            refine AW_r rfl rfl fun K hK => ?_
            simp (disch := omega) [wrap64, List.getElem?_eq_getElem, toNat_pred, szR, DtUp.cells]
            repeat' first | (exfalso; omega) | (refine ⟨fun _ => ?_, fun _ => ?_⟩) | (refine ⟨by omega, ?_⟩) | (intro _)
            all_goals (refine hK _ ?_; clear hK K)
            all_goals
              refine AW_ret (end_s ?_)
              simp (disch := omega) [wrap64, List.getElem?_eq_getElem, toNat_pred, szR, DtUp.cells, DtUp.sz]
              all_goals first | omega | (simp_all; done) | (split <;> omega) | (split <;> simp_all <;> omega) | (simp_all [szR]; omega)
        · try simp at hc39
          all_goals
            refine AW_skip ?_
            refine AW_id ?_
            refine AW_r rfl rfl fun K hK => ?_
            simp (disch := omega) [wrap64, List.getElem?_eq_getElem, toNat_pred, szR, DtUp.cells]
            repeat' first | (exfalso; omega) | (refine CKd_v (am2s_cons am2_sl (am2s_cons am2_g am2s_nil)) (szIntS _ _ (by omega) (by assumption)) rfl ?_; simp (disch := omega) [wrap64, List.getElem?_eq_getElem, toNat_pred, szR, DtUp.cells]) | (refine ⟨fun _ => ?_, fun _ => ?_⟩) | (refine ⟨by omega, ?_⟩) | (intro _)
            all_goals (refine hK _ ?_; clear hK K)
            all_goals
              refine AW_seq ?_
              refine AW_r rfl rfl fun K hK => ?_
              simp (disch := omega) [wrap64, List.getElem?_eq_getElem, toNat_pred, szR, DtUp.cells]
              repeat' first | (exfalso; omega) | (refine ⟨fun _ => ?_, fun _ => ?_⟩) | (refine ⟨by omega, ?_⟩) | (intro _)
              all_goals (refine hK _ ?_; clear hK K)
              all_goals
                refine AW_cond rfl (fun hc40 => ?_) (fun hc40 => ?_)
                · try simp at hc40
                  all_goals
                    refine AW_r rfl rfl fun K hK => ?_
                    simp (disch := omega) [wrap64, List.getElem?_eq_getElem, toNat_pred, szR, DtUp.cells]
                    repeat' first | (exfalso; omega) | (refine ⟨fun _ => ?_, fun _ => ?_⟩) | (refine ⟨by omega, ?_⟩) | (intro _)
                    all_goals (refine hK _ ?_; clear hK K)
                    all_goals
                      refine AW_ret (end_s ?_)
                      simp (disch := omega) [wrap64, List.getElem?_eq_getElem, toNat_pred, szR, DtUp.cells, DtUp.sz]
                      all_goals first | omega | (simp_all; done) | (split <;> omega) | (split <;> simp_all <;> omega) | (simp_all [szR]; omega)
                · try simp at hc40
                  all_goals
                    refine AW_skip ?_
                    refine AW_id ?_
                    refine AW_r rfl rfl fun K hK => ?_
                    simp (disch := omega) [wrap64, List.getElem?_eq_getElem, toNat_pred, szR, DtUp.cells]
                    repeat' first | (exfalso; omega) | (refine ⟨fun _ => ?_, fun _ => ?_⟩) | (refine ⟨by omega, ?_⟩) | (intro _)
                    all_goals (refine hK _ ?_; clear hK K)
                    all_goals
                      refine AW_ret (end_s ?_)
                      simp (disch := omega) [wrap64, List.getElem?_eq_getElem, toNat_pred, szR, DtUp.cells, DtUp.sz]
                      all_goals first | omega | (simp_all; done) | (split <;> omega) | (split <;> simp_all <;> omega) | (simp_all [szR]; omega)
theorem eqUp (u v : DtUp) (hs : DtUp.sz u ≤ 1048576) : PCall Try.prog 80 [.agg (DtUp.cells u), .agg (DtUp.cells v)] (.g (.bool (eqB u v))) := by
  simp only [DtUp.sz] at hs
  have s0 : (u.fChunk.length : Int) ≤ 1048576 := by omega
  have s1 : (u.fNodes.length : Int) ≤ 1048576 := by omega
  have he := DtUp.ext_iff u v
  refine gcall_of_walk Try.func80 (by rfl) (by rfl) (by rw [Try.ntmps80]; exact Nat.le_of_ble_eq_true rfl) rfl (by decide) ?_
  rw [Try.ntmps80]
  refine AW_k [(0, _), (1, _)] ⟨rfl, rfl, trivial⟩ ?_
  refine AW_r rfl rfl fun K hK => ?_
  simp [DtUp.cells]
  repeat' first | (refine ⟨fun _ => ?_, fun _ => ?_⟩) | (refine ⟨by omega, ?_⟩) | (intro _)
  all_goals (refine hK _ ?_; clear hK K)
  all_goals
    refine AW_seq ?_
    refine AW_r rfl rfl fun K hK => ?_
    simp [DtUp.cells]
    repeat' first | (refine ⟨fun _ => ?_, fun _ => ?_⟩) | (refine ⟨by omega, ?_⟩) | (intro _)
    all_goals (refine hK _ ?_; clear hK K)
    all_goals
      refine AW_cond rfl (fun hc41 => ?_) (fun hc41 => ?_)
      · try simp at hc41
        all_goals
          refine AW_r rfl rfl fun K hK => ?_
          simp [DtUp.cells]
          repeat' first | (refine ⟨fun _ => ?_, fun _ => ?_⟩) | (refine ⟨by omega, ?_⟩) | (intro _)
          all_goals (refine hK _ ?_; clear hK K)
          all_goals
            refine AW_ret (end_s ?_)
            simp [DtUp.cells]
            all_goals first | (refine eqB_of (he.mpr ?_); simp_all [eqB_true, eqB_false]; done) | (refine eqB_ne fun h => ?_; rw [he] at h; simp_all [eqB_true, eqB_false, eqB_self]; done) | (refine (eqB_of (he.mpr ?_)).symm; simp_all [eqB_true, eqB_false]; done) | (refine (eqB_ne fun h => ?_).symm; rw [he] at h; simp_all [eqB_true, eqB_false, eqB_self]; done)
      · try simp at hc41
        all_goals
          refine AW_skip ?_
          refine AW_id ?_
          refine AW_seq ?_
          refine AW_r rfl rfl fun K hK => ?_
          simp [DtUp.cells]
          repeat' first | (refine CKd_v (am2s_cons am2_sl (am2s_cons am2_sl am2s_nil)) (eqIntS _ _ (by first | assumption | omega)) rfl ?_; simp [DtUp.cells]) | (refine ⟨fun _ => ?_, fun _ => ?_⟩) | (refine ⟨by omega, ?_⟩) | (intro _)
          all_goals (refine hK _ ?_; clear hK K)
          all_goals
            refine AW_cond rfl (fun hc42 => ?_) (fun hc42 => ?_)
            · try simp at hc42
              all_goals
                refine AW_r rfl rfl fun K hK => ?_
                simp [DtUp.cells]
                repeat' first | (refine ⟨fun _ => ?_, fun _ => ?_⟩) | (refine ⟨by omega, ?_⟩) | (intro _)
                all_goals (refine hK _ ?_; clear hK K)
                all_goals
                  refine AW_ret (end_s ?_)
                  simp [DtUp.cells]
                  all_goals first | (refine eqB_of (he.mpr ?_); simp_all [eqB_true, eqB_false]; done) | (refine eqB_ne fun h => ?_; rw [he] at h; simp_all [eqB_true, eqB_false, eqB_self]; done) | (refine (eqB_of (he.mpr ?_)).symm; simp_all [eqB_true, eqB_false]; done) | (refine (eqB_ne fun h => ?_).symm; rw [he] at h; simp_all [eqB_true, eqB_false, eqB_self]; done)
            · try simp at hc42
              all_goals
                refine AW_skip ?_
                refine AW_id ?_
                refine AW_seq ?_
                refine AW_r rfl rfl fun K hK => ?_
                simp [DtUp.cells]
                repeat' first | (refine ⟨fun _ => ?_, fun _ => ?_⟩) | (refine ⟨by omega, ?_⟩) | (intro _)
                all_goals (refine hK _ ?_; clear hK K)
                all_goals
                  refine AW_cond rfl (fun hc43 => ?_) (fun hc43 => ?_)
                  · try simp at hc43
                    all_goals
                      refine AW_r rfl rfl fun K hK => ?_
                      simp [DtUp.cells]
                      repeat' first | (refine ⟨fun _ => ?_, fun _ => ?_⟩) | (refine ⟨by omega, ?_⟩) | (intro _)
                      all_goals (refine hK _ ?_; clear hK K)
                      all_goals
                        refine AW_ret (end_s ?_)
                        simp [DtUp.cells]
                        all_goals first | (refine eqB_of (he.mpr ?_); simp_all [eqB_true, eqB_false]; done) | (refine eqB_ne fun h => ?_; rw [he] at h; simp_all [eqB_true, eqB_false, eqB_self]; done) | (refine (eqB_of (he.mpr ?_)).symm; simp_all [eqB_true, eqB_false]; done) | (refine (eqB_ne fun h => ?_).symm; rw [he] at h; simp_all [eqB_true, eqB_false, eqB_self]; done)
                  · try simp at hc43
                    all_goals
                      refine AW_skip ?_
                      refine AW_id ?_
                      refine AW_r rfl rfl fun K hK => ?_
                      simp [DtUp.cells]
                      repeat' first | (refine ⟨fun _ => ?_, fun _ => ?_⟩) | (refine ⟨by omega, ?_⟩) | (intro _)
                      all_goals (refine hK _ ?_; clear hK K)
                      all_goals
                        refine AW_ret (end_s ?_)
                        simp [DtUp.cells]
                        all_goals first | (refine eqB_of (he.mpr ?_); simp_all [eqB_true, eqB_false]; done) | (refine eqB_ne fun h => ?_; rw [he] at h; simp_all [eqB_true, eqB_false, eqB_self]; done) | (refine (eqB_of (he.mpr ?_)).symm; simp_all [eqB_true, eqB_false]; done) | (refine (eqB_ne fun h => ?_).symm; rw [he] at h; simp_all [eqB_true, eqB_false, eqB_self]; done)
theorem szUpS (xs : List DtUp) (n : Int) (hn : 0 ≤ n ∧ n ≤ 1048576) (hw : (wfS DtUp.wf) xs) : PCall Try.prog 44 [.sl 3 (xs.map DtUp.cells), (.g (.int .i64 (n)))] (.g (.int .i64 (szR n (szS DtUp.sz xs)))) := by
  have hq := sumZ_nonneg DtUp.sz_nonneg xs
  have hw1 := hw.1
  refine gcall_of_walk Try.func44 (by rfl) (by rfl) (by rw [Try.ntmps44]; exact Nat.le_of_ble_eq_true rfl) rfl (by decide) ?_
  rw [Try.ntmps44]
  refine AW_k [(0, _), (1, _)] ⟨rfl, rfl, trivial⟩ ?_
  refine AW_r rfl rfl fun K hK => ?_
  simp (disch := omega) [wrap64, List.getElem?_eq_getElem, toNat_pred, szR]
  repeat' first | (exfalso; omega) | (refine ⟨fun _ => ?_, fun _ => ?_⟩) | (refine ⟨by omega, ?_⟩) | (intro _)
  all_goals (refine hK _ ?_; clear hK K)
  all_goals
    refine AW_r rfl rfl fun K hK => ?_
    simp (disch := omega) [wrap64, List.getElem?_eq_getElem, toNat_pred, szR]
    repeat' first | (exfalso; omega) | (refine ⟨fun _ => ?_, fun _ => ?_⟩) | (refine ⟨by omega, ?_⟩) | (intro _)
    all_goals (refine hK _ ?_; clear hK K)
    all_goals
      refine AW_seq ?_
      refine AW_r rfl rfl fun K hK => ?_
      simp (disch := omega) [wrap64, List.getElem?_eq_getElem, toNat_pred, szR]
      repeat' first | (exfalso; omega) | (refine ⟨fun _ => ?_, fun _ => ?_⟩) | (refine ⟨by omega, ?_⟩) | (intro _)
      all_goals (refine hK _ ?_; clear hK K)
      all_goals
        refine AW_cond rfl (fun hc44 => ?_) (fun hc44 => ?_)
        · try simp at hc44
          all_goals
            refine AW_r rfl rfl fun K hK => ?_
            simp (disch := omega) [wrap64, List.getElem?_eq_getElem, toNat_pred, szR]
            repeat' first | (exfalso; omega) | (refine ⟨fun _ => ?_, fun _ => ?_⟩) | (refine ⟨by omega, ?_⟩) | (intro _)
            all_goals (refine hK _ ?_; clear hK K)
            all_goals
              refine AW_ret (end_s ?_)
              simp (disch := omega) [wrap64, List.getElem?_eq_getElem, toNat_pred, szR, szS]
              all_goals first | omega | (split <;> omega)
        · try simp at hc44
          all_goals
            refine AW_skip ?_
            refine AW_id ?_
            refine AW_seq ?_
            refine AW_r rfl rfl fun K hK => ?_
            simp (disch := omega) [wrap64, List.getElem?_eq_getElem, toNat_pred, szR]
            repeat' first | (exfalso; omega) | (refine ⟨fun _ => ?_, fun _ => ?_⟩) | (refine ⟨by omega, ?_⟩) | (intro _)
            all_goals (refine hK _ ?_; clear hK K)
            all_goals
              refine AW_block ?_
              refine AW_loopS (fun mM sS => ∃ (i : Nat), mM = xs.length - i ∧ (i ≤ xs.length ∧ 0 ≤ n - xs.length - sumZ DtUp.sz (xs.take i)) ∧ sS = { env := lkE [(0, .sl 3 (xs.map DtUp.cells)), (1, (.g (.int .i64 (n - xs.length - sumZ DtUp.sz (xs.take i))))), (5, (.g (.int .i64 ((i : Nat)))))], ob := formOb [] [] }) ?_ ?_
              · refine ⟨_, LeS.kp [(0, .sl 3 (xs.map DtUp.cells)), (1, (.g (.int .i64 (n - xs.length - sumZ DtUp.sz (xs.take (0)))))), (5, (.g (.int .i64 (((0) : Nat)))))] (by simp [KpE, upd_app, lkE_app, lk_cons, sumZ_nil]; try first | rfl | omega), _, 0, rfl, ?_, rfl⟩
                · simp [sumZ_nil]; omega
              · rintro mM sS ⟨i, rfl, ⟨hi, hn⟩, rfl⟩
                have hz := sumZ_nonneg DtUp.sz_nonneg (xs.take i)
                have hz2 := sumZ_take_le DtUp.sz_nonneg xs i
                refine AW_seq ?_
                refine AW_r rfl rfl fun K hK => ?_
                simp (disch := omega) [wrap64, List.getElem?_eq_getElem, toNat_pred, szR, DtUp.cells]
                repeat' first | (exfalso; omega) | (refine ⟨fun _ => ?_, fun _ => ?_⟩) | (refine ⟨by omega, ?_⟩) | (intro _)
                all_goals (refine hK _ ?_; clear hK K)
                all_goals
                  refine AW_cond rfl (fun hc45 => ?_) (fun hc45 => ?_)
                  · try simp at hc45
                    all_goals
                      have hl := sumZ_take (f := DtUp.sz) xs i (by omega)
                      have hwE : DtUp.wf xs[i] := hw.2 _ (List.getElem_mem _)
                      have hz3 := sumZ_take_le DtUp.sz_nonneg xs (i + 1)
                      have hzE := DtUp.sz_nonneg xs[i]
                      have hszR : szR (n - xs.length - sumZ DtUp.sz (xs.take i)) (DtUp.sz xs[i]) = n - xs.length - sumZ DtUp.sz (xs.take (i + 1)) ∨ (szR (n - xs.length - sumZ DtUp.sz (xs.take i)) (DtUp.sz xs[i]) = -1 ∧ n - xs.length - sumZ DtUp.sz (xs.take (i + 1)) < 0) := by unfold szR; split <;> omega
                      refine AW_skip ?_
                      refine AW_id ?_
                      refine AW_seq ?_
                      refine AW_block ?_
                      refine AW_r rfl rfl fun K hK => ?_
                      simp (disch := omega) [wrap64, List.getElem?_eq_getElem, toNat_pred, szR, DtUp.cells]
                      repeat' first | (exfalso; omega) | (refine CKd_v (am2s_cons (am2_agg rfl) (am2s_cons am2_g am2s_nil)) (szUp _ _ (by omega) (by first | exact hwE | exact hw)) rfl ?_; simp (disch := omega) [wrap64, List.getElem?_eq_getElem, toNat_pred, szR, DtUp.cells]) | (refine ⟨fun _ => ?_, fun _ => ?_⟩) | (refine ⟨by omega, ?_⟩) | (intro _)
                      all_goals (refine hK _ ?_; clear hK K)
                      all_goals
                        refine AW_r rfl rfl fun K hK => ?_
                        simp (disch := omega) [wrap64, List.getElem?_eq_getElem, toNat_pred, szR, DtUp.cells]
                        repeat' first | (exfalso; omega) | (refine ⟨fun _ => ?_, fun _ => ?_⟩) | (refine ⟨by omega, ?_⟩) | (intro _)
                        all_goals (refine hK _ ?_; clear hK K)
                        all_goals
                          refine AW_cond rfl (fun hc46 => ?_) (fun hc46 => ?_)
                          · try simp at hc46
                            all_goals
                              refine AW_r rfl rfl fun K hK => ?_
                              simp (disch := omega) [wrap64, List.getElem?_eq_getElem, toNat_pred, szR, DtUp.cells]
                              repeat' first | (exfalso; omega) | (refine ⟨fun _ => ?_, fun _ => ?_⟩) | (refine ⟨by omega, ?_⟩) | (intro _)
                              all_goals (refine hK _ ?_; clear hK K)
                              all_goals
                                refine AW_ret (end_s ?_)
                                simp (disch := omega) [wrap64, List.getElem?_eq_getElem, toNat_pred, szR, DtUp.cells, szS]
                                all_goals first | omega | (split <;> omega)
                          · try simp at hc46
                            all_goals
                              refine AW_skip ?_
                              refine AW_id ?_
                              refine AW_re rfl rfl fun K hK => ?_
                              simp (disch := omega) [wrap64, List.getElem?_eq_getElem, toNat_pred, szR, DtUp.cells]
                              repeat' first | (exfalso; omega) | (refine ⟨fun _ => ?_, fun _ => ?_⟩) | (refine ⟨by omega, ?_⟩) | (intro _)
                              all_goals (refine hK _ ?_; clear hK K)
                              all_goals
                                refine ⟨_, LeS.kp [(0, .sl 3 (xs.map DtUp.cells)), (1, (.g (.int .i64 (n - xs.length - sumZ DtUp.sz (xs.take (i + 1)))))), (5, (.g (.int .i64 (((i + 1) : Nat)))))] (by simp [KpE, upd_app, lkE_app, lk_cons, sumZ_nil]; try first | rfl | omega), _, ?_, i + 1, rfl, ?_, rfl⟩
                                · omega
                                · omega
                  · try simp at hc45
                    all_goals
                      have hi2 : i = xs.length := by omega
                      subst hi2
                      simp only [List.take_length] at *
                      refine AW_exit ?_
                      refine AW_id ?_
                      refine AW_r rfl rfl fun K hK => ?_
                      simp (disch := omega) [wrap64, List.getElem?_eq_getElem, toNat_pred, szR, DtUp.cells]
                      repeat' first | (exfalso; omega) | (refine ⟨fun _ => ?_, fun _ => ?_⟩) | (refine ⟨by omega, ?_⟩) | (intro _)
                      all_goals (refine hK _ ?_; clear hK K)
                      all_goals
                        refine AW_ret (end_s ?_)
                        simp (disch := omega) [wrap64, List.getElem?_eq_getElem, toNat_pred, szR, DtUp.cells, szS]
                        all_goals first | omega | (split <;> omega)
theorem eqUpS (xs ys : List DtUp) (hs : szS DtUp.sz xs ≤ 1048576) : PCall Try.prog 50 [.sl 3 (xs.map DtUp.cells), .sl 3 (ys.map DtUp.cells)] (.g (.bool (eqB xs ys))) := by
  have hn : xs.length ≤ 1048576 := by have := sumZ_nonneg DtUp.sz_nonneg xs; simp only [szS] at hs; omega
  refine gcall_of_walk Try.func50 (by rfl) (by rfl) (by rw [Try.ntmps50]; exact Nat.le_of_ble_eq_true rfl) rfl (by decide) ?_
  rw [Try.ntmps50]
  refine AW_k [(0, _), (1, _)] ⟨rfl, rfl, trivial⟩ ?_
  refine AW_r rfl rfl fun K hK => ?_
  simp (disch := omega) [wrap64, List.getElem?_eq_getElem, toNat_pred]
  repeat' first | (exfalso; omega) | (refine ⟨fun _ => ?_, fun _ => ?_⟩) | (refine ⟨by omega, ?_⟩) | (intro _)
  all_goals (refine hK _ ?_; clear hK K)
  all_goals
    refine AW_seq ?_
    refine AW_r rfl rfl fun K hK => ?_
    simp (disch := omega) [wrap64, List.getElem?_eq_getElem, toNat_pred]
    repeat' first | (exfalso; omega) | (refine ⟨fun _ => ?_, fun _ => ?_⟩) | (refine ⟨by omega, ?_⟩) | (intro _)
    all_goals (refine hK _ ?_; clear hK K)
    all_goals
      refine AW_cond rfl (fun hc48 => ?_) (fun hc48 => ?_)
      · try simp at hc48
        all_goals
          refine AW_r rfl rfl fun K hK => ?_
          simp (disch := omega) [wrap64, List.getElem?_eq_getElem, toNat_pred]
          repeat' first | (exfalso; omega) | (refine ⟨fun _ => ?_, fun _ => ?_⟩) | (refine ⟨by omega, ?_⟩) | (intro _)
          all_goals (refine hK _ ?_; clear hK K)
          all_goals
            refine AW_ret (end_s ?_)
            simp (disch := omega) [wrap64, List.getElem?_eq_getElem, toNat_pred]
            all_goals first | (exact eqB_of heq) | (refine eqB_ne fun heq => ?_; subst heq; simp_all [eqB_true, eqB_false, eqB_self]; done) | (refine (eqB_ne fun heq => ?_).symm; subst heq; simp_all [eqB_true, eqB_false, eqB_self]; done) | simp_all [eqB_self]
      · try simp at hc48
        all_goals
          refine AW_skip ?_
          refine AW_id ?_
          refine AW_seq ?_
          refine AW_r rfl rfl fun K hK => ?_
          simp (disch := omega) [wrap64, List.getElem?_eq_getElem, toNat_pred]
          repeat' first | (exfalso; omega) | (refine ⟨fun _ => ?_, fun _ => ?_⟩) | (refine ⟨by omega, ?_⟩) | (intro _)
          all_goals (refine hK _ ?_; clear hK K)
          all_goals
            refine AW_block ?_
            refine AW_loopS (fun mM sS => ∃ (i : Nat), mM = xs.length - i ∧ (i ≤ xs.length ∧ ∀ j, j < i → xs[j]? = ys[j]?) ∧ sS = { env := lkE [(0, .sl 3 (xs.map DtUp.cells)), (1, .sl 3 (ys.map DtUp.cells)), (5, (.g (.int .i64 ((i : Nat)))))], ob := formOb [] [] }) ?_ ?_
            · refine ⟨_, LeS.kp [(0, .sl 3 (xs.map DtUp.cells)), (1, .sl 3 (ys.map DtUp.cells)), (5, (.g (.int .i64 (((0) : Nat)))))] (by simp [KpE, upd_app, lkE_app, lk_cons]; try rfl), _, 0, rfl, ?_, rfl⟩
              · simp
            · rintro mM sS ⟨i, rfl, ⟨hi, hpre⟩, rfl⟩
              refine AW_seq ?_
              refine AW_r rfl rfl fun K hK => ?_
              simp (disch := omega) [wrap64, List.getElem?_eq_getElem, toNat_pred, DtUp.cells]
              repeat' first | (exfalso; omega) | (refine ⟨fun _ => ?_, fun _ => ?_⟩) | (refine ⟨by omega, ?_⟩) | (intro _)
              all_goals (refine hK _ ?_; clear hK K)
              all_goals
                refine AW_cond rfl (fun hc49 => ?_) (fun hc49 => ?_)
                · try simp at hc49
                  all_goals
                    have h7 : i < ys.length := by omega
                    have hsE : DtUp.sz xs[i] ≤ 1048576 := by have := sumZ_mem_le DtUp.sz_nonneg xs xs[i] (List.getElem_mem _); simp only [szS] at hs; omega
                    refine AW_skip ?_
                    refine AW_id ?_
                    refine AW_seq ?_
                    refine AW_block ?_
                    refine AW_q rfl mix (by kernel_rfl) rfl fun K hK => ?_
                    simp (disch := omega) [wrap64, List.getElem?_eq_getElem, toNat_pred, DtUp.cells]
                    repeat' first | (exfalso; omega) | (refine CKd_v (am2s_cons (am2_agg rfl) (am2s_cons (am2_agg rfl) am2s_nil)) (eqUp _ _ (by first | assumption | omega)) rfl ?_; simp (disch := omega) [wrap64, List.getElem?_eq_getElem, toNat_pred, DtUp.cells]) | (refine ⟨fun _ => ?_, fun _ => ?_⟩) | (refine ⟨by omega, ?_⟩) | (intro _)
                    all_goals (refine hK _ ?_; clear hK K)
                    all_goals
                      refine AW_cond rfl (fun hc50 => ?_) (fun hc50 => ?_)
                      · try simp at hc50
                        all_goals
                          refine AW_r rfl rfl fun K hK => ?_
                          simp (disch := omega) [wrap64, List.getElem?_eq_getElem, toNat_pred, DtUp.cells]
                          repeat' first | (exfalso; omega) | (refine ⟨fun _ => ?_, fun _ => ?_⟩) | (refine ⟨by omega, ?_⟩) | (intro _)
                          all_goals (refine hK _ ?_; clear hK K)
                          all_goals
                            refine AW_ret (end_s ?_)
                            simp (disch := omega) [wrap64, List.getElem?_eq_getElem, toNat_pred, DtUp.cells]
                            all_goals first | (exact eqB_of heq) | (refine eqB_ne fun heq => ?_; subst heq; simp_all [eqB_true, eqB_false, eqB_self]; done) | (refine (eqB_ne fun heq => ?_).symm; subst heq; simp_all [eqB_true, eqB_false, eqB_self]; done) | simp_all [eqB_self]
                      · try simp at hc50
                        all_goals
                          refine AW_skip ?_
                          refine AW_id ?_
                          refine AW_re rfl rfl fun K hK => ?_
                          simp (disch := omega) [wrap64, List.getElem?_eq_getElem, toNat_pred, DtUp.cells]
                          repeat' first | (exfalso; omega) | (refine ⟨fun _ => ?_, fun _ => ?_⟩) | (refine ⟨by omega, ?_⟩) | (intro _)
                          all_goals (refine hK _ ?_; clear hK K)
                          all_goals
                            refine ⟨_, LeS.kp [(0, .sl 3 (xs.map DtUp.cells)), (1, .sl 3 (ys.map DtUp.cells)), (5, (.g (.int .i64 (((i + 1) : Nat)))))] (by simp [KpE, upd_app, lkE_app, lk_cons]; try rfl), _, ?_, i + 1, rfl, ?_, rfl⟩
                            · omega
                            · refine ⟨by omega, fun j hj => ?_⟩
                              by_cases hji : j = i
                              · subst hji; simp_all [eqB_true, eqB_false]
                              · exact hpre j (by omega)
                · try simp at hc49
                  all_goals
                    have hi2 : i = xs.length := by omega
                    subst hi2
                    have heq : xs = ys := List.ext_getElem? fun j => by
                      by_cases hj : j < xs.length
                      · exact hpre j hj
                      · rw [List.getElem?_eq_none (by omega), List.getElem?_eq_none (by omega)]
                    refine AW_exit ?_
                    refine AW_id ?_
                    refine AW_r rfl rfl fun K hK => ?_
                    simp (disch := omega) [wrap64, List.getElem?_eq_getElem, toNat_pred, DtUp.cells]
                    repeat' first | (exfalso; omega) | (refine ⟨fun _ => ?_, fun _ => ?_⟩) | (refine ⟨by omega, ?_⟩) | (intro _)
                    all_goals (refine hK _ ?_; clear hK K)
                    all_goals
                      refine AW_ret (end_s ?_)
                      simp (disch := omega) [wrap64, List.getElem?_eq_getElem, toNat_pred, DtUp.cells]
                      all_goals first | (exact eqB_of heq) | (refine eqB_ne fun heq => ?_; subst heq; simp_all [eqB_true, eqB_false, eqB_self]; done) | (refine (eqB_ne fun heq => ?_).symm; subst heq; simp_all [eqB_true, eqB_false, eqB_self]; done) | simp_all [eqB_self]
theorem szUps (u : DtUps) (n : Int) (hn : 0 ≤ n ∧ n ≤ 1048576) (hw : DtUps.wf u) : PCall Try.prog 16 [.agg (DtUps.cells u), (.g (.int .i64 (n)))] (.g (.int .i64 (szR n (DtUps.sz u)))) := by
  have ⟨w0, w1⟩ := hw
  have w12 := w1.1
  have z1 := (szS_nonneg DtUp.sz_nonneg) u.fList
  refine gcall_of_walk Try.func16 (by rfl) (by rfl) (by rw [Try.ntmps16]; exact Nat.le_of_ble_eq_true rfl) rfl (by decide) ?_
  rw [Try.ntmps16]
  refine AW_k [(0, _), (1, _)] ⟨rfl, rfl, trivial⟩ ?_
  refine AW_r rfl rfl fun K hK => ?_
  simp (disch := omega) [wrap64, List.getElem?_eq_getElem, toNat_pred, szR, DtUps.cells]
  repeat' first | (exfalso; omega) | (refine ⟨fun _ => ?_, fun _ => ?_⟩) | (refine ⟨by omega, ?_⟩) | (intro _)
  all_goals (refine hK _ ?_; clear hK K)
  all_goals
    refine AW_r rfl rfl fun K hK => ?_
    simp (disch := omega) [wrap64, List.getElem?_eq_getElem, toNat_pred, szR, DtUps.cells]
    repeat' first | (exfalso; omega) | (refine CKd_v (am2s_cons am2_sl (am2s_cons am2_g am2s_nil)) (szUpS _ _ (by omega) (by assumption)) rfl ?_; simp (disch := omega) [wrap64, List.getElem?_eq_getElem, toNat_pred, szR, DtUps.cells]) | (refine ⟨fun _ => ?_, fun _ => ?_⟩) | (refine ⟨by omega, ?_⟩) | (intro _)
    all_goals (refine hK _ ?_; clear hK K)
    all_goals
      refine AW_seq ?_
      refine AW_r rfl rfl fun K hK => ?_
      simp (disch := omega) [wrap64, List.getElem?_eq_getElem, toNat_pred, szR, DtUps.cells]
      repeat' first | (exfalso; omega) | (refine ⟨fun _ => ?_, fun _ => ?_⟩) | (refine ⟨by omega, ?_⟩) | (intro _)
      all_goals (refine hK _ ?_; clear hK K)
      all_goals
        refine AW_cond rfl (fun hc51 => ?_) (fun hc51 => ?_)
        · try simp at hc51
          all_goals
            refine AW_r rfl rfl fun K hK => ?_
            simp (disch := omega) [wrap64, List.getElem?_eq_getElem, toNat_pred, szR, DtUps.cells]
            repeat' first | (exfalso; omega) | (refine ⟨fun _ => ?_, fun _ => ?_⟩) | (refine ⟨by omega, ?_⟩) | (intro _)
            all_goals (refine hK _ ?_; clear hK K)
            all_goals
              refine AW_ret (end_s ?_)
              simp (disch := omega) [wrap64, List.getElem?_eq_getElem, toNat_pred, szR, DtUps.cells, DtUps.sz]
              all_goals first | omega | (simp_all; done) | (split <;> omega) | (split <;> simp_all <;> omega) | (simp_all [szR]; omega)
        · try simp at hc51
          all_goals
            refine AW_skip ?_
            refine AW_id ?_
            refine AW_r rfl rfl fun K hK => ?_
            simp (disch := omega) [wrap64, List.getElem?_eq_getElem, toNat_pred, szR, DtUps.cells]
            repeat' first | (exfalso; omega) | (refine ⟨fun _ => ?_, fun _ => ?_⟩) | (refine ⟨by omega, ?_⟩) | (intro _)
            all_goals (refine hK _ ?_; clear hK K)
            all_goals
              refine AW_ret (end_s ?_)
              simp (disch := omega) [wrap64, List.getElem?_eq_getElem, toNat_pred, szR, DtUps.cells, DtUps.sz]
              all_goals first | omega | (simp_all; done) | (split <;> omega) | (split <;> simp_all <;> omega) | (simp_all [szR]; omega)
theorem eqUps (u v : DtUps) (hs : DtUps.sz u ≤ 1048576) : PCall Try.prog 20 [.agg (DtUps.cells u), .agg (DtUps.cells v)] (.g (.bool (eqB u v))) := by
  simp only [DtUps.sz] at hs
  have z1 := (szS_nonneg DtUp.sz_nonneg) u.fList
  have s1 : szS DtUp.sz u.fList ≤ 1048576 := by omega
  have he := DtUps.ext_iff u v
  refine gcall_of_walk Try.func20 (by rfl) (by rfl) (by rw [Try.ntmps20]; exact Nat.le_of_ble_eq_true rfl) rfl (by decide) ?_
  rw [Try.ntmps20]
  refine AW_k [(0, _), (1, _)] ⟨rfl, rfl, trivial⟩ ?_
  refine AW_r rfl rfl fun K hK => ?_
  simp [DtUps.cells]
  repeat' first | (refine ⟨fun _ => ?_, fun _ => ?_⟩) | (refine ⟨by omega, ?_⟩) | (intro _)
  all_goals (refine hK _ ?_; clear hK K)
  all_goals
    refine AW_seq ?_
    refine AW_r rfl rfl fun K hK => ?_
    simp [DtUps.cells]
    repeat' first | (refine ⟨fun _ => ?_, fun _ => ?_⟩) | (refine ⟨by omega, ?_⟩) | (intro _)
    all_goals (refine hK _ ?_; clear hK K)
    all_goals
      refine AW_cond rfl (fun hc52 => ?_) (fun hc52 => ?_)
      · try simp at hc52
        all_goals
          refine AW_r rfl rfl fun K hK => ?_
          simp [DtUps.cells]
          repeat' first | (refine ⟨fun _ => ?_, fun _ => ?_⟩) | (refine ⟨by omega, ?_⟩) | (intro _)
          all_goals (refine hK _ ?_; clear hK K)
          all_goals
            refine AW_ret (end_s ?_)
            simp [DtUps.cells]
            all_goals first | (refine eqB_of (he.mpr ?_); simp_all [eqB_true, eqB_false]; done) | (refine eqB_ne fun h => ?_; rw [he] at h; simp_all [eqB_true, eqB_false, eqB_self]; done) | (refine (eqB_of (he.mpr ?_)).symm; simp_all [eqB_true, eqB_false]; done) | (refine (eqB_ne fun h => ?_).symm; rw [he] at h; simp_all [eqB_true, eqB_false, eqB_self]; done)
      · try simp at hc52
        all_goals
          refine AW_skip ?_
          refine AW_id ?_
          refine AW_seq ?_
          refine AW_r rfl rfl fun K hK => ?_
          simp [DtUps.cells]
          repeat' first | (refine CKd_v (am2s_cons am2_sl (am2s_cons am2_sl am2s_nil)) (eqUpS _ _ (by first | assumption | omega)) rfl ?_; simp [DtUps.cells]) | (refine ⟨fun _ => ?_, fun _ => ?_⟩) | (refine ⟨by omega, ?_⟩) | (intro _)
          all_goals (refine hK _ ?_; clear hK K)
          all_goals
            refine AW_cond rfl (fun hc53 => ?_) (fun hc53 => ?_)
            · try simp at hc53
              all_goals
                refine AW_r rfl rfl fun K hK => ?_
                simp [DtUps.cells]
                repeat' first | (refine ⟨fun _ => ?_, fun _ => ?_⟩) | (refine ⟨by omega, ?_⟩) | (intro _)
                all_goals (refine hK _ ?_; clear hK K)
                all_goals
                  refine AW_ret (end_s ?_)
                  simp [DtUps.cells]
                  all_goals first | (refine eqB_of (he.mpr ?_); simp_all [eqB_true, eqB_false]; done) | (refine eqB_ne fun h => ?_; rw [he] at h; simp_all [eqB_true, eqB_false, eqB_self]; done) | (refine (eqB_of (he.mpr ?_)).symm; simp_all [eqB_true, eqB_false]; done) | (refine (eqB_ne fun h => ?_).symm; rw [he] at h; simp_all [eqB_true, eqB_false, eqB_self]; done)
            · try simp at hc53
              all_goals
                refine AW_skip ?_
                refine AW_id ?_
                refine AW_r rfl rfl fun K hK => ?_
                simp [DtUps.cells]
                repeat' first | (refine ⟨fun _ => ?_, fun _ => ?_⟩) | (refine ⟨by omega, ?_⟩) | (intro _)
                all_goals (refine hK _ ?_; clear hK K)
                all_goals
                  refine AW_ret (end_s ?_)
                  simp [DtUps.cells]
                  all_goals first | (refine eqB_of (he.mpr ?_); simp_all [eqB_true, eqB_false]; done) | (refine eqB_ne fun h => ?_; rw [he] at h; simp_all [eqB_true, eqB_false, eqB_self]; done) | (refine (eqB_of (he.mpr ?_)).symm; simp_all [eqB_true, eqB_false]; done) | (refine (eqB_ne fun h => ?_).symm; rw [he] at h; simp_all [eqB_true, eqB_false, eqB_self]; done)
end Go.Proofs.Ytcedomdpbgjbpaa.Vs
