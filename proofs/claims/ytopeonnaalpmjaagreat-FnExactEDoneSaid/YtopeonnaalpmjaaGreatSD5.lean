import Derived.Test.YtopeonnaalpmjaaGreatVsZJ
import Derived.Test.YtopeonnaalpmjaaGreatSET
open Go Go.Proofs Go.Proofs.YtopeonnaalpmjaaGreat.Vs
namespace Go.Proofs.YtopeonnaalpmjaaGreat.Vs
set_option linter.unusedVariables false
set_option linter.unusedSimpArgs false
set_option linter.unusedSectionVars false
set_option linter.unnecessarySimpa false
set_option linter.all false
set_option linter.unusedSimpArgs false
set_option linter.unusedVariables false
theorem toId (u : DtId) : PCall Tryz.prog 49 [.agg (DtId.cells u)] (.agg (DtId.cells u)) := by
  refine gcall_of_walk Tryz.func49 (by rfl) (by rfl) (by rw [Tryz.ntmps49]; exact Nat.le_of_ble_eq_true rfl) rfl (by decide) ?_
  rw [Tryz.ntmps49]
  refine AW_k [(0, _)] ⟨rfl, trivial⟩ ?_
  refine AW_r rfl rfl fun K hK => ?_
  simp [DtId.cells]
  repeat' first | (refine ⟨fun _ => ?_, fun _ => ?_⟩) | (refine ⟨by omega, ?_⟩) | (intro _)
  all_goals (refine hK _ ?_; clear hK K)
  all_goals
    refine AW_r rfl rfl fun K hK => ?_
    simp [DtId.cells]
    repeat' first | (refine ⟨fun _ => ?_, fun _ => ?_⟩) | (refine ⟨by omega, ?_⟩) | (intro _)
    all_goals (refine hK _ ?_; clear hK K)
    all_goals
      refine AW_r rfl rfl fun K hK => ?_
      simp [DtId.cells]
      repeat' first | (refine ⟨fun _ => ?_, fun _ => ?_⟩) | (refine ⟨by omega, ?_⟩) | (intro _)
      all_goals (refine hK _ ?_; clear hK K)
      all_goals
        refine AW_r rfl rfl fun K hK => ?_
        simp [DtId.cells]
        repeat' first | (refine ⟨fun _ => ?_, fun _ => ?_⟩) | (refine ⟨by omega, ?_⟩) | (intro _)
        all_goals (refine hK _ ?_; clear hK K)
        all_goals
          refine AW_r rfl rfl fun K hK => ?_
          simp [DtId.cells]
          repeat' first | (refine ⟨fun _ => ?_, fun _ => ?_⟩) | (refine ⟨by omega, ?_⟩) | (intro _)
          all_goals (refine hK _ ?_; clear hK K)
          all_goals
            refine AW_ret (end_s ?_)
            simp [DtId.cells]
            all_goals first | omega | (simp_all; done) | (simp [List.take_of_length_le]; done) | ((try simp_all); (try simp (disch := omega) only [wrap64, Int.tdiv_eq_ediv_of_nonneg, Int.tmod_eq_emod_of_nonneg, and_true, true_and]); done) | ((try simp_all); (try simp (disch := omega) only [wrap64, Int.tdiv_eq_ediv_of_nonneg, Int.tmod_eq_emod_of_nonneg, and_true, true_and] at *); omega)
theorem eqId (u v : DtId) : PCall Tryz.prog 70 [.agg (DtId.cells u), .agg (DtId.cells v)] (.g (.bool (eqB u v))) := by
  have he := DtId.ext_iff u v
  refine gcall_of_walk Tryz.func70 (by rfl) (by rfl) (by rw [Tryz.ntmps70]; exact Nat.le_of_ble_eq_true rfl) rfl (by decide) ?_
  rw [Tryz.ntmps70]
  refine AW_k [(0, _), (1, _)] ⟨rfl, rfl, trivial⟩ ?_
  refine AW_r rfl rfl fun K hK => ?_
  simp [DtId.cells]
  repeat' first | (refine ⟨fun _ => ?_, fun _ => ?_⟩) | (refine ⟨by omega, ?_⟩) | (intro _)
  all_goals (refine hK _ ?_; clear hK K)
  all_goals
    refine AW_seq ?_
    refine AW_r rfl rfl fun K hK => ?_
    simp [DtId.cells]
    repeat' first | (refine ⟨fun _ => ?_, fun _ => ?_⟩) | (refine ⟨by omega, ?_⟩) | (intro _)
    all_goals (refine hK _ ?_; clear hK K)
    all_goals
      refine AW_cond rfl (fun hc1 => ?_) (fun hc1 => ?_)
      · try simp at hc1
        all_goals
          refine AW_r rfl rfl fun K hK => ?_
          simp [DtId.cells]
          repeat' first | (refine ⟨fun _ => ?_, fun _ => ?_⟩) | (refine ⟨by omega, ?_⟩) | (intro _)
          all_goals (refine hK _ ?_; clear hK K)
          all_goals
            refine AW_ret (end_s ?_)
            simp [DtId.cells]
            all_goals first | (refine eqB_of (he.mpr ?_); simp_all [eqB_true, eqB_false]; done) | (refine eqB_ne fun h => ?_; rw [he] at h; simp_all [eqB_true, eqB_false, eqB_self]; done) | (refine (eqB_of (he.mpr ?_)).symm; simp_all [eqB_true, eqB_false]; done) | (refine (eqB_ne fun h => ?_).symm; rw [he] at h; simp_all [eqB_true, eqB_false, eqB_self]; done)
      · try simp at hc1
        all_goals
          refine AW_skip ?_
          refine AW_id ?_
          refine AW_seq ?_
          refine AW_r rfl rfl fun K hK => ?_
          simp [DtId.cells]
          repeat' first | (refine ⟨fun _ => ?_, fun _ => ?_⟩) | (refine ⟨by omega, ?_⟩) | (intro _)
          all_goals (refine hK _ ?_; clear hK K)
          all_goals
            refine AW_cond rfl (fun hc2 => ?_) (fun hc2 => ?_)
            · try simp at hc2
              all_goals
                refine AW_r rfl rfl fun K hK => ?_
                simp [DtId.cells]
                repeat' first | (refine ⟨fun _ => ?_, fun _ => ?_⟩) | (refine ⟨by omega, ?_⟩) | (intro _)
                all_goals (refine hK _ ?_; clear hK K)
                all_goals
                  refine AW_ret (end_s ?_)
                  simp [DtId.cells]
                  all_goals first | (refine eqB_of (he.mpr ?_); simp_all [eqB_true, eqB_false]; done) | (refine eqB_ne fun h => ?_; rw [he] at h; simp_all [eqB_true, eqB_false, eqB_self]; done) | (refine (eqB_of (he.mpr ?_)).symm; simp_all [eqB_true, eqB_false]; done) | (refine (eqB_ne fun h => ?_).symm; rw [he] at h; simp_all [eqB_true, eqB_false, eqB_self]; done)
            · try simp at hc2
              all_goals
                refine AW_skip ?_
                refine AW_id ?_
                refine AW_r rfl rfl fun K hK => ?_
                simp [DtId.cells]
                repeat' first | (refine ⟨fun _ => ?_, fun _ => ?_⟩) | (refine ⟨by omega, ?_⟩) | (intro _)
                all_goals (refine hK _ ?_; clear hK K)
                all_goals
                  refine AW_ret (end_s ?_)
                  simp [DtId.cells]
                  all_goals first | (refine eqB_of (he.mpr ?_); simp_all [eqB_true, eqB_false]; done) | (refine eqB_ne fun h => ?_; rw [he] at h; simp_all [eqB_true, eqB_false, eqB_self]; done) | (refine (eqB_of (he.mpr ?_)).symm; simp_all [eqB_true, eqB_false]; done) | (refine (eqB_ne fun h => ?_).symm; rw [he] at h; simp_all [eqB_true, eqB_false, eqB_self]; done)
theorem szStringS (xs : List (List UInt8)) (n : Int) (hn : 0 ≤ n ∧ n ≤ 1048576) (hw : (wfS wfL) xs) : PCall Tryz.prog 75 [.sl 1 (xs.map cS), (.g (.int .i64 (n)))] (.g (.int .i64 (szR n (szS lenZ xs)))) := by
  have hq := sumZ_nonneg lenZ_nonneg xs
  have hw1 := hw.1
  refine gcall_of_walk Tryz.func75 (by rfl) (by rfl) (by rw [Tryz.ntmps75]; exact Nat.le_of_ble_eq_true rfl) rfl (by decide) ?_
  rw [Tryz.ntmps75]
  refine AW_k [(0, _), (1, _)] ⟨rfl, rfl, trivial⟩ ?_
  refine AW_r rfl rfl fun K hK => ?_
  simp (disch := omega) [wrap64, List.getElem?_eq_getElem, toNat_pred, szR]
  repeat' first | (exfalso; omega) | (refine ⟨fun _ => ?_, fun _ => ?_⟩) | (refine ⟨by omega, ?_⟩) | (intro _)
  all_goals (refine hK _ ?_; clear hK K)
  all_goals
    refine AW_r rfl rfl fun K hK => ?_
    simp (disch := omega) [wrap64, List.getElem?_eq_getElem, toNat_pred, szR]
    repeat' first | (exfalso; omega) | (refine ⟨fun _ => ?_, fun _ => ?_⟩) | (refine ⟨by omega, ?_⟩) | (intro _)
    all_goals (refine hK _ ?_; clear hK K)
    all_goals
      refine AW_seq ?_
      refine AW_r rfl rfl fun K hK => ?_
      simp (disch := omega) [wrap64, List.getElem?_eq_getElem, toNat_pred, szR]
      repeat' first | (exfalso; omega) | (refine ⟨fun _ => ?_, fun _ => ?_⟩) | (refine ⟨by omega, ?_⟩) | (intro _)
      all_goals (refine hK _ ?_; clear hK K)
      all_goals
        refine AW_cond rfl (fun hc3 => ?_) (fun hc3 => ?_)
        · try simp at hc3
          all_goals
            refine AW_r rfl rfl fun K hK => ?_
            simp (disch := omega) [wrap64, List.getElem?_eq_getElem, toNat_pred, szR]
            repeat' first | (exfalso; omega) | (refine ⟨fun _ => ?_, fun _ => ?_⟩) | (refine ⟨by omega, ?_⟩) | (intro _)
            all_goals (refine hK _ ?_; clear hK K)
            all_goals
              refine AW_ret (end_s ?_)
              simp (disch := omega) [wrap64, List.getElem?_eq_getElem, toNat_pred, szR, szS]
              all_goals first | omega | (split <;> omega)
        · try simp at hc3
          all_goals
            refine AW_skip ?_
            refine AW_id ?_
            refine AW_seq ?_
            refine AW_r rfl rfl fun K hK => ?_
            simp (disch := omega) [wrap64, List.getElem?_eq_getElem, toNat_pred, szR]
            repeat' first | (exfalso; omega) | (refine ⟨fun _ => ?_, fun _ => ?_⟩) | (refine ⟨by omega, ?_⟩) | (intro _)
            all_goals (refine hK _ ?_; clear hK K)
            all_goals
              refine AW_block ?_
              refine AW_loopS (fun mM sS => ∃ (i : Nat), mM = xs.length - i ∧ (i ≤ xs.length ∧ 0 ≤ n - xs.length - sumZ lenZ (xs.take i)) ∧ sS = { env := lkE [(0, .sl 1 (xs.map cS)), (1, (.g (.int .i64 (n - xs.length - sumZ lenZ (xs.take i))))), (5, (.g (.int .i64 ((i : Nat)))))], ob := formOb [] [] }) ?_ ?_
              · refine ⟨_, LeS.kp [(0, .sl 1 (xs.map cS)), (1, (.g (.int .i64 (n - xs.length - sumZ lenZ (xs.take (0)))))), (5, (.g (.int .i64 (((0) : Nat)))))] (by simp [KpE, upd_app, lkE_app, lk_cons, sumZ_nil]; try first | rfl | omega), _, 0, rfl, ?_, rfl⟩
                · simp [sumZ_nil]; omega
              · rintro mM sS ⟨i, rfl, ⟨hi, hn⟩, rfl⟩
                have hz := sumZ_nonneg lenZ_nonneg (xs.take i)
                have hz2 := sumZ_take_le lenZ_nonneg xs i
                refine AW_seq ?_
                refine AW_r rfl rfl fun K hK => ?_
                simp (disch := omega) [wrap64, List.getElem?_eq_getElem, toNat_pred, szR, cS, lenZ]
                repeat' first | (exfalso; omega) | (refine ⟨fun _ => ?_, fun _ => ?_⟩) | (refine ⟨by omega, ?_⟩) | (intro _)
                all_goals (refine hK _ ?_; clear hK K)
                all_goals
                  refine AW_cond rfl (fun hc4 => ?_) (fun hc4 => ?_)
                  · try simp at hc4
                    all_goals
                      have hl := sumZ_take (f := lenZ) xs i (by omega)
                      have hwE : wfL xs[i] := hw.2 _ (List.getElem_mem _)
                      have hwE2 : xs[i].length ≤ 9223372036854775807 := hwE
                      simp only [lenZ] at hl
                      have hz3 := sumZ_take_le lenZ_nonneg xs (i + 1)
                      refine AW_skip ?_
                      refine AW_id ?_
                      refine AW_seq ?_
                      refine AW_block ?_
                      refine AW_r rfl rfl fun K hK => ?_
                      simp (disch := omega) [wrap64, List.getElem?_eq_getElem, toNat_pred, szR, cS, lenZ]
                      repeat' first | (exfalso; omega) | (refine ⟨fun _ => ?_, fun _ => ?_⟩) | (refine ⟨by omega, ?_⟩) | (intro _)
                      all_goals (refine hK _ ?_; clear hK K)
                      all_goals
                        refine AW_r rfl rfl fun K hK => ?_
                        simp (disch := omega) [wrap64, List.getElem?_eq_getElem, toNat_pred, szR, cS, lenZ]
                        repeat' first | (exfalso; omega) | (refine ⟨fun _ => ?_, fun _ => ?_⟩) | (refine ⟨by omega, ?_⟩) | (intro _)
                        all_goals (refine hK _ ?_; clear hK K)
                        all_goals
                          refine AW_cond rfl (fun hc5 => ?_) (fun hc5 => ?_)
                          · try simp at hc5
                            all_goals
                              refine AW_r rfl rfl fun K hK => ?_
                              simp (disch := omega) [wrap64, List.getElem?_eq_getElem, toNat_pred, szR, cS, lenZ]
                              repeat' first | (exfalso; omega) | (refine ⟨fun _ => ?_, fun _ => ?_⟩) | (refine ⟨by omega, ?_⟩) | (intro _)
                              all_goals (refine hK _ ?_; clear hK K)
                              all_goals
                                refine AW_ret (end_s ?_)
                                simp (disch := omega) [wrap64, List.getElem?_eq_getElem, toNat_pred, szR, cS, lenZ, szS]
                                all_goals first | omega | (split <;> omega)
                          · try simp at hc5
                            all_goals
                              refine AW_skip ?_
                              refine AW_id ?_
                              refine AW_re rfl rfl fun K hK => ?_
                              simp (disch := omega) [wrap64, List.getElem?_eq_getElem, toNat_pred, szR, cS, lenZ]
                              repeat' first | (exfalso; omega) | (refine ⟨fun _ => ?_, fun _ => ?_⟩) | (refine ⟨by omega, ?_⟩) | (intro _)
                              all_goals (refine hK _ ?_; clear hK K)
                              all_goals
                                refine ⟨_, LeS.kp [(0, .sl 1 (xs.map cS)), (1, (.g (.int .i64 (n - xs.length - sumZ lenZ (xs.take (i + 1)))))), (5, (.g (.int .i64 (((i + 1) : Nat)))))] (by simp [KpE, upd_app, lkE_app, lk_cons, sumZ_nil]; try first | rfl | omega), _, ?_, i + 1, rfl, ?_, rfl⟩
                                · omega
                                · omega
                  · try simp at hc4
                    all_goals
                      have hi2 : i = xs.length := by omega
                      subst hi2
                      simp only [List.take_length] at *
                      refine AW_exit ?_
                      refine AW_id ?_
                      refine AW_r rfl rfl fun K hK => ?_
                      simp (disch := omega) [wrap64, List.getElem?_eq_getElem, toNat_pred, szR, cS, lenZ]
                      repeat' first | (exfalso; omega) | (refine ⟨fun _ => ?_, fun _ => ?_⟩) | (refine ⟨by omega, ?_⟩) | (intro _)
                      all_goals (refine hK _ ?_; clear hK K)
                      all_goals
                        refine AW_ret (end_s ?_)
                        simp (disch := omega) [wrap64, List.getElem?_eq_getElem, toNat_pred, szR, cS, lenZ, szS]
                        all_goals first | omega | (split <;> omega)
theorem toStringS (xs : List (List UInt8)) (hs : szS lenZ xs ≤ 1048576) : PCall Tryz.prog 83 [.sl 1 (xs.map cS)] (.sl 1 (xs.map cS)) := by
  have hn : xs.length ≤ 1048576 := by have := sumZ_nonneg lenZ_nonneg xs; simp only [szS] at hs; omega
  refine gcall_of_walk Tryz.func83 (by rfl) (by rfl) (by rw [Tryz.ntmps83]; exact Nat.le_of_ble_eq_true rfl) rfl (by decide) ?_
  rw [Tryz.ntmps83]
  refine AW_k [(0, _)] ⟨rfl, trivial⟩ ?_
  refine AW_r rfl rfl fun K hK => ?_
  simp (disch := omega) [wrap64, List.getElem?_eq_getElem, toNat_pred]
  repeat' first | (exfalso; omega) | (refine ⟨fun _ => ?_, fun _ => ?_⟩) | (refine ⟨by omega, ?_⟩) | (intro _)
  all_goals (refine hK _ ?_; clear hK K)
  all_goals
    refine AW_r rfl rfl fun K hK => ?_
    simp (disch := omega) [wrap64, List.getElem?_eq_getElem, toNat_pred]
    repeat' first | (exfalso; omega) | (refine ⟨fun _ => ?_, fun _ => ?_⟩) | (refine ⟨by omega, ?_⟩) | (intro _)
    all_goals (refine hK _ ?_; clear hK K)
    all_goals
      refine AW_seq ?_
      refine AW_r rfl rfl fun K hK => ?_
      simp (disch := omega) [wrap64, List.getElem?_eq_getElem, toNat_pred]
      repeat' first | (exfalso; omega) | (refine ⟨fun _ => ?_, fun _ => ?_⟩) | (refine ⟨by omega, ?_⟩) | (intro _)
      all_goals (refine hK _ ?_; clear hK K)
      all_goals
        refine AW_block ?_
        refine AW_loopS (fun mM sS => ∃ (i : Nat) (ys : List (List AV)), mM = xs.length - i ∧ (i ≤ xs.length ∧ ys.length = xs.length ∧ (∀ j, j < i → ys[j]? = (xs.map cS)[j]?) ∧ (∀ y ∈ ys, y.length = 1)) ∧ sS = { env := lkE [(0, .sl 1 (xs.map cS)), (3, .arr 128 0 xs.length), (4, (.g (.int .i64 ((i : Nat)))))], ob := upd (formOb [] []) 128 (some (.flat 1 ys)) }) ?_ ?_
        · refine ⟨_, LeS.kp [(0, .sl 1 (xs.map cS)), (3, .arr 128 0 xs.length), (4, (.g (.int .i64 (((0) : Nat)))))] (by simp [KpE, upd_app, lkE_app, lk_cons]; try rfl), _, 0, List.replicate xs.length [.s []], rfl, ?_, rfl⟩
          · simp
        · rintro mM sS ⟨i, ys, rfl, ⟨hi, hl, hpre, hone⟩, rfl⟩
          refine AW_seq ?_
          refine AW_r rfl rfl fun K hK => ?_
          simp (disch := omega) [wrap64, List.getElem?_eq_getElem, toNat_pred, cS]
          repeat' first | (exfalso; omega) | (refine ⟨fun _ => ?_, fun _ => ?_⟩) | (refine ⟨by omega, ?_⟩) | (intro _)
          all_goals (refine hK _ ?_; clear hK K)
          all_goals
            refine AW_cond rfl (fun hc6 => ?_) (fun hc6 => ?_)
            · try simp at hc6
              all_goals
                obtain ⟨c1, h6⟩ : ∃ c1, ys[i]'(by omega) = [c1] := List.length_eq_one_iff.1 (hone _ (List.getElem_mem _))
                refine AW_skip ?_
                refine AW_id ?_
                refine AW_seq ?_
                refine AW_block ?_
                refine AW_re rfl rfl fun K hK => ?_
                simp (disch := omega) [wrap64, List.getElem?_eq_getElem, toNat_pred, cS, h6]
                repeat' first | (exfalso; omega) | (refine ⟨fun _ => ?_, fun _ => ?_⟩) | (refine ⟨by omega, ?_⟩) | (intro _)
                all_goals (refine hK _ ?_; clear hK K)
                all_goals
                  refine AW_id ?_
                  refine AW_re rfl rfl fun K hK => ?_
                  simp (disch := omega) [wrap64, List.getElem?_eq_getElem, toNat_pred, cS, h6]
                  repeat' first | (exfalso; omega) | (refine ⟨fun _ => ?_, fun _ => ?_⟩) | (refine ⟨by omega, ?_⟩) | (intro _)
                  all_goals (refine hK _ ?_; clear hK K)
                  all_goals
                    refine ⟨_, LeS.kp [(0, .sl 1 (xs.map cS)), (3, .arr 128 0 xs.length), (4, (.g (.int .i64 (((i + 1) : Nat)))))] (by simp [KpE, upd_app, lkE_app, lk_cons]; try rfl), _, ?_, i + 1, ys.set i (cS xs[i]), rfl, ?_, ?_⟩
                    · omega
                    · refine ⟨by omega, by simpa using hl, fun j hj => ?_, fun y hy => ?_⟩
                      · by_cases hji : j = i
                        · subst hji; rw [List.getElem?_set_self (by omega), List.getElem?_map, List.getElem?_eq_getElem (by omega)]; rfl
                        · rw [List.getElem?_set_ne (by omega)]; exact hpre j (by omega)
                      · rcases List.mem_or_eq_of_mem_set hy with hy | rfl
                        · exact hone y hy
                        · rfl
                    · simp [cS]
            · try simp at hc6
              all_goals
                have hi2 : i = xs.length := by omega
                subst hi2
                have hys : ys = xs.map cS := List.ext_getElem? fun j => by
                  by_cases hj : j < xs.length
                  · exact hpre j hj
                  · rw [List.getElem?_eq_none (by omega), List.getElem?_eq_none (by simp; omega)]
                subst hys
                refine AW_exit ?_
                refine AW_id ?_
                refine AW_r rfl rfl fun K hK => ?_
                simp (disch := omega) [wrap64, List.getElem?_eq_getElem, toNat_pred, cS]
                repeat' first | (exfalso; omega) | (refine ⟨fun _ => ?_, fun _ => ?_⟩) | (refine ⟨by omega, ?_⟩) | (intro _)
                all_goals (refine hK _ ?_; clear hK K)
                all_goals
                  refine AW_ret (end_s ?_)
                  simp (disch := omega) [wrap64, List.getElem?_eq_getElem, toNat_pred, cS]
                  all_goals first | omega | (simp_all; done) | (simp [List.take_of_length_le]; done) | ((try simp_all); (try simp (disch := omega) only [wrap64, Int.tdiv_eq_ediv_of_nonneg, Int.tmod_eq_emod_of_nonneg, and_true, true_and]); done) | ((try simp_all); (try simp (disch := omega) only [wrap64, Int.tdiv_eq_ediv_of_nonneg, Int.tmod_eq_emod_of_nonneg, and_true, true_and] at *); omega)
theorem eqStringS (xs ys : List (List UInt8)) (hs : szS lenZ xs ≤ 1048576) : PCall Tryz.prog 98 [.sl 1 (xs.map cS), .sl 1 (ys.map cS)] (.g (.bool (eqB xs ys))) := by
  have hn : xs.length ≤ 1048576 := by have := sumZ_nonneg lenZ_nonneg xs; simp only [szS] at hs; omega
  refine gcall_of_walk Tryz.func98 (by rfl) (by rfl) (by rw [Tryz.ntmps98]; exact Nat.le_of_ble_eq_true rfl) rfl (by decide) ?_
  rw [Tryz.ntmps98]
  refine AW_k [(0, _), (1, _)] ⟨rfl, rfl, trivial⟩ ?_
  refine AW_r rfl rfl fun K hK => ?_
  simp (disch := omega) [wrap64, List.getElem?_eq_getElem, toNat_pred]
  repeat' first | (exfalso; omega) | (refine ⟨fun _ => ?_, fun _ => ?_⟩) | (refine ⟨by omega, ?_⟩) | (intro _)
  all_goals (refine hK _ ?_; clear hK K)
  all_goals
    refine AW_seq ?_
    refine AW_r rfl rfl fun K hK => ?_
    simp (disch := omega) [wrap64, List.getElem?_eq_getElem, toNat_pred]
    repeat' first | (exfalso; omega) | (refine ⟨fun _ => ?_, fun _ => ?_⟩) | (refine ⟨by omega, ?_⟩) | (intro _)
    all_goals (refine hK _ ?_; clear hK K)
    all_goals
      refine AW_cond rfl (fun hc7 => ?_) (fun hc7 => ?_)
      · try simp at hc7
        all_goals
          refine AW_r rfl rfl fun K hK => ?_
          simp (disch := omega) [wrap64, List.getElem?_eq_getElem, toNat_pred]
          repeat' first | (exfalso; omega) | (refine ⟨fun _ => ?_, fun _ => ?_⟩) | (refine ⟨by omega, ?_⟩) | (intro _)
          all_goals (refine hK _ ?_; clear hK K)
          all_goals
            refine AW_ret (end_s ?_)
            simp (disch := omega) [wrap64, List.getElem?_eq_getElem, toNat_pred]
            all_goals first | (exact eqB_of heq) | (refine eqB_ne fun heq => ?_; subst heq; simp_all [eqB_true, eqB_false, eqB_self]; done) | (refine (eqB_ne fun heq => ?_).symm; subst heq; simp_all [eqB_true, eqB_false, eqB_self]; done) | simp_all [eqB_self]
      · try simp at hc7
        all_goals
          refine AW_skip ?_
          refine AW_id ?_
          refine AW_seq ?_
          refine AW_r rfl rfl fun K hK => ?_
          simp (disch := omega) [wrap64, List.getElem?_eq_getElem, toNat_pred]
          repeat' first | (exfalso; omega) | (refine ⟨fun _ => ?_, fun _ => ?_⟩) | (refine ⟨by omega, ?_⟩) | (intro _)
          all_goals (refine hK _ ?_; clear hK K)
          all_goals
            refine AW_block ?_
            refine AW_loopS (fun mM sS => ∃ (i : Nat), mM = xs.length - i ∧ (i ≤ xs.length ∧ ∀ j, j < i → xs[j]? = ys[j]?) ∧ sS = { env := lkE [(0, .sl 1 (xs.map cS)), (1, .sl 1 (ys.map cS)), (5, (.g (.int .i64 ((i : Nat)))))], ob := formOb [] [] }) ?_ ?_
            · refine ⟨_, LeS.kp [(0, .sl 1 (xs.map cS)), (1, .sl 1 (ys.map cS)), (5, (.g (.int .i64 (((0) : Nat)))))] (by simp [KpE, upd_app, lkE_app, lk_cons]; try rfl), _, 0, rfl, ?_, rfl⟩
              · simp
            · rintro mM sS ⟨i, rfl, ⟨hi, hpre⟩, rfl⟩
              refine AW_seq ?_
              refine AW_r rfl rfl fun K hK => ?_
              simp (disch := omega) [wrap64, List.getElem?_eq_getElem, toNat_pred, cS]
              repeat' first | (exfalso; omega) | (refine ⟨fun _ => ?_, fun _ => ?_⟩) | (refine ⟨by omega, ?_⟩) | (intro _)
              all_goals (refine hK _ ?_; clear hK K)
              all_goals
                refine AW_cond rfl (fun hc8 => ?_) (fun hc8 => ?_)
                · try simp at hc8
                  all_goals
                    have h7 : i < ys.length := by omega
                    refine AW_skip ?_
                    refine AW_id ?_
                    refine AW_seq ?_
                    refine AW_block ?_
                    refine AW_q rfl mix (by kernel_rfl) rfl fun K hK => ?_
                    simp (disch := omega) [wrap64, List.getElem?_eq_getElem, toNat_pred, cS]
                    repeat' first | (exfalso; omega) | (refine ⟨fun _ => ?_, fun _ => ?_⟩) | (refine ⟨by omega, ?_⟩) | (intro _)
                    all_goals (refine hK _ ?_; clear hK K)
                    all_goals
                      refine AW_cond rfl (fun hc9 => ?_) (fun hc9 => ?_)
                      · try simp at hc9
                        all_goals
                          refine AW_r rfl rfl fun K hK => ?_
                          simp (disch := omega) [wrap64, List.getElem?_eq_getElem, toNat_pred, cS]
                          repeat' first | (exfalso; omega) | (refine ⟨fun _ => ?_, fun _ => ?_⟩) | (refine ⟨by omega, ?_⟩) | (intro _)
                          all_goals (refine hK _ ?_; clear hK K)
                          all_goals
                            refine AW_ret (end_s ?_)
                            simp (disch := omega) [wrap64, List.getElem?_eq_getElem, toNat_pred, cS]
                            all_goals first | (exact eqB_of heq) | (refine eqB_ne fun heq => ?_; subst heq; simp_all [eqB_true, eqB_false, eqB_self]; done) | (refine (eqB_ne fun heq => ?_).symm; subst heq; simp_all [eqB_true, eqB_false, eqB_self]; done) | simp_all [eqB_self]
                      · try simp at hc9
                        all_goals
                          refine AW_skip ?_
                          refine AW_id ?_
                          refine AW_re rfl rfl fun K hK => ?_
                          simp (disch := omega) [wrap64, List.getElem?_eq_getElem, toNat_pred, cS]
                          repeat' first | (exfalso; omega) | (refine ⟨fun _ => ?_, fun _ => ?_⟩) | (refine ⟨by omega, ?_⟩) | (intro _)
                          all_goals (refine hK _ ?_; clear hK K)
                          all_goals
                            refine ⟨_, LeS.kp [(0, .sl 1 (xs.map cS)), (1, .sl 1 (ys.map cS)), (5, (.g (.int .i64 (((i + 1) : Nat)))))] (by simp [KpE, upd_app, lkE_app, lk_cons]; try rfl), _, ?_, i + 1, rfl, ?_, rfl⟩
                            · omega
                            · refine ⟨by omega, fun j hj => ?_⟩
                              by_cases hji : j = i
                              · subst hji; simp_all [eqB_true, eqB_false]
                              · exact hpre j (by omega)
                · try simp at hc8
                  all_goals
                    have hi2 : i = xs.length := by omega
                    subst hi2
                    have heq : xs = ys := List.ext_getElem? fun j => by
                      by_cases hj : j < xs.length
                      · exact hpre j hj
                      · rw [List.getElem?_eq_none (by omega), List.getElem?_eq_none (by omega)]
                    refine AW_exit ?_
                    refine AW_id ?_
                    refine AW_r rfl rfl fun K hK => ?_
                    simp (disch := omega) [wrap64, List.getElem?_eq_getElem, toNat_pred, cS]
                    repeat' first | (exfalso; omega) | (refine ⟨fun _ => ?_, fun _ => ?_⟩) | (refine ⟨by omega, ?_⟩) | (intro _)
                    all_goals (refine hK _ ?_; clear hK K)
                    all_goals
                      refine AW_ret (end_s ?_)
                      simp (disch := omega) [wrap64, List.getElem?_eq_getElem, toNat_pred, cS]
                      all_goals first | (exact eqB_of heq) | (refine eqB_ne fun heq => ?_; subst heq; simp_all [eqB_true, eqB_false, eqB_self]; done) | (refine (eqB_ne fun heq => ?_).symm; subst heq; simp_all [eqB_true, eqB_false, eqB_self]; done) | simp_all [eqB_self]
theorem szCmd (u : DtCmd) (n : Int) (hn : 0 ≤ n ∧ n ≤ 1048576) (hw : DtCmd.wf u) : PCall Tryz.prog 35 [.agg (DtCmd.cells u), (.g (.int .i64 (n)))] (.g (.int .i64 (szR n (DtCmd.sz u)))) := by
  have ⟨w0, w1, w2, w3, w4, w5, w6, w7⟩ := hw
  have w32 : u.fSet.length ≤ 9223372036854775807 := w3
  have w42 : u.fName.length ≤ 9223372036854775807 := w4
  have w52 : u.fTag.length ≤ 9223372036854775807 := w5
  have w72 := w7.1
  have z7 := (szS_nonneg lenZ_nonneg) u.fChunks
  refine gcall_of_walk Tryz.func35 (by rfl) (by rfl) (by rw [Tryz.ntmps35]; exact Nat.le_of_ble_eq_true rfl) rfl (by decide) ?_
  rw [Tryz.ntmps35]
  refine AW_k [(0, _), (1, _)] ⟨rfl, rfl, trivial⟩ ?_
  refine AW_r rfl rfl fun K hK => ?_
  simp (disch := omega) [wrap64, List.getElem?_eq_getElem, toNat_pred, szR, DtCmd.cells]
  repeat' first | (exfalso; omega) | (refine ⟨fun _ => ?_, fun _ => ?_⟩) | (refine ⟨by omega, ?_⟩) | (intro _)
  all_goals (refine hK _ ?_; clear hK K)
  all_goals
    refine AW_r rfl rfl fun K hK => ?_
    simp (disch := omega) [wrap64, List.getElem?_eq_getElem, toNat_pred, szR, DtCmd.cells]
    repeat' first | (exfalso; omega) | (refine ⟨fun _ => ?_, fun _ => ?_⟩) | (refine ⟨by omega, ?_⟩) | (intro _)
    all_goals (refine hK _ ?_; clear hK K)
    all_goals
      refine AW_seq ?_
      refine AW_r rfl rfl fun K hK => ?_
      simp (disch := omega) [wrap64, List.getElem?_eq_getElem, toNat_pred, szR, DtCmd.cells]
      repeat' first | (exfalso; omega) | (refine ⟨fun _ => ?_, fun _ => ?_⟩) | (refine ⟨by omega, ?_⟩) | (intro _)
      all_goals (refine hK _ ?_; clear hK K)
      all_goals
        refine AW_cond rfl (fun hc10 => ?_) (fun hc10 => ?_)
        · try simp at hc10
          all_goals
            refine AW_r rfl rfl fun K hK => ?_
            simp (disch := omega) [wrap64, List.getElem?_eq_getElem, toNat_pred, szR, DtCmd.cells]
            repeat' first | (exfalso; omega) | (refine ⟨fun _ => ?_, fun _ => ?_⟩) | (refine ⟨by omega, ?_⟩) | (intro _)
            all_goals (refine hK _ ?_; clear hK K)
            all_goals
              refine AW_ret (end_s ?_)
              simp (disch := omega) [wrap64, List.getElem?_eq_getElem, toNat_pred, szR, DtCmd.cells, DtCmd.sz]
              all_goals first | omega | (simp_all; done) | (split <;> omega) | (split <;> simp_all <;> omega) | (simp_all [szR]; omega)
        · try simp at hc10
          all_goals
            refine AW_skip ?_
            refine AW_id ?_
            refine AW_r rfl rfl fun K hK => ?_
            simp (disch := omega) [wrap64, List.getElem?_eq_getElem, toNat_pred, szR, DtCmd.cells]
            repeat' first | (exfalso; omega) | (refine ⟨fun _ => ?_, fun _ => ?_⟩) | (refine ⟨by omega, ?_⟩) | (intro _)
            all_goals (refine hK _ ?_; clear hK K)
            all_goals
              refine AW_seq ?_
              refine AW_r rfl rfl fun K hK => ?_
              simp (disch := omega) [wrap64, List.getElem?_eq_getElem, toNat_pred, szR, DtCmd.cells]
              repeat' first | (exfalso; omega) | (refine ⟨fun _ => ?_, fun _ => ?_⟩) | (refine ⟨by omega, ?_⟩) | (intro _)
              all_goals (refine hK _ ?_; clear hK K)
              all_goals
                refine AW_cond rfl (fun hc11 => ?_) (fun hc11 => ?_)
                · try simp at hc11
                  all_goals
                    refine AW_r rfl rfl fun K hK => ?_
                    simp (disch := omega) [wrap64, List.getElem?_eq_getElem, toNat_pred, szR, DtCmd.cells]
                    repeat' first | (exfalso; omega) | (refine ⟨fun _ => ?_, fun _ => ?_⟩) | (refine ⟨by omega, ?_⟩) | (intro _)
                    all_goals (refine hK _ ?_; clear hK K)
                    all_goals
                      refine AW_ret (end_s ?_)
                      simp (disch := omega) [wrap64, List.getElem?_eq_getElem, toNat_pred, szR, DtCmd.cells, DtCmd.sz]
                      all_goals first | omega | (simp_all; done) | (split <;> omega) | (split <;> simp_all <;> omega) | (simp_all [szR]; omega)
                · try simp at hc11
                  all_goals
                    refine AW_skip ?_
                    refine AW_id ?_
                    refine AW_r rfl rfl fun K hK => ?_
                    simp (disch := omega) [wrap64, List.getElem?_eq_getElem, toNat_pred, szR, DtCmd.cells]
                    repeat' first | (exfalso; omega) | (refine ⟨fun _ => ?_, fun _ => ?_⟩) | (refine ⟨by omega, ?_⟩) | (intro _)
                    all_goals (refine hK _ ?_; clear hK K)
                    all_goals
                      refine AW_seq ?_
                      refine AW_r rfl rfl fun K hK => ?_
                      simp (disch := omega) [wrap64, List.getElem?_eq_getElem, toNat_pred, szR, DtCmd.cells]
                      repeat' first | (exfalso; omega) | (refine ⟨fun _ => ?_, fun _ => ?_⟩) | (refine ⟨by omega, ?_⟩) | (intro _)
                      all_goals (refine hK _ ?_; clear hK K)
                      all_goals
                        refine AW_cond rfl (fun hc12 => ?_) (fun hc12 => ?_)
                        · try simp at hc12
                          all_goals
                            refine AW_r rfl rfl fun K hK => ?_
                            simp (disch := omega) [wrap64, List.getElem?_eq_getElem, toNat_pred, szR, DtCmd.cells]
                            repeat' first | (exfalso; omega) | (refine ⟨fun _ => ?_, fun _ => ?_⟩) | (refine ⟨by omega, ?_⟩) | (intro _)
                            all_goals (refine hK _ ?_; clear hK K)
                            all_goals
                              refine AW_ret (end_s ?_)
                              simp (disch := omega) [wrap64, List.getElem?_eq_getElem, toNat_pred, szR, DtCmd.cells, DtCmd.sz]
                              all_goals first | omega | (simp_all; done) | (split <;> omega) | (split <;> simp_all <;> omega) | (simp_all [szR]; omega)
                        · try simp at hc12
                          all_goals
                            refine AW_skip ?_
                            refine AW_id ?_
                            refine AW_r rfl rfl fun K hK => ?_
                            simp (disch := omega) [wrap64, List.getElem?_eq_getElem, toNat_pred, szR, DtCmd.cells]
                            repeat' first | (exfalso; omega) | (refine CKd_v (am2s_cons am2_sl (am2s_cons am2_g am2s_nil)) (szStringS _ _ (by omega) (by assumption)) rfl ?_; simp (disch := omega) [wrap64, List.getElem?_eq_getElem, toNat_pred, szR, DtCmd.cells]) | (refine ⟨fun _ => ?_, fun _ => ?_⟩) | (refine ⟨by omega, ?_⟩) | (intro _)
                            all_goals (refine hK _ ?_; clear hK K)
                            all_goals
                              refine AW_seq ?_
                              refine AW_r rfl rfl fun K hK => ?_
                              simp (disch := omega) [wrap64, List.getElem?_eq_getElem, toNat_pred, szR, DtCmd.cells]
                              repeat' first | (exfalso; omega) | (refine ⟨fun _ => ?_, fun _ => ?_⟩) | (refine ⟨by omega, ?_⟩) | (intro _)
                              all_goals (refine hK _ ?_; clear hK K)
                              all_goals
                                refine AW_cond rfl (fun hc13 => ?_) (fun hc13 => ?_)
                                · try simp at hc13
                                  all_goals
                                    refine AW_r rfl rfl fun K hK => ?_
                                    simp (disch := omega) [wrap64, List.getElem?_eq_getElem, toNat_pred, szR, DtCmd.cells]
                                    repeat' first | (exfalso; omega) | (refine ⟨fun _ => ?_, fun _ => ?_⟩) | (refine ⟨by omega, ?_⟩) | (intro _)
                                    all_goals (refine hK _ ?_; clear hK K)
                                    all_goals
                                      refine AW_ret (end_s ?_)
                                      simp (disch := omega) [wrap64, List.getElem?_eq_getElem, toNat_pred, szR, DtCmd.cells, DtCmd.sz]
                                      all_goals first | omega | (simp_all; done) | (split <;> omega) | (split <;> simp_all <;> omega) | (simp_all [szR]; omega)
                                · try simp at hc13
                                  all_goals
                                    refine AW_skip ?_
                                    refine AW_id ?_
                                    refine AW_r rfl rfl fun K hK => ?_
                                    simp (disch := omega) [wrap64, List.getElem?_eq_getElem, toNat_pred, szR, DtCmd.cells]
                                    repeat' first | (exfalso; omega) | (refine ⟨fun _ => ?_, fun _ => ?_⟩) | (refine ⟨by omega, ?_⟩) | (intro _)
                                    all_goals (refine hK _ ?_; clear hK K)
                                    all_goals
                                      refine AW_ret (end_s ?_)
                                      simp (disch := omega) [wrap64, List.getElem?_eq_getElem, toNat_pred, szR, DtCmd.cells, DtCmd.sz]
                                      all_goals first | omega | (simp_all; done) | (split <;> omega) | (split <;> simp_all <;> omega) | (simp_all [szR]; omega)
theorem toCmd (u : DtCmd) (hs : DtCmd.sz u ≤ 1048576) : PCall Tryz.prog 50 [.agg (DtCmd.cells u)] (.agg (DtCmd.cells u)) := by
  simp only [DtCmd.sz] at hs
  have z7 := (szS_nonneg lenZ_nonneg) u.fChunks
  have s3 : (u.fSet.length : Int) ≤ 1048576 := by omega
  have s4 : (u.fName.length : Int) ≤ 1048576 := by omega
  have s5 : (u.fTag.length : Int) ≤ 1048576 := by omega
  have s7 : szS lenZ u.fChunks ≤ 1048576 := by omega
  refine gcall_of_walk Tryz.func50 (by rfl) (by rfl) (by rw [Tryz.ntmps50]; exact Nat.le_of_ble_eq_true rfl) rfl (by decide) ?_
  rw [Tryz.ntmps50]
  refine AW_k [(0, _)] ⟨rfl, trivial⟩ ?_
  refine AW_r rfl rfl fun K hK => ?_
  simp [DtCmd.cells]
  repeat' first | (refine ⟨fun _ => ?_, fun _ => ?_⟩) | (refine ⟨by omega, ?_⟩) | (intro _)
  all_goals (refine hK _ ?_; clear hK K)
  all_goals
    refine AW_r rfl rfl fun K hK => ?_
    simp [DtCmd.cells]
    repeat' first | (refine ⟨fun _ => ?_, fun _ => ?_⟩) | (refine ⟨by omega, ?_⟩) | (intro _)
    all_goals (refine hK _ ?_; clear hK K)
    all_goals
      refine AW_r rfl rfl fun K hK => ?_
      simp [DtCmd.cells]
      repeat' first | (refine ⟨fun _ => ?_, fun _ => ?_⟩) | (refine ⟨by omega, ?_⟩) | (intro _)
      all_goals (refine hK _ ?_; clear hK K)
      all_goals
        refine AW_r rfl rfl fun K hK => ?_
        simp [DtCmd.cells]
        repeat' first | (refine ⟨fun _ => ?_, fun _ => ?_⟩) | (refine ⟨by omega, ?_⟩) | (intro _)
        all_goals (refine hK _ ?_; clear hK K)
        all_goals
          refine AW_r rfl rfl fun K hK => ?_
          simp [DtCmd.cells]
          repeat' first | (refine ⟨fun _ => ?_, fun _ => ?_⟩) | (refine ⟨by omega, ?_⟩) | (intro _)
          all_goals (refine hK _ ?_; clear hK K)
          all_goals
            refine AW_r rfl rfl fun K hK => ?_
            simp [DtCmd.cells]
            repeat' first | (refine ⟨fun _ => ?_, fun _ => ?_⟩) | (refine ⟨by omega, ?_⟩) | (intro _)
            all_goals (refine hK _ ?_; clear hK K)
            all_goals
              refine AW_r rfl rfl fun K hK => ?_
              simp [DtCmd.cells]
              repeat' first | (refine ⟨fun _ => ?_, fun _ => ?_⟩) | (refine ⟨by omega, ?_⟩) | (intro _)
              all_goals (refine hK _ ?_; clear hK K)
              all_goals
                refine AW_r rfl rfl fun K hK => ?_
                simp [DtCmd.cells]
                repeat' first | (refine ⟨fun _ => ?_, fun _ => ?_⟩) | (refine ⟨by omega, ?_⟩) | (intro _)
                all_goals (refine hK _ ?_; clear hK K)
                all_goals
                  refine AW_r rfl rfl fun K hK => ?_
                  simp [DtCmd.cells]
                  repeat' first | (refine ⟨fun _ => ?_, fun _ => ?_⟩) | (refine ⟨by omega, ?_⟩) | (intro _)
                  all_goals (refine hK _ ?_; clear hK K)
                  all_goals
                    refine AW_r rfl rfl fun K hK => ?_
                    simp [DtCmd.cells]
                    repeat' first | (refine CKd_v (am2s_cons am2_sl am2s_nil) (toStringS _ (by first | assumption | omega)) rfl ?_; simp [DtCmd.cells]) | (refine ⟨fun _ => ?_, fun _ => ?_⟩) | (refine ⟨by omega, ?_⟩) | (intro _)
                    all_goals (refine hK _ ?_; clear hK K)
                    all_goals
                      refine AW_r rfl rfl fun K hK => ?_
                      simp [DtCmd.cells]
                      repeat' first | (refine ⟨fun _ => ?_, fun _ => ?_⟩) | (refine ⟨by omega, ?_⟩) | (intro _)
                      all_goals (refine hK _ ?_; clear hK K)
                      all_goals
                        refine AW_ret (end_s ?_)
                        simp [DtCmd.cells]
                        all_goals first | omega | (simp_all; done) | (simp [List.take_of_length_le]; done) | ((try simp_all); (try simp (disch := omega) only [wrap64, Int.tdiv_eq_ediv_of_nonneg, Int.tmod_eq_emod_of_nonneg, and_true, true_and]); done) | ((try simp_all); (try simp (disch := omega) only [wrap64, Int.tdiv_eq_ediv_of_nonneg, Int.tmod_eq_emod_of_nonneg, and_true, true_and] at *); omega)
theorem eqCmd (u v : DtCmd) (hs : DtCmd.sz u ≤ 1048576) : PCall Tryz.prog 71 [.agg (DtCmd.cells u), .agg (DtCmd.cells v)] (.g (.bool (eqB u v))) := by
  simp only [DtCmd.sz] at hs
  have z7 := (szS_nonneg lenZ_nonneg) u.fChunks
  have s3 : (u.fSet.length : Int) ≤ 1048576 := by omega
  have s4 : (u.fName.length : Int) ≤ 1048576 := by omega
  have s5 : (u.fTag.length : Int) ≤ 1048576 := by omega
  have s7 : szS lenZ u.fChunks ≤ 1048576 := by omega
  have he := DtCmd.ext_iff u v
  refine gcall_of_walk Tryz.func71 (by rfl) (by rfl) (by rw [Tryz.ntmps71]; exact Nat.le_of_ble_eq_true rfl) rfl (by decide) ?_
  rw [Tryz.ntmps71]
  refine AW_k [(0, _), (1, _)] ⟨rfl, rfl, trivial⟩ ?_
  refine AW_r rfl rfl fun K hK => ?_
  simp [DtCmd.cells]
  repeat' first | (refine ⟨fun _ => ?_, fun _ => ?_⟩) | (refine ⟨by omega, ?_⟩) | (intro _)
  all_goals (refine hK _ ?_; clear hK K)
  all_goals
    refine AW_seq ?_
    refine AW_r rfl rfl fun K hK => ?_
    simp [DtCmd.cells]
    repeat' first | (refine ⟨fun _ => ?_, fun _ => ?_⟩) | (refine ⟨by omega, ?_⟩) | (intro _)
    all_goals (refine hK _ ?_; clear hK K)
    all_goals
      refine AW_cond rfl (fun hc14 => ?_) (fun hc14 => ?_)
      · try simp at hc14
        all_goals
          refine AW_r rfl rfl fun K hK => ?_
          simp [DtCmd.cells]
          repeat' first | (refine ⟨fun _ => ?_, fun _ => ?_⟩) | (refine ⟨by omega, ?_⟩) | (intro _)
          all_goals (refine hK _ ?_; clear hK K)
          all_goals
            refine AW_ret (end_s ?_)
            simp [DtCmd.cells]
            all_goals first | (refine eqB_of (he.mpr ?_); simp_all [eqB_true, eqB_false]; done) | (refine eqB_ne fun h => ?_; rw [he] at h; simp_all [eqB_true, eqB_false, eqB_self]; done) | (refine (eqB_of (he.mpr ?_)).symm; simp_all [eqB_true, eqB_false]; done) | (refine (eqB_ne fun h => ?_).symm; rw [he] at h; simp_all [eqB_true, eqB_false, eqB_self]; done)
      · try simp at hc14
        all_goals
          refine AW_skip ?_
          refine AW_id ?_
          refine AW_seq ?_
          refine AW_r rfl rfl fun K hK => ?_
          simp [DtCmd.cells]
          repeat' first | (refine ⟨fun _ => ?_, fun _ => ?_⟩) | (refine ⟨by omega, ?_⟩) | (intro _)
          all_goals (refine hK _ ?_; clear hK K)
          all_goals
            refine AW_cond rfl (fun hc15 => ?_) (fun hc15 => ?_)
            · try simp at hc15
              all_goals
                refine AW_r rfl rfl fun K hK => ?_
                simp [DtCmd.cells]
                repeat' first | (refine ⟨fun _ => ?_, fun _ => ?_⟩) | (refine ⟨by omega, ?_⟩) | (intro _)
                all_goals (refine hK _ ?_; clear hK K)
                all_goals
                  refine AW_ret (end_s ?_)
                  simp [DtCmd.cells]
                  all_goals first | (refine eqB_of (he.mpr ?_); simp_all [eqB_true, eqB_false]; done) | (refine eqB_ne fun h => ?_; rw [he] at h; simp_all [eqB_true, eqB_false, eqB_self]; done) | (refine (eqB_of (he.mpr ?_)).symm; simp_all [eqB_true, eqB_false]; done) | (refine (eqB_ne fun h => ?_).symm; rw [he] at h; simp_all [eqB_true, eqB_false, eqB_self]; done)
            · try simp at hc15
              all_goals
                refine AW_skip ?_
                refine AW_id ?_
                refine AW_seq ?_
                refine AW_r rfl rfl fun K hK => ?_
                simp [DtCmd.cells]
                repeat' first | (refine ⟨fun _ => ?_, fun _ => ?_⟩) | (refine ⟨by omega, ?_⟩) | (intro _)
                all_goals (refine hK _ ?_; clear hK K)
                all_goals
                  refine AW_cond rfl (fun hc16 => ?_) (fun hc16 => ?_)
                  · try simp at hc16
                    all_goals
                      refine AW_r rfl rfl fun K hK => ?_
                      simp [DtCmd.cells]
                      repeat' first | (refine ⟨fun _ => ?_, fun _ => ?_⟩) | (refine ⟨by omega, ?_⟩) | (intro _)
                      all_goals (refine hK _ ?_; clear hK K)
                      all_goals
                        refine AW_ret (end_s ?_)
                        simp [DtCmd.cells]
                        all_goals first | (refine eqB_of (he.mpr ?_); simp_all [eqB_true, eqB_false]; done) | (refine eqB_ne fun h => ?_; rw [he] at h; simp_all [eqB_true, eqB_false, eqB_self]; done) | (refine (eqB_of (he.mpr ?_)).symm; simp_all [eqB_true, eqB_false]; done) | (refine (eqB_ne fun h => ?_).symm; rw [he] at h; simp_all [eqB_true, eqB_false, eqB_self]; done)
                  · try simp at hc16
                    all_goals
                      refine AW_skip ?_
                      refine AW_id ?_
                      refine AW_seq ?_
                      refine AW_r rfl rfl fun K hK => ?_
                      simp [DtCmd.cells]
                      repeat' first | (refine ⟨fun _ => ?_, fun _ => ?_⟩) | (refine ⟨by omega, ?_⟩) | (intro _)
                      all_goals (refine hK _ ?_; clear hK K)
                      all_goals
                        refine AW_cond rfl (fun hc17 => ?_) (fun hc17 => ?_)
                        · try simp at hc17
                          all_goals
                            refine AW_r rfl rfl fun K hK => ?_
                            simp [DtCmd.cells]
                            repeat' first | (refine ⟨fun _ => ?_, fun _ => ?_⟩) | (refine ⟨by omega, ?_⟩) | (intro _)
                            all_goals (refine hK _ ?_; clear hK K)
                            all_goals
                              refine AW_ret (end_s ?_)
                              simp [DtCmd.cells]
                              all_goals first | (refine eqB_of (he.mpr ?_); simp_all [eqB_true, eqB_false]; done) | (refine eqB_ne fun h => ?_; rw [he] at h; simp_all [eqB_true, eqB_false, eqB_self]; done) | (refine (eqB_of (he.mpr ?_)).symm; simp_all [eqB_true, eqB_false]; done) | (refine (eqB_ne fun h => ?_).symm; rw [he] at h; simp_all [eqB_true, eqB_false, eqB_self]; done)
                        · try simp at hc17
                          all_goals
                            refine AW_skip ?_
                            refine AW_id ?_
                            refine AW_seq ?_
                            refine AW_r rfl rfl fun K hK => ?_
                            simp [DtCmd.cells]
                            repeat' first | (refine ⟨fun _ => ?_, fun _ => ?_⟩) | (refine ⟨by omega, ?_⟩) | (intro _)
                            all_goals (refine hK _ ?_; clear hK K)
                            all_goals
                              refine AW_cond rfl (fun hc18 => ?_) (fun hc18 => ?_)
                              · try simp at hc18
                                all_goals
                                  refine AW_r rfl rfl fun K hK => ?_
                                  simp [DtCmd.cells]
                                  repeat' first | (refine ⟨fun _ => ?_, fun _ => ?_⟩) | (refine ⟨by omega, ?_⟩) | (intro _)
                                  all_goals (refine hK _ ?_; clear hK K)
                                  all_goals
                                    refine AW_ret (end_s ?_)
                                    simp [DtCmd.cells]
                                    all_goals first | (refine eqB_of (he.mpr ?_); simp_all [eqB_true, eqB_false]; done) | (refine eqB_ne fun h => ?_; rw [he] at h; simp_all [eqB_true, eqB_false, eqB_self]; done) | (refine (eqB_of (he.mpr ?_)).symm; simp_all [eqB_true, eqB_false]; done) | (refine (eqB_ne fun h => ?_).symm; rw [he] at h; simp_all [eqB_true, eqB_false, eqB_self]; done)
                              · try simp at hc18
                                all_goals
                                  refine AW_skip ?_
                                  refine AW_id ?_
                                  refine AW_seq ?_
                                  refine AW_r rfl rfl fun K hK => ?_
                                  simp [DtCmd.cells]
                                  repeat' first | (refine ⟨fun _ => ?_, fun _ => ?_⟩) | (refine ⟨by omega, ?_⟩) | (intro _)
                                  all_goals (refine hK _ ?_; clear hK K)
                                  all_goals
                                    refine AW_cond rfl (fun hc19 => ?_) (fun hc19 => ?_)
                                    · try simp at hc19
                                      all_goals
                                        refine AW_r rfl rfl fun K hK => ?_
                                        simp [DtCmd.cells]
                                        repeat' first | (refine ⟨fun _ => ?_, fun _ => ?_⟩) | (refine ⟨by omega, ?_⟩) | (intro _)
                                        all_goals (refine hK _ ?_; clear hK K)
                                        all_goals
                                          refine AW_ret (end_s ?_)
                                          simp [DtCmd.cells]
                                          all_goals first | (refine eqB_of (he.mpr ?_); simp_all [eqB_true, eqB_false]; done) | (refine eqB_ne fun h => ?_; rw [he] at h; simp_all [eqB_true, eqB_false, eqB_self]; done) | (refine (eqB_of (he.mpr ?_)).symm; simp_all [eqB_true, eqB_false]; done) | (refine (eqB_ne fun h => ?_).symm; rw [he] at h; simp_all [eqB_true, eqB_false, eqB_self]; done)
                                    · try simp at hc19
                                      all_goals
                                        refine AW_skip ?_
                                        refine AW_id ?_
                                        refine AW_seq ?_
                                        refine AW_r rfl rfl fun K hK => ?_
                                        simp [DtCmd.cells]
                                        repeat' first | (refine ⟨fun _ => ?_, fun _ => ?_⟩) | (refine ⟨by omega, ?_⟩) | (intro _)
                                        all_goals (refine hK _ ?_; clear hK K)
                                        all_goals
                                          refine AW_cond rfl (fun hc20 => ?_) (fun hc20 => ?_)
                                          · try simp at hc20
                                            all_goals
                                              refine AW_r rfl rfl fun K hK => ?_
                                              simp [DtCmd.cells]
                                              repeat' first | (refine ⟨fun _ => ?_, fun _ => ?_⟩) | (refine ⟨by omega, ?_⟩) | (intro _)
                                              all_goals (refine hK _ ?_; clear hK K)
                                              all_goals
                                                refine AW_ret (end_s ?_)
                                                simp [DtCmd.cells]
                                                all_goals first | (refine eqB_of (he.mpr ?_); simp_all [eqB_true, eqB_false]; done) | (refine eqB_ne fun h => ?_; rw [he] at h; simp_all [eqB_true, eqB_false, eqB_self]; done) | (refine (eqB_of (he.mpr ?_)).symm; simp_all [eqB_true, eqB_false]; done) | (refine (eqB_ne fun h => ?_).symm; rw [he] at h; simp_all [eqB_true, eqB_false, eqB_self]; done)
                                          · try simp at hc20
                                            all_goals
                                              refine AW_skip ?_
                                              refine AW_id ?_
                                              refine AW_seq ?_
                                              refine AW_r rfl rfl fun K hK => ?_
                                              simp [DtCmd.cells]
                                              repeat' first | (refine CKd_v (am2s_cons am2_sl (am2s_cons am2_sl am2s_nil)) (eqStringS _ _ (by first | assumption | omega)) rfl ?_; simp [DtCmd.cells]) | (refine ⟨fun _ => ?_, fun _ => ?_⟩) | (refine ⟨by omega, ?_⟩) | (intro _)
                                              all_goals (refine hK _ ?_; clear hK K)
                                              all_goals
                                                refine AW_cond rfl (fun hc21 => ?_) (fun hc21 => ?_)
                                                · try simp at hc21
                                                  all_goals
                                                    refine AW_r rfl rfl fun K hK => ?_
                                                    simp [DtCmd.cells]
                                                    repeat' first | (refine ⟨fun _ => ?_, fun _ => ?_⟩) | (refine ⟨by omega, ?_⟩) | (intro _)
                                                    all_goals (refine hK _ ?_; clear hK K)
                                                    all_goals
                                                      refine AW_ret (end_s ?_)
                                                      simp [DtCmd.cells]
                                                      all_goals first | (refine eqB_of (he.mpr ?_); simp_all [eqB_true, eqB_false]; done) | (refine eqB_ne fun h => ?_; rw [he] at h; simp_all [eqB_true, eqB_false, eqB_self]; done) | (refine (eqB_of (he.mpr ?_)).symm; simp_all [eqB_true, eqB_false]; done) | (refine (eqB_ne fun h => ?_).symm; rw [he] at h; simp_all [eqB_true, eqB_false, eqB_self]; done)
                                                · try simp at hc21
                                                  all_goals
                                                    refine AW_skip ?_
                                                    refine AW_id ?_
                                                    refine AW_r rfl rfl fun K hK => ?_
                                                    simp [DtCmd.cells]
                                                    repeat' first | (refine ⟨fun _ => ?_, fun _ => ?_⟩) | (refine ⟨by omega, ?_⟩) | (intro _)
                                                    all_goals (refine hK _ ?_; clear hK K)
                                                    all_goals
                                                      refine AW_ret (end_s ?_)
                                                      simp [DtCmd.cells]
                                                      all_goals first | (refine eqB_of (he.mpr ?_); simp_all [eqB_true, eqB_false]; done) | (refine eqB_ne fun h => ?_; rw [he] at h; simp_all [eqB_true, eqB_false, eqB_self]; done) | (refine (eqB_of (he.mpr ?_)).symm; simp_all [eqB_true, eqB_false]; done) | (refine (eqB_ne fun h => ?_).symm; rw [he] at h; simp_all [eqB_true, eqB_false, eqB_self]; done)
theorem szIdS (xs : List DtId) (n : Int) (hn : 0 ≤ n ∧ n ≤ 1048576) (hw : (wfS DtId.wf) xs) : PCall Tryz.prog 36 [.sl 2 (xs.map DtId.cells), (.g (.int .i64 (n)))] (.g (.int .i64 (szR n xs.length))) := by
  have hw1 := hw.1
  refine gcall_of_walk Tryz.func36 (by rfl) (by rfl) (by rw [Tryz.ntmps36]; exact Nat.le_of_ble_eq_true rfl) rfl (by decide) ?_
  rw [Tryz.ntmps36]
  refine AW_k [(0, _), (1, _)] ⟨rfl, rfl, trivial⟩ ?_
  refine AW_r rfl rfl fun K hK => ?_
  simp (disch := omega) [wrap64, List.getElem?_eq_getElem, toNat_pred, szR]
  repeat' first | (exfalso; omega) | (refine ⟨fun _ => ?_, fun _ => ?_⟩) | (refine ⟨by omega, ?_⟩) | (intro _)
  all_goals (refine hK _ ?_; clear hK K)
  all_goals
    refine AW_r rfl rfl fun K hK => ?_
    simp (disch := omega) [wrap64, List.getElem?_eq_getElem, toNat_pred, szR]
    repeat' first | (exfalso; omega) | (refine ⟨fun _ => ?_, fun _ => ?_⟩) | (refine ⟨by omega, ?_⟩) | (intro _)
    all_goals (refine hK _ ?_; clear hK K)
    all_goals
      refine AW_seq ?_
      refine AW_r rfl rfl fun K hK => ?_
      simp (disch := omega) [wrap64, List.getElem?_eq_getElem, toNat_pred, szR]
      repeat' first | (exfalso; omega) | (refine ⟨fun _ => ?_, fun _ => ?_⟩) | (refine ⟨by omega, ?_⟩) | (intro _)
      all_goals (refine hK _ ?_; clear hK K)
      all_goals
        refine AW_cond rfl (fun hc22 => ?_) (fun hc22 => ?_)
        · try simp at hc22
          all_goals
            refine AW_r rfl rfl fun K hK => ?_
            simp (disch := omega) [wrap64, List.getElem?_eq_getElem, toNat_pred, szR]
            repeat' first | (exfalso; omega) | (refine ⟨fun _ => ?_, fun _ => ?_⟩) | (refine ⟨by omega, ?_⟩) | (intro _)
            all_goals (refine hK _ ?_; clear hK K)
            all_goals
              refine AW_ret (end_s ?_)
              simp (disch := omega) [wrap64, List.getElem?_eq_getElem, toNat_pred, szR]
              all_goals first | omega | (simp_all; done) | (simp [List.take_of_length_le]; done) | ((try simp_all); (try simp (disch := omega) only [wrap64, Int.tdiv_eq_ediv_of_nonneg, Int.tmod_eq_emod_of_nonneg, and_true, true_and]); done) | ((try simp_all); (try simp (disch := omega) only [wrap64, Int.tdiv_eq_ediv_of_nonneg, Int.tmod_eq_emod_of_nonneg, and_true, true_and] at *); omega)
        · try simp at hc22
          all_goals
            refine AW_skip ?_
            refine AW_id ?_
            refine AW_r rfl rfl fun K hK => ?_
            simp (disch := omega) [wrap64, List.getElem?_eq_getElem, toNat_pred, szR]
            repeat' first | (exfalso; omega) | (refine ⟨fun _ => ?_, fun _ => ?_⟩) | (refine ⟨by omega, ?_⟩) | (intro _)
            all_goals (refine hK _ ?_; clear hK K)
            all_goals
              refine AW_ret (end_s ?_)
              simp (disch := omega) [wrap64, List.getElem?_eq_getElem, toNat_pred, szR]
              all_goals first | omega | (simp_all; done) | (simp [List.take_of_length_le]; done) | ((try simp_all); (try simp (disch := omega) only [wrap64, Int.tdiv_eq_ediv_of_nonneg, Int.tmod_eq_emod_of_nonneg, and_true, true_and]); done) | ((try simp_all); (try simp (disch := omega) only [wrap64, Int.tdiv_eq_ediv_of_nonneg, Int.tmod_eq_emod_of_nonneg, and_true, true_and] at *); omega)
theorem toIdS (xs : List DtId) (hs : (xs.length : Int) ≤ 1048576) : PCall Tryz.prog 51 [.sl 2 (xs.map DtId.cells)] (.sl 2 (xs.map DtId.cells)) := by
  have hn : xs.length ≤ 1048576 := by omega
  refine gcall_of_walk Tryz.func51 (by rfl) (by rfl) (by rw [Tryz.ntmps51]; exact Nat.le_of_ble_eq_true rfl) rfl (by decide) ?_
  rw [Tryz.ntmps51]
  refine AW_k [(0, _)] ⟨rfl, trivial⟩ ?_
  refine AW_r rfl rfl fun K hK => ?_
  simp (disch := omega) [wrap64, List.getElem?_eq_getElem, toNat_pred]
  repeat' first | (exfalso; omega) | (refine ⟨fun _ => ?_, fun _ => ?_⟩) | (refine ⟨by omega, ?_⟩) | (intro _)
  all_goals (refine hK _ ?_; clear hK K)
  all_goals
    refine AW_r rfl rfl fun K hK => ?_
    simp (disch := omega) [wrap64, List.getElem?_eq_getElem, toNat_pred]
    repeat' first | (exfalso; omega) | (refine ⟨fun _ => ?_, fun _ => ?_⟩) | (refine ⟨by omega, ?_⟩) | (intro _)
    all_goals (refine hK _ ?_; clear hK K)
    all_goals
      refine AW_seq ?_
      refine AW_r rfl rfl fun K hK => ?_
      simp (disch := omega) [wrap64, List.getElem?_eq_getElem, toNat_pred]
      repeat' first | (exfalso; omega) | (refine ⟨fun _ => ?_, fun _ => ?_⟩) | (refine ⟨by omega, ?_⟩) | (intro _)
      all_goals (refine hK _ ?_; clear hK K)
      all_goals
        refine AW_block ?_
        refine AW_loopS (fun mM sS => ∃ (i : Nat) (ys : List (List AV)), mM = xs.length - i ∧ (i ≤ xs.length ∧ ys.length = xs.length ∧ (∀ j, j < i → ys[j]? = (xs.map DtId.cells)[j]?) ∧ (∀ y ∈ ys, y.length = 2)) ∧ sS = { env := lkE [(0, .sl 2 (xs.map DtId.cells)), (3, .arr 128 0 xs.length), (4, (.g (.int .i64 ((i : Nat)))))], ob := upd (formOb [] []) 128 (some (.flat 2 ys)) }) ?_ ?_
        · refine ⟨_, LeS.kp [(0, .sl 2 (xs.map DtId.cells)), (3, .arr 128 0 xs.length), (4, (.g (.int .i64 (((0) : Nat)))))] (by simp [KpE, upd_app, lkE_app, lk_cons]; try rfl), _, 0, List.replicate xs.length [.g (.int .i64 0), .g (.int .i64 0)], rfl, ?_, rfl⟩
          · simp
        · rintro mM sS ⟨i, ys, rfl, ⟨hi, hl, hpre, hone⟩, rfl⟩
          refine AW_seq ?_
          refine AW_r rfl rfl fun K hK => ?_
          simp (disch := omega) [wrap64, List.getElem?_eq_getElem, toNat_pred, DtId.cells]
          repeat' first | (exfalso; omega) | (refine ⟨fun _ => ?_, fun _ => ?_⟩) | (refine ⟨by omega, ?_⟩) | (intro _)
          all_goals (refine hK _ ?_; clear hK K)
          all_goals
            refine AW_cond rfl (fun hc23 => ?_) (fun hc23 => ?_)
            · try simp at hc23
              all_goals
                obtain ⟨c1, c2, h6⟩ : ∃ c1 c2, ys[i]'(by omega) = [c1, c2] := len2 (hone _ (List.getElem_mem _))
                refine AW_skip ?_
                refine AW_id ?_
                refine AW_seq ?_
                refine AW_block ?_
                refine AW_re rfl rfl fun K hK => ?_
                simp (disch := omega) [wrap64, List.getElem?_eq_getElem, toNat_pred, DtId.cells, h6]
                repeat' first | (exfalso; omega) | (refine CKd_v (am2s_cons (am2_agg rfl) am2s_nil) (toId _) rfl ?_; simp (disch := omega) [wrap64, List.getElem?_eq_getElem, toNat_pred, DtId.cells, h6]) | (refine ⟨fun _ => ?_, fun _ => ?_⟩) | (refine ⟨by omega, ?_⟩) | (intro _)
                all_goals (refine hK _ ?_; clear hK K)
                all_goals
                  refine AW_id ?_
                  refine AW_re rfl rfl fun K hK => ?_
                  simp (disch := omega) [wrap64, List.getElem?_eq_getElem, toNat_pred, DtId.cells, h6]
                  repeat' first | (exfalso; omega) | (refine ⟨fun _ => ?_, fun _ => ?_⟩) | (refine ⟨by omega, ?_⟩) | (intro _)
                  all_goals (refine hK _ ?_; clear hK K)
                  all_goals
                    refine ⟨_, LeS.kp [(0, .sl 2 (xs.map DtId.cells)), (3, .arr 128 0 xs.length), (4, (.g (.int .i64 (((i + 1) : Nat)))))] (by simp [KpE, upd_app, lkE_app, lk_cons]; try rfl), _, ?_, i + 1, ys.set i (DtId.cells xs[i]), rfl, ?_, ?_⟩
                    · omega
                    · refine ⟨by omega, by simpa using hl, fun j hj => ?_, fun y hy => ?_⟩
                      · by_cases hji : j = i
                        · subst hji; rw [List.getElem?_set_self (by omega), List.getElem?_map, List.getElem?_eq_getElem (by omega)]; rfl
                        · rw [List.getElem?_set_ne (by omega)]; exact hpre j (by omega)
                      · rcases List.mem_or_eq_of_mem_set hy with hy | rfl
                        · exact hone y hy
                        · rfl
                    · rfl
            · try simp at hc23
              all_goals
                have hi2 : i = xs.length := by omega
                subst hi2
                have hys : ys = xs.map DtId.cells := List.ext_getElem? fun j => by
                  by_cases hj : j < xs.length
                  · exact hpre j hj
                  · rw [List.getElem?_eq_none (by omega), List.getElem?_eq_none (by simp; omega)]
                subst hys
                refine AW_exit ?_
                refine AW_id ?_
                refine AW_r rfl rfl fun K hK => ?_
                simp (disch := omega) [wrap64, List.getElem?_eq_getElem, toNat_pred, DtId.cells]
                repeat' first | (exfalso; omega) | (refine ⟨fun _ => ?_, fun _ => ?_⟩) | (refine ⟨by omega, ?_⟩) | (intro _)
                all_goals (refine hK _ ?_; clear hK K)
                all_goals
                  refine AW_ret (end_s ?_)
                  simp (disch := omega) [wrap64, List.getElem?_eq_getElem, toNat_pred, DtId.cells]
                  all_goals first | omega | (simp_all; done) | (simp [List.take_of_length_le]; done) | ((try simp_all); (try simp (disch := omega) only [wrap64, Int.tdiv_eq_ediv_of_nonneg, Int.tmod_eq_emod_of_nonneg, and_true, true_and]); done) | ((try simp_all); (try simp (disch := omega) only [wrap64, Int.tdiv_eq_ediv_of_nonneg, Int.tmod_eq_emod_of_nonneg, and_true, true_and] at *); omega)
theorem eqIdS (xs ys : List DtId) (hs : (xs.length : Int) ≤ 1048576) : PCall Tryz.prog 72 [.sl 2 (xs.map DtId.cells), .sl 2 (ys.map DtId.cells)] (.g (.bool (eqB xs ys))) := by
  have hn : xs.length ≤ 1048576 := by omega
  refine gcall_of_walk Tryz.func72 (by rfl) (by rfl) (by rw [Tryz.ntmps72]; exact Nat.le_of_ble_eq_true rfl) rfl (by decide) ?_
  rw [Tryz.ntmps72]
  refine AW_k [(0, _), (1, _)] ⟨rfl, rfl, trivial⟩ ?_
  refine AW_r rfl rfl fun K hK => ?_
  simp (disch := omega) [wrap64, List.getElem?_eq_getElem, toNat_pred]
  repeat' first | (exfalso; omega) | (refine ⟨fun _ => ?_, fun _ => ?_⟩) | (refine ⟨by omega, ?_⟩) | (intro _)
  all_goals (refine hK _ ?_; clear hK K)
  all_goals
    refine AW_seq ?_
    refine AW_r rfl rfl fun K hK => ?_
    simp (disch := omega) [wrap64, List.getElem?_eq_getElem, toNat_pred]
    repeat' first | (exfalso; omega) | (refine ⟨fun _ => ?_, fun _ => ?_⟩) | (refine ⟨by omega, ?_⟩) | (intro _)
    all_goals (refine hK _ ?_; clear hK K)
    all_goals
      refine AW_cond rfl (fun hc24 => ?_) (fun hc24 => ?_)
      · try simp at hc24
        all_goals
          refine AW_r rfl rfl fun K hK => ?_
          simp (disch := omega) [wrap64, List.getElem?_eq_getElem, toNat_pred]
          repeat' first | (exfalso; omega) | (refine ⟨fun _ => ?_, fun _ => ?_⟩) | (refine ⟨by omega, ?_⟩) | (intro _)
          all_goals (refine hK _ ?_; clear hK K)
          all_goals
            refine AW_ret (end_s ?_)
            simp (disch := omega) [wrap64, List.getElem?_eq_getElem, toNat_pred]
            all_goals first | (exact eqB_of heq) | (refine eqB_ne fun heq => ?_; subst heq; simp_all [eqB_true, eqB_false, eqB_self]; done) | (refine (eqB_ne fun heq => ?_).symm; subst heq; simp_all [eqB_true, eqB_false, eqB_self]; done) | simp_all [eqB_self]
      · try simp at hc24
        all_goals
          refine AW_skip ?_
          refine AW_id ?_
          refine AW_seq ?_
          refine AW_r rfl rfl fun K hK => ?_
          simp (disch := omega) [wrap64, List.getElem?_eq_getElem, toNat_pred]
          repeat' first | (exfalso; omega) | (refine ⟨fun _ => ?_, fun _ => ?_⟩) | (refine ⟨by omega, ?_⟩) | (intro _)
          all_goals (refine hK _ ?_; clear hK K)
          all_goals
            refine AW_block ?_
            refine AW_loopS (fun mM sS => ∃ (i : Nat), mM = xs.length - i ∧ (i ≤ xs.length ∧ ∀ j, j < i → xs[j]? = ys[j]?) ∧ sS = { env := lkE [(0, .sl 2 (xs.map DtId.cells)), (1, .sl 2 (ys.map DtId.cells)), (5, (.g (.int .i64 ((i : Nat)))))], ob := formOb [] [] }) ?_ ?_
            · refine ⟨_, LeS.kp [(0, .sl 2 (xs.map DtId.cells)), (1, .sl 2 (ys.map DtId.cells)), (5, (.g (.int .i64 (((0) : Nat)))))] (by simp [KpE, upd_app, lkE_app, lk_cons]; try rfl), _, 0, rfl, ?_, rfl⟩
              · simp
            · rintro mM sS ⟨i, rfl, ⟨hi, hpre⟩, rfl⟩
              refine AW_seq ?_
              refine AW_r rfl rfl fun K hK => ?_
              simp (disch := omega) [wrap64, List.getElem?_eq_getElem, toNat_pred, DtId.cells]
              repeat' first | (exfalso; omega) | (refine ⟨fun _ => ?_, fun _ => ?_⟩) | (refine ⟨by omega, ?_⟩) | (intro _)
              all_goals (refine hK _ ?_; clear hK K)
              all_goals
                refine AW_cond rfl (fun hc25 => ?_) (fun hc25 => ?_)
                · try simp at hc25
                  all_goals
                    have h7 : i < ys.length := by omega
                    refine AW_skip ?_
                    refine AW_id ?_
                    refine AW_seq ?_
                    refine AW_block ?_
                    refine AW_q rfl mix (by kernel_rfl) rfl fun K hK => ?_
                    simp (disch := omega) [wrap64, List.getElem?_eq_getElem, toNat_pred, DtId.cells]
                    repeat' first | (exfalso; omega) | (refine CKd_v (am2s_cons (am2_agg rfl) (am2s_cons (am2_agg rfl) am2s_nil)) (eqId _ _) rfl ?_; simp (disch := omega) [wrap64, List.getElem?_eq_getElem, toNat_pred, DtId.cells]) | (refine ⟨fun _ => ?_, fun _ => ?_⟩) | (refine ⟨by omega, ?_⟩) | (intro _)
                    all_goals (refine hK _ ?_; clear hK K)
                    all_goals
                      refine AW_cond rfl (fun hc26 => ?_) (fun hc26 => ?_)
                      · try simp at hc26
                        all_goals
                          refine AW_r rfl rfl fun K hK => ?_
                          simp (disch := omega) [wrap64, List.getElem?_eq_getElem, toNat_pred, DtId.cells]
                          repeat' first | (exfalso; omega) | (refine ⟨fun _ => ?_, fun _ => ?_⟩) | (refine ⟨by omega, ?_⟩) | (intro _)
                          all_goals (refine hK _ ?_; clear hK K)
                          all_goals
                            refine AW_ret (end_s ?_)
                            simp (disch := omega) [wrap64, List.getElem?_eq_getElem, toNat_pred, DtId.cells]
                            all_goals first | (exact eqB_of heq) | (refine eqB_ne fun heq => ?_; subst heq; simp_all [eqB_true, eqB_false, eqB_self]; done) | (refine (eqB_ne fun heq => ?_).symm; subst heq; simp_all [eqB_true, eqB_false, eqB_self]; done) | simp_all [eqB_self]
                      · try simp at hc26
                        all_goals
                          refine AW_skip ?_
                          refine AW_id ?_
                          refine AW_re rfl rfl fun K hK => ?_
                          simp (disch := omega) [wrap64, List.getElem?_eq_getElem, toNat_pred, DtId.cells]
                          repeat' first | (exfalso; omega) | (refine ⟨fun _ => ?_, fun _ => ?_⟩) | (refine ⟨by omega, ?_⟩) | (intro _)
                          all_goals (refine hK _ ?_; clear hK K)
                          all_goals
                            refine ⟨_, LeS.kp [(0, .sl 2 (xs.map DtId.cells)), (1, .sl 2 (ys.map DtId.cells)), (5, (.g (.int .i64 (((i + 1) : Nat)))))] (by simp [KpE, upd_app, lkE_app, lk_cons]; try rfl), _, ?_, i + 1, rfl, ?_, rfl⟩
                            · omega
                            · refine ⟨by omega, fun j hj => ?_⟩
                              by_cases hji : j = i
                              · subst hji; simp_all [eqB_true, eqB_false]
                              · exact hpre j (by omega)
                · try simp at hc25
                  all_goals
                    have hi2 : i = xs.length := by omega
                    subst hi2
                    have heq : xs = ys := List.ext_getElem? fun j => by
                      by_cases hj : j < xs.length
                      · exact hpre j hj
                      · rw [List.getElem?_eq_none (by omega), List.getElem?_eq_none (by omega)]
                    refine AW_exit ?_
                    refine AW_id ?_
                    refine AW_r rfl rfl fun K hK => ?_
                    simp (disch := omega) [wrap64, List.getElem?_eq_getElem, toNat_pred, DtId.cells]
                    repeat' first | (exfalso; omega) | (refine ⟨fun _ => ?_, fun _ => ?_⟩) | (refine ⟨by omega, ?_⟩) | (intro _)
                    all_goals (refine hK _ ?_; clear hK K)
                    all_goals
                      refine AW_ret (end_s ?_)
                      simp (disch := omega) [wrap64, List.getElem?_eq_getElem, toNat_pred, DtId.cells]
                      all_goals first | (exact eqB_of heq) | (refine eqB_ne fun heq => ?_; subst heq; simp_all [eqB_true, eqB_false, eqB_self]; done) | (refine (eqB_ne fun heq => ?_).symm; subst heq; simp_all [eqB_true, eqB_false, eqB_self]; done) | simp_all [eqB_self]
theorem szInst (u : DtInst) (n : Int) (hn : 0 ≤ n ∧ n ≤ 1048576) (hw : DtInst.wf u) : PCall Tryz.prog 73 [.agg (DtInst.cells u), (.g (.int .i64 (n)))] (.g (.int .i64 (szR n (DtInst.sz u)))) := by
  have ⟨w0, w1, w2, w3, w4, w5, w6, w7⟩ := hw
  have z4 := DtCmd.sz_nonneg u.fCmd
  have w62 := w6.1
  refine gcall_of_walk Tryz.func73 (by rfl) (by rfl) (by rw [Tryz.ntmps73]; exact Nat.le_of_ble_eq_true rfl) rfl (by decide) ?_
  rw [Tryz.ntmps73]
  refine AW_k [(0, _), (1, _)] ⟨rfl, rfl, trivial⟩ ?_
  refine AW_r rfl rfl fun K hK => ?_
  simp (disch := omega) [wrap64, List.getElem?_eq_getElem, toNat_pred, szR, DtInst.cells]
  repeat' first | (exfalso; omega) | (refine ⟨fun _ => ?_, fun _ => ?_⟩) | (refine ⟨by omega, ?_⟩) | (intro _)
  all_goals (refine hK _ ?_; clear hK K)
  all_goals
    refine AW_r rfl rfl fun K hK => ?_
    simp (disch := omega) [wrap64, List.getElem?_eq_getElem, toNat_pred, szR, DtInst.cells]
    repeat' first | (exfalso; omega) | (refine CKd_v (am2s_cons (am2_agg rfl) (am2s_cons am2_g am2s_nil)) (szCmd _ _ (by omega) (by assumption)) rfl ?_; simp (disch := omega) [wrap64, List.getElem?_eq_getElem, toNat_pred, szR, DtInst.cells]) | (refine ⟨fun _ => ?_, fun _ => ?_⟩) | (refine ⟨by omega, ?_⟩) | (intro _)
    all_goals (refine hK _ ?_; clear hK K)
    all_goals
      refine AW_seq ?_
      refine AW_r rfl rfl fun K hK => ?_
      simp (disch := omega) [wrap64, List.getElem?_eq_getElem, toNat_pred, szR, DtInst.cells]
      repeat' first | (exfalso; omega) | (refine ⟨fun _ => ?_, fun _ => ?_⟩) | (refine ⟨by omega, ?_⟩) | (intro _)
      all_goals (refine hK _ ?_; clear hK K)
      all_goals
        refine AW_cond rfl (fun hc27 => ?_) (fun hc27 => ?_)
        · try simp at hc27
          all_goals
            refine AW_r rfl rfl fun K hK => ?_
            simp (disch := omega) [wrap64, List.getElem?_eq_getElem, toNat_pred, szR, DtInst.cells]
            repeat' first | (exfalso; omega) | (refine ⟨fun _ => ?_, fun _ => ?_⟩) | (refine ⟨by omega, ?_⟩) | (intro _)
            all_goals (refine hK _ ?_; clear hK K)
            all_goals
              refine AW_ret (end_s ?_)
              simp (disch := omega) [wrap64, List.getElem?_eq_getElem, toNat_pred, szR, DtInst.cells, DtInst.sz]
              all_goals first | omega | (simp_all; done) | (split <;> omega) | (split <;> simp_all <;> omega) | (simp_all [szR]; omega)
        · try simp at hc27
          all_goals
            refine AW_skip ?_
            refine AW_id ?_
            refine AW_r rfl rfl fun K hK => ?_
            simp (disch := omega) [wrap64, List.getElem?_eq_getElem, toNat_pred, szR, DtInst.cells]
            repeat' first | (exfalso; omega) | (refine CKd_v (am2s_cons am2_sl (am2s_cons am2_g am2s_nil)) (szIdS _ _ (by omega) (by assumption)) rfl ?_; simp (disch := omega) [wrap64, List.getElem?_eq_getElem, toNat_pred, szR, DtInst.cells]) | (refine ⟨fun _ => ?_, fun _ => ?_⟩) | (refine ⟨by omega, ?_⟩) | (intro _)
            all_goals (refine hK _ ?_; clear hK K)
            all_goals
              refine AW_seq ?_
              refine AW_r rfl rfl fun K hK => ?_
              simp (disch := omega) [wrap64, List.getElem?_eq_getElem, toNat_pred, szR, DtInst.cells]
              repeat' first | (exfalso; omega) | (refine ⟨fun _ => ?_, fun _ => ?_⟩) | (refine ⟨by omega, ?_⟩) | (intro _)
              all_goals (refine hK _ ?_; clear hK K)
              all_goals
                refine AW_cond rfl (fun hc28 => ?_) (fun hc28 => ?_)
                · try simp at hc28
                  all_goals
                    refine AW_r rfl rfl fun K hK => ?_
                    simp (disch := omega) [wrap64, List.getElem?_eq_getElem, toNat_pred, szR, DtInst.cells]
                    repeat' first | (exfalso; omega) | (refine ⟨fun _ => ?_, fun _ => ?_⟩) | (refine ⟨by omega, ?_⟩) | (intro _)
                    all_goals (refine hK _ ?_; clear hK K)
                    all_goals
                      refine AW_ret (end_s ?_)
                      simp (disch := omega) [wrap64, List.getElem?_eq_getElem, toNat_pred, szR, DtInst.cells, DtInst.sz]
                      all_goals first | omega | (simp_all; done) | (split <;> omega) | (split <;> simp_all <;> omega) | (simp_all [szR]; omega)
                · try simp at hc28
                  all_goals
                    refine AW_skip ?_
                    refine AW_id ?_
                    refine AW_r rfl rfl fun K hK => ?_
                    simp (disch := omega) [wrap64, List.getElem?_eq_getElem, toNat_pred, szR, DtInst.cells]
                    repeat' first | (exfalso; omega) | (refine ⟨fun _ => ?_, fun _ => ?_⟩) | (refine ⟨by omega, ?_⟩) | (intro _)
                    all_goals (refine hK _ ?_; clear hK K)
                    all_goals
                      refine AW_ret (end_s ?_)
                      simp (disch := omega) [wrap64, List.getElem?_eq_getElem, toNat_pred, szR, DtInst.cells, DtInst.sz]
                      all_goals first | omega | (simp_all; done) | (split <;> omega) | (split <;> simp_all <;> omega) | (simp_all [szR]; omega)
theorem toInst (u : DtInst) (hs : DtInst.sz u ≤ 1048576) : PCall Tryz.prog 81 [.agg (DtInst.cells u)] (.agg (DtInst.cells u)) := by
  simp only [DtInst.sz] at hs
  have z4 := DtCmd.sz_nonneg u.fCmd
  have s4 : DtCmd.sz u.fCmd ≤ 1048576 := by omega
  have s6 : (u.fDeps.length : Int) ≤ 1048576 := by omega
  refine gcall_of_walk Tryz.func81 (by rfl) (by rfl) (by rw [Tryz.ntmps81]; exact Nat.le_of_ble_eq_true rfl) rfl (by decide) ?_
  rw [Tryz.ntmps81]
  refine AW_k [(0, _)] ⟨rfl, trivial⟩ ?_
  refine AW_r rfl rfl fun K hK => ?_
  simp [DtInst.cells, DtId.cells, DtCmd.cells]
  repeat' first | (refine ⟨fun _ => ?_, fun _ => ?_⟩) | (refine ⟨by omega, ?_⟩) | (intro _)
  all_goals (refine hK _ ?_; clear hK K)
  all_goals
    refine AW_r rfl rfl fun K hK => ?_
    simp [DtInst.cells, DtId.cells, DtCmd.cells]
    repeat' first | (refine ⟨fun _ => ?_, fun _ => ?_⟩) | (refine ⟨by omega, ?_⟩) | (intro _)
    all_goals (refine hK _ ?_; clear hK K)
    all_goals
      refine AW_r rfl rfl fun K hK => ?_
      simp [DtInst.cells, DtId.cells, DtCmd.cells]
      repeat' first | (refine CKd_v (am2s_cons (am2_agg rfl) am2s_nil) (toId _) rfl ?_; simp [DtInst.cells, DtId.cells, DtCmd.cells]) | (refine ⟨fun _ => ?_, fun _ => ?_⟩) | (refine ⟨by omega, ?_⟩) | (intro _)
      all_goals (refine hK _ ?_; clear hK K)
      all_goals
        refine AW_r rfl rfl fun K hK => ?_
        simp [DtInst.cells, DtId.cells, DtCmd.cells]
        repeat' first | (refine ⟨fun _ => ?_, fun _ => ?_⟩) | (refine ⟨by omega, ?_⟩) | (intro _)
        all_goals (refine hK _ ?_; clear hK K)
        all_goals
          refine AW_r rfl rfl fun K hK => ?_
          simp [DtInst.cells, DtId.cells, DtCmd.cells]
          repeat' first | (refine ⟨fun _ => ?_, fun _ => ?_⟩) | (refine ⟨by omega, ?_⟩) | (intro _)
          all_goals (refine hK _ ?_; clear hK K)
          all_goals
            refine AW_r rfl rfl fun K hK => ?_
            simp [DtInst.cells, DtId.cells, DtCmd.cells]
            repeat' first | (refine ⟨fun _ => ?_, fun _ => ?_⟩) | (refine ⟨by omega, ?_⟩) | (intro _)
            all_goals (refine hK _ ?_; clear hK K)
            all_goals
              refine AW_r rfl rfl fun K hK => ?_
              simp [DtInst.cells, DtId.cells, DtCmd.cells]
              repeat' first | (refine CKd_v (am2s_cons (am2_agg rfl) am2s_nil) (toCmd _ (by first | assumption | omega)) rfl ?_; simp [DtInst.cells, DtId.cells, DtCmd.cells]) | (refine ⟨fun _ => ?_, fun _ => ?_⟩) | (refine ⟨by omega, ?_⟩) | (intro _)
              all_goals (refine hK _ ?_; clear hK K)
              all_goals
                refine AW_r rfl rfl fun K hK => ?_
                simp [DtInst.cells, DtId.cells, DtCmd.cells]
                repeat' first | (refine ⟨fun _ => ?_, fun _ => ?_⟩) | (refine ⟨by omega, ?_⟩) | (intro _)
                all_goals (refine hK _ ?_; clear hK K)
                all_goals
                  refine AW_r rfl rfl fun K hK => ?_
                  simp [DtInst.cells, DtId.cells, DtCmd.cells]
                  repeat' first | (refine CKd_v (am2s_cons am2_sl am2s_nil) (toIdS _ (by first | assumption | omega)) rfl ?_; simp [DtInst.cells, DtId.cells, DtCmd.cells]) | (refine ⟨fun _ => ?_, fun _ => ?_⟩) | (refine ⟨by omega, ?_⟩) | (intro _)
                  all_goals (refine hK _ ?_; clear hK K)
                  all_goals
                    refine AW_r rfl rfl fun K hK => ?_
                    simp [DtInst.cells, DtId.cells, DtCmd.cells]
                    repeat' first | (refine ⟨fun _ => ?_, fun _ => ?_⟩) | (refine ⟨by omega, ?_⟩) | (intro _)
                    all_goals (refine hK _ ?_; clear hK K)
                    all_goals
                      refine AW_r rfl rfl fun K hK => ?_
                      simp [DtInst.cells, DtId.cells, DtCmd.cells]
                      repeat' first | (refine ⟨fun _ => ?_, fun _ => ?_⟩) | (refine ⟨by omega, ?_⟩) | (intro _)
                      all_goals (refine hK _ ?_; clear hK K)
                      all_goals
                        refine AW_ret (end_s ?_)
                        simp [DtInst.cells, DtId.cells, DtCmd.cells]
                        all_goals first | omega | (simp_all; done) | (simp [List.take_of_length_le]; done) | ((try simp_all); (try simp (disch := omega) only [wrap64, Int.tdiv_eq_ediv_of_nonneg, Int.tmod_eq_emod_of_nonneg, and_true, true_and]); done) | ((try simp_all); (try simp (disch := omega) only [wrap64, Int.tdiv_eq_ediv_of_nonneg, Int.tmod_eq_emod_of_nonneg, and_true, true_and] at *); omega)
theorem eqInst (u v : DtInst) (hs : DtInst.sz u ≤ 1048576) : PCall Tryz.prog 96 [.agg (DtInst.cells u), .agg (DtInst.cells v)] (.g (.bool (eqB u v))) := by
  simp only [DtInst.sz] at hs
  have z4 := DtCmd.sz_nonneg u.fCmd
  have s4 : DtCmd.sz u.fCmd ≤ 1048576 := by omega
  have s6 : (u.fDeps.length : Int) ≤ 1048576 := by omega
  have he := DtInst.ext_iff u v
  refine gcall_of_walk Tryz.func96 (by rfl) (by rfl) (by rw [Tryz.ntmps96]; exact Nat.le_of_ble_eq_true rfl) rfl (by decide) ?_
  rw [Tryz.ntmps96]
  refine AW_k [(0, _), (1, _)] ⟨rfl, rfl, trivial⟩ ?_
  refine AW_r rfl rfl fun K hK => ?_
  simp [DtInst.cells, DtId.cells, DtCmd.cells]
  repeat' first | (refine ⟨fun _ => ?_, fun _ => ?_⟩) | (refine ⟨by omega, ?_⟩) | (intro _)
  all_goals (refine hK _ ?_; clear hK K)
  all_goals
    refine AW_seq ?_
    refine AW_r rfl rfl fun K hK => ?_
    simp [DtInst.cells, DtId.cells, DtCmd.cells]
    repeat' first | (refine CKd_v (am2s_cons (am2_agg rfl) (am2s_cons (am2_agg rfl) am2s_nil)) (eqId _ _) rfl ?_; simp [DtInst.cells, DtId.cells, DtCmd.cells]) | (refine ⟨fun _ => ?_, fun _ => ?_⟩) | (refine ⟨by omega, ?_⟩) | (intro _)
    all_goals (refine hK _ ?_; clear hK K)
    all_goals
      refine AW_cond rfl (fun hc29 => ?_) (fun hc29 => ?_)
      · try simp at hc29
        all_goals
          refine AW_r rfl rfl fun K hK => ?_
          simp [DtInst.cells, DtId.cells, DtCmd.cells]
          repeat' first | (refine ⟨fun _ => ?_, fun _ => ?_⟩) | (refine ⟨by omega, ?_⟩) | (intro _)
          all_goals (refine hK _ ?_; clear hK K)
          all_goals
            refine AW_ret (end_s ?_)
            simp [DtInst.cells, DtId.cells, DtCmd.cells]
            all_goals first | (refine eqB_of (he.mpr ?_); simp_all [eqB_true, eqB_false]; done) | (refine eqB_ne fun h => ?_; rw [he] at h; simp_all [eqB_true, eqB_false, eqB_self]; done) | (refine (eqB_of (he.mpr ?_)).symm; simp_all [eqB_true, eqB_false]; done) | (refine (eqB_ne fun h => ?_).symm; rw [he] at h; simp_all [eqB_true, eqB_false, eqB_self]; done)
      · try simp at hc29
        all_goals
          refine AW_skip ?_
          refine AW_id ?_
          refine AW_seq ?_
          refine AW_r rfl rfl fun K hK => ?_
          simp [DtInst.cells, DtId.cells, DtCmd.cells]
          repeat' first | (refine ⟨fun _ => ?_, fun _ => ?_⟩) | (refine ⟨by omega, ?_⟩) | (intro _)
          all_goals (refine hK _ ?_; clear hK K)
          all_goals
            refine AW_cond rfl (fun hc30 => ?_) (fun hc30 => ?_)
            · try simp at hc30
              all_goals
                refine AW_r rfl rfl fun K hK => ?_
                simp [DtInst.cells, DtId.cells, DtCmd.cells]
                repeat' first | (refine ⟨fun _ => ?_, fun _ => ?_⟩) | (refine ⟨by omega, ?_⟩) | (intro _)
                all_goals (refine hK _ ?_; clear hK K)
                all_goals
                  refine AW_ret (end_s ?_)
                  simp [DtInst.cells, DtId.cells, DtCmd.cells]
                  all_goals first | (refine eqB_of (he.mpr ?_); simp_all [eqB_true, eqB_false]; done) | (refine eqB_ne fun h => ?_; rw [he] at h; simp_all [eqB_true, eqB_false, eqB_self]; done) | (refine (eqB_of (he.mpr ?_)).symm; simp_all [eqB_true, eqB_false]; done) | (refine (eqB_ne fun h => ?_).symm; rw [he] at h; simp_all [eqB_true, eqB_false, eqB_self]; done)
            · try simp at hc30
              all_goals
                refine AW_skip ?_
                refine AW_id ?_
                refine AW_seq ?_
                refine AW_r rfl rfl fun K hK => ?_
                simp [DtInst.cells, DtId.cells, DtCmd.cells]
                repeat' first | (refine ⟨fun _ => ?_, fun _ => ?_⟩) | (refine ⟨by omega, ?_⟩) | (intro _)
                all_goals (refine hK _ ?_; clear hK K)
                all_goals
                  refine AW_cond rfl (fun hc31 => ?_) (fun hc31 => ?_)
                  · try simp at hc31
                    all_goals
                      refine AW_r rfl rfl fun K hK => ?_
                      simp [DtInst.cells, DtId.cells, DtCmd.cells]
                      repeat' first | (refine ⟨fun _ => ?_, fun _ => ?_⟩) | (refine ⟨by omega, ?_⟩) | (intro _)
                      all_goals (refine hK _ ?_; clear hK K)
                      all_goals
                        refine AW_ret (end_s ?_)
                        simp [DtInst.cells, DtId.cells, DtCmd.cells]
                        all_goals first | (refine eqB_of (he.mpr ?_); simp_all [eqB_true, eqB_false]; done) | (refine eqB_ne fun h => ?_; rw [he] at h; simp_all [eqB_true, eqB_false, eqB_self]; done) | (refine (eqB_of (he.mpr ?_)).symm; simp_all [eqB_true, eqB_false]; done) | (refine (eqB_ne fun h => ?_).symm; rw [he] at h; simp_all [eqB_true, eqB_false, eqB_self]; done)
                  · try simp at hc31
                    all_goals
                      refine AW_skip ?_
                      refine AW_id ?_
                      refine AW_seq ?_
                      refine AW_r rfl rfl fun K hK => ?_
                      simp [DtInst.cells, DtId.cells, DtCmd.cells]
                      repeat' first | (refine ⟨fun _ => ?_, fun _ => ?_⟩) | (refine ⟨by omega, ?_⟩) | (intro _)
                      all_goals (refine hK _ ?_; clear hK K)
                      all_goals
                        refine AW_cond rfl (fun hc32 => ?_) (fun hc32 => ?_)
                        · try simp at hc32
                          all_goals
                            refine AW_r rfl rfl fun K hK => ?_
                            simp [DtInst.cells, DtId.cells, DtCmd.cells]
                            repeat' first | (refine ⟨fun _ => ?_, fun _ => ?_⟩) | (refine ⟨by omega, ?_⟩) | (intro _)
                            all_goals (refine hK _ ?_; clear hK K)
                            all_goals
                              refine AW_ret (end_s ?_)
                              simp [DtInst.cells, DtId.cells, DtCmd.cells]
                              all_goals first | (refine eqB_of (he.mpr ?_); simp_all [eqB_true, eqB_false]; done) | (refine eqB_ne fun h => ?_; rw [he] at h; simp_all [eqB_true, eqB_false, eqB_self]; done) | (refine (eqB_of (he.mpr ?_)).symm; simp_all [eqB_true, eqB_false]; done) | (refine (eqB_ne fun h => ?_).symm; rw [he] at h; simp_all [eqB_true, eqB_false, eqB_self]; done)
                        · try simp at hc32
                          all_goals
                            refine AW_skip ?_
                            refine AW_id ?_
                            refine AW_seq ?_
                            refine AW_r rfl rfl fun K hK => ?_
                            simp [DtInst.cells, DtId.cells, DtCmd.cells]
                            repeat' first | (refine CKd_v (am2s_cons (am2_agg rfl) (am2s_cons (am2_agg rfl) am2s_nil)) (eqCmd _ _ (by first | assumption | omega)) rfl ?_; simp [DtInst.cells, DtId.cells, DtCmd.cells]) | (refine ⟨fun _ => ?_, fun _ => ?_⟩) | (refine ⟨by omega, ?_⟩) | (intro _)
                            all_goals (refine hK _ ?_; clear hK K)
                            all_goals
                              refine AW_cond rfl (fun hc33 => ?_) (fun hc33 => ?_)
                              · try simp at hc33
                                all_goals
                                  refine AW_r rfl rfl fun K hK => ?_
                                  simp [DtInst.cells, DtId.cells, DtCmd.cells]
                                  repeat' first | (refine ⟨fun _ => ?_, fun _ => ?_⟩) | (refine ⟨by omega, ?_⟩) | (intro _)
                                  all_goals (refine hK _ ?_; clear hK K)
                                  all_goals
                                    refine AW_ret (end_s ?_)
                                    simp [DtInst.cells, DtId.cells, DtCmd.cells]
                                    all_goals first | (refine eqB_of (he.mpr ?_); simp_all [eqB_true, eqB_false]; done) | (refine eqB_ne fun h => ?_; rw [he] at h; simp_all [eqB_true, eqB_false, eqB_self]; done) | (refine (eqB_of (he.mpr ?_)).symm; simp_all [eqB_true, eqB_false]; done) | (refine (eqB_ne fun h => ?_).symm; rw [he] at h; simp_all [eqB_true, eqB_false, eqB_self]; done)
                              · try simp at hc33
                                all_goals
                                  refine AW_skip ?_
                                  refine AW_id ?_
                                  refine AW_seq ?_
                                  refine AW_r rfl rfl fun K hK => ?_
                                  simp [DtInst.cells, DtId.cells, DtCmd.cells]
                                  repeat' first | (refine ⟨fun _ => ?_, fun _ => ?_⟩) | (refine ⟨by omega, ?_⟩) | (intro _)
                                  all_goals (refine hK _ ?_; clear hK K)
                                  all_goals
                                    refine AW_cond rfl (fun hc34 => ?_) (fun hc34 => ?_)
                                    · try simp at hc34
                                      all_goals
                                        refine AW_r rfl rfl fun K hK => ?_
                                        simp [DtInst.cells, DtId.cells, DtCmd.cells]
                                        repeat' first | (refine ⟨fun _ => ?_, fun _ => ?_⟩) | (refine ⟨by omega, ?_⟩) | (intro _)
                                        all_goals (refine hK _ ?_; clear hK K)
                                        all_goals
                                          refine AW_ret (end_s ?_)
                                          simp [DtInst.cells, DtId.cells, DtCmd.cells]
                                          all_goals first | (refine eqB_of (he.mpr ?_); simp_all [eqB_true, eqB_false]; done) | (refine eqB_ne fun h => ?_; rw [he] at h; simp_all [eqB_true, eqB_false, eqB_self]; done) | (refine (eqB_of (he.mpr ?_)).symm; simp_all [eqB_true, eqB_false]; done) | (refine (eqB_ne fun h => ?_).symm; rw [he] at h; simp_all [eqB_true, eqB_false, eqB_self]; done)
                                    · try simp at hc34
                                      all_goals
                                        refine AW_skip ?_
                                        refine AW_id ?_
                                        refine AW_seq ?_
                                        refine AW_r rfl rfl fun K hK => ?_
                                        simp [DtInst.cells, DtId.cells, DtCmd.cells]
                                        repeat' first | (refine CKd_v (am2s_cons am2_sl (am2s_cons am2_sl am2s_nil)) (eqIdS _ _ (by first | assumption | omega)) rfl ?_; simp [DtInst.cells, DtId.cells, DtCmd.cells]) | (refine ⟨fun _ => ?_, fun _ => ?_⟩) | (refine ⟨by omega, ?_⟩) | (intro _)
                                        all_goals (refine hK _ ?_; clear hK K)
                                        all_goals
                                          refine AW_cond rfl (fun hc35 => ?_) (fun hc35 => ?_)
                                          · try simp at hc35
                                            all_goals
                                              refine AW_r rfl rfl fun K hK => ?_
                                              simp [DtInst.cells, DtId.cells, DtCmd.cells]
                                              repeat' first | (refine ⟨fun _ => ?_, fun _ => ?_⟩) | (refine ⟨by omega, ?_⟩) | (intro _)
                                              all_goals (refine hK _ ?_; clear hK K)
                                              all_goals
                                                refine AW_ret (end_s ?_)
                                                simp [DtInst.cells, DtId.cells, DtCmd.cells]
                                                all_goals first | (refine eqB_of (he.mpr ?_); simp_all [eqB_true, eqB_false]; done) | (refine eqB_ne fun h => ?_; rw [he] at h; simp_all [eqB_true, eqB_false, eqB_self]; done) | (refine (eqB_of (he.mpr ?_)).symm; simp_all [eqB_true, eqB_false]; done) | (refine (eqB_ne fun h => ?_).symm; rw [he] at h; simp_all [eqB_true, eqB_false, eqB_self]; done)
                                          · try simp at hc35
                                            all_goals
                                              refine AW_skip ?_
                                              refine AW_id ?_
                                              refine AW_seq ?_
                                              refine AW_r rfl rfl fun K hK => ?_
                                              simp [DtInst.cells, DtId.cells, DtCmd.cells]
                                              repeat' first | (refine ⟨fun _ => ?_, fun _ => ?_⟩) | (refine ⟨by omega, ?_⟩) | (intro _)
                                              all_goals (refine hK _ ?_; clear hK K)
                                              all_goals
                                                refine AW_cond rfl (fun hc36 => ?_) (fun hc36 => ?_)
                                                · try simp at hc36
                                                  all_goals
                                                    refine AW_r rfl rfl fun K hK => ?_
                                                    simp [DtInst.cells, DtId.cells, DtCmd.cells]
                                                    repeat' first | (refine ⟨fun _ => ?_, fun _ => ?_⟩) | (refine ⟨by omega, ?_⟩) | (intro _)
                                                    all_goals (refine hK _ ?_; clear hK K)
                                                    all_goals
                                                      refine AW_ret (end_s ?_)
                                                      simp [DtInst.cells, DtId.cells, DtCmd.cells]
                                                      all_goals first | (refine eqB_of (he.mpr ?_); simp_all [eqB_true, eqB_false]; done) | (refine eqB_ne fun h => ?_; rw [he] at h; simp_all [eqB_true, eqB_false, eqB_self]; done) | (refine (eqB_of (he.mpr ?_)).symm; simp_all [eqB_true, eqB_false]; done) | (refine (eqB_ne fun h => ?_).symm; rw [he] at h; simp_all [eqB_true, eqB_false, eqB_self]; done)
                                                · try simp at hc36
                                                  all_goals
                                                    refine AW_skip ?_
                                                    refine AW_id ?_
                                                    refine AW_r rfl rfl fun K hK => ?_
                                                    simp [DtInst.cells, DtId.cells, DtCmd.cells]
                                                    repeat' first | (refine ⟨fun _ => ?_, fun _ => ?_⟩) | (refine ⟨by omega, ?_⟩) | (intro _)
                                                    all_goals (refine hK _ ?_; clear hK K)
                                                    all_goals
                                                      refine AW_ret (end_s ?_)
                                                      simp [DtInst.cells, DtId.cells, DtCmd.cells]
                                                      all_goals first | (refine eqB_of (he.mpr ?_); simp_all [eqB_true, eqB_false]; done) | (refine eqB_ne fun h => ?_; rw [he] at h; simp_all [eqB_true, eqB_false, eqB_self]; done) | (refine (eqB_of (he.mpr ?_)).symm; simp_all [eqB_true, eqB_false]; done) | (refine (eqB_ne fun h => ?_).symm; rw [he] at h; simp_all [eqB_true, eqB_false, eqB_self]; done)
theorem szInstS (xs : List DtInst) (n : Int) (hn : 0 ≤ n ∧ n ≤ 1048576) (hw : (wfS DtInst.wf) xs) : PCall Tryz.prog 33 [.sl 16 (xs.map DtInst.cells), (.g (.int .i64 (n)))] (.g (.int .i64 (szR n (szS DtInst.sz xs)))) := by
  have hq := sumZ_nonneg DtInst.sz_nonneg xs
  have hw1 := hw.1
  refine gcall_of_walk Tryz.func33 (by rfl) (by rfl) (by rw [Tryz.ntmps33]; exact Nat.le_of_ble_eq_true rfl) rfl (by decide) ?_
  rw [Tryz.ntmps33]
  refine AW_k [(0, _), (1, _)] ⟨rfl, rfl, trivial⟩ ?_
  refine AW_r rfl rfl fun K hK => ?_
  simp (disch := omega) [wrap64, List.getElem?_eq_getElem, toNat_pred, szR]
  repeat' first | (exfalso; omega) | (refine ⟨fun _ => ?_, fun _ => ?_⟩) | (refine ⟨by omega, ?_⟩) | (intro _)
  all_goals (refine hK _ ?_; clear hK K)
  all_goals
    refine AW_r rfl rfl fun K hK => ?_
    simp (disch := omega) [wrap64, List.getElem?_eq_getElem, toNat_pred, szR]
    repeat' first | (exfalso; omega) | (refine ⟨fun _ => ?_, fun _ => ?_⟩) | (refine ⟨by omega, ?_⟩) | (intro _)
    all_goals (refine hK _ ?_; clear hK K)
    all_goals
      refine AW_seq ?_
      refine AW_r rfl rfl fun K hK => ?_
      simp (disch := omega) [wrap64, List.getElem?_eq_getElem, toNat_pred, szR]
      repeat' first | (exfalso; omega) | (refine ⟨fun _ => ?_, fun _ => ?_⟩) | (refine ⟨by omega, ?_⟩) | (intro _)
      all_goals (refine hK _ ?_; clear hK K)
      all_goals
        refine AW_cond rfl (fun hc37 => ?_) (fun hc37 => ?_)
        · try simp at hc37
          all_goals
            refine AW_r rfl rfl fun K hK => ?_
            simp (disch := omega) [wrap64, List.getElem?_eq_getElem, toNat_pred, szR]
            repeat' first | (exfalso; omega) | (refine ⟨fun _ => ?_, fun _ => ?_⟩) | (refine ⟨by omega, ?_⟩) | (intro _)
            all_goals (refine hK _ ?_; clear hK K)
            all_goals
              refine AW_ret (end_s ?_)
              simp (disch := omega) [wrap64, List.getElem?_eq_getElem, toNat_pred, szR, szS]
              all_goals first | omega | (split <;> omega)
        · try simp at hc37
          all_goals
            refine AW_skip ?_
            refine AW_id ?_
            refine AW_seq ?_
            refine AW_r rfl rfl fun K hK => ?_
            simp (disch := omega) [wrap64, List.getElem?_eq_getElem, toNat_pred, szR]
            repeat' first | (exfalso; omega) | (refine ⟨fun _ => ?_, fun _ => ?_⟩) | (refine ⟨by omega, ?_⟩) | (intro _)
            all_goals (refine hK _ ?_; clear hK K)
            all_goals
              refine AW_block ?_
              refine AW_loopS (fun mM sS => ∃ (i : Nat), mM = xs.length - i ∧ (i ≤ xs.length ∧ 0 ≤ n - xs.length - sumZ DtInst.sz (xs.take i)) ∧ sS = { env := lkE [(0, .sl 16 (xs.map DtInst.cells)), (1, (.g (.int .i64 (n - xs.length - sumZ DtInst.sz (xs.take i))))), (5, (.g (.int .i64 ((i : Nat)))))], ob := formOb [] [] }) ?_ ?_
              · refine ⟨_, LeS.kp [(0, .sl 16 (xs.map DtInst.cells)), (1, (.g (.int .i64 (n - xs.length - sumZ DtInst.sz (xs.take (0)))))), (5, (.g (.int .i64 (((0) : Nat)))))] (by simp [KpE, upd_app, lkE_app, lk_cons, sumZ_nil]; try first | rfl | omega), _, 0, rfl, ?_, rfl⟩
                · simp [sumZ_nil]; omega
              · rintro mM sS ⟨i, rfl, ⟨hi, hn⟩, rfl⟩
                have hz := sumZ_nonneg DtInst.sz_nonneg (xs.take i)
                have hz2 := sumZ_take_le DtInst.sz_nonneg xs i
                refine AW_seq ?_
                refine AW_r rfl rfl fun K hK => ?_
                simp (disch := omega) [wrap64, List.getElem?_eq_getElem, toNat_pred, szR, DtInst.cells]
                repeat' first | (exfalso; omega) | (refine ⟨fun _ => ?_, fun _ => ?_⟩) | (refine ⟨by omega, ?_⟩) | (intro _)
                all_goals (refine hK _ ?_; clear hK K)
                all_goals
                  refine AW_cond rfl (fun hc38 => ?_) (fun hc38 => ?_)
                  · try simp at hc38
                    all_goals
                      have hl := sumZ_take (f := DtInst.sz) xs i (by omega)
                      have hwE : DtInst.wf xs[i] := hw.2 _ (List.getElem_mem _)
                      have hz3 := sumZ_take_le DtInst.sz_nonneg xs (i + 1)
                      have hzE := DtInst.sz_nonneg xs[i]
                      have hszR : szR (n - xs.length - sumZ DtInst.sz (xs.take i)) (DtInst.sz xs[i]) = n - xs.length - sumZ DtInst.sz (xs.take (i + 1)) ∨ (szR (n - xs.length - sumZ DtInst.sz (xs.take i)) (DtInst.sz xs[i]) = -1 ∧ n - xs.length - sumZ DtInst.sz (xs.take (i + 1)) < 0) := by unfold szR; split <;> omega
                      refine AW_skip ?_
                      refine AW_id ?_
                      refine AW_seq ?_
                      refine AW_block ?_
                      refine AW_r rfl rfl fun K hK => ?_
                      simp (disch := omega) [wrap64, List.getElem?_eq_getElem, toNat_pred, szR, DtInst.cells]
                      repeat' first | (exfalso; omega) | (refine CKd_v (am2s_cons (am2_agg rfl) (am2s_cons am2_g am2s_nil)) (szInst _ _ (by omega) (by first | exact hwE | exact hw)) rfl ?_; simp (disch := omega) [wrap64, List.getElem?_eq_getElem, toNat_pred, szR, DtInst.cells]) | (refine ⟨fun _ => ?_, fun _ => ?_⟩) | (refine ⟨by omega, ?_⟩) | (intro _)
                      all_goals (refine hK _ ?_; clear hK K)
                      all_goals
                        refine AW_r rfl rfl fun K hK => ?_
                        simp (disch := omega) [wrap64, List.getElem?_eq_getElem, toNat_pred, szR, DtInst.cells]
                        repeat' first | (exfalso; omega) | (refine ⟨fun _ => ?_, fun _ => ?_⟩) | (refine ⟨by omega, ?_⟩) | (intro _)
                        all_goals (refine hK _ ?_; clear hK K)
                        all_goals
                          refine AW_cond rfl (fun hc39 => ?_) (fun hc39 => ?_)
                          · try simp at hc39
                            all_goals
                              refine AW_r rfl rfl fun K hK => ?_
                              simp (disch := omega) [wrap64, List.getElem?_eq_getElem, toNat_pred, szR, DtInst.cells]
                              repeat' first | (exfalso; omega) | (refine ⟨fun _ => ?_, fun _ => ?_⟩) | (refine ⟨by omega, ?_⟩) | (intro _)
                              all_goals (refine hK _ ?_; clear hK K)
                              all_goals
                                refine AW_ret (end_s ?_)
                                simp (disch := omega) [wrap64, List.getElem?_eq_getElem, toNat_pred, szR, DtInst.cells, szS]
                                all_goals first | omega | (split <;> omega)
                          · try simp at hc39
                            all_goals
                              refine AW_skip ?_
                              refine AW_id ?_
                              refine AW_re rfl rfl fun K hK => ?_
                              simp (disch := omega) [wrap64, List.getElem?_eq_getElem, toNat_pred, szR, DtInst.cells]
                              repeat' first | (exfalso; omega) | (refine ⟨fun _ => ?_, fun _ => ?_⟩) | (refine ⟨by omega, ?_⟩) | (intro _)
                              all_goals (refine hK _ ?_; clear hK K)
                              all_goals
                                refine ⟨_, LeS.kp [(0, .sl 16 (xs.map DtInst.cells)), (1, (.g (.int .i64 (n - xs.length - sumZ DtInst.sz (xs.take (i + 1)))))), (5, (.g (.int .i64 (((i + 1) : Nat)))))] (by simp [KpE, upd_app, lkE_app, lk_cons, sumZ_nil]; try first | rfl | omega), _, ?_, i + 1, rfl, ?_, rfl⟩
                                · omega
                                · omega
                  · try simp at hc38
                    all_goals
                      have hi2 : i = xs.length := by omega
                      subst hi2
                      simp only [List.take_length] at *
                      refine AW_exit ?_
                      refine AW_id ?_
                      refine AW_r rfl rfl fun K hK => ?_
                      simp (disch := omega) [wrap64, List.getElem?_eq_getElem, toNat_pred, szR, DtInst.cells]
                      repeat' first | (exfalso; omega) | (refine ⟨fun _ => ?_, fun _ => ?_⟩) | (refine ⟨by omega, ?_⟩) | (intro _)
                      all_goals (refine hK _ ?_; clear hK K)
                      all_goals
                        refine AW_ret (end_s ?_)
                        simp (disch := omega) [wrap64, List.getElem?_eq_getElem, toNat_pred, szR, DtInst.cells, szS]
                        all_goals first | omega | (split <;> omega)
theorem toInstS (xs : List DtInst) (hs : szS DtInst.sz xs ≤ 1048576) : PCall Tryz.prog 47 [.sl 16 (xs.map DtInst.cells)] (.sl 16 (xs.map DtInst.cells)) := by
  have hn : xs.length ≤ 1048576 := by have := sumZ_nonneg DtInst.sz_nonneg xs; simp only [szS] at hs; omega
  refine gcall_of_walk Tryz.func47 (by rfl) (by rfl) (by rw [Tryz.ntmps47]; exact Nat.le_of_ble_eq_true rfl) rfl (by decide) ?_
  rw [Tryz.ntmps47]
  refine AW_k [(0, _)] ⟨rfl, trivial⟩ ?_
  refine AW_r rfl rfl fun K hK => ?_
  simp (disch := omega) [wrap64, List.getElem?_eq_getElem, toNat_pred]
  repeat' first | (exfalso; omega) | (refine ⟨fun _ => ?_, fun _ => ?_⟩) | (refine ⟨by omega, ?_⟩) | (intro _)
  all_goals (refine hK _ ?_; clear hK K)
  all_goals
    refine AW_r rfl rfl fun K hK => ?_
    simp (disch := omega) [wrap64, List.getElem?_eq_getElem, toNat_pred]
    repeat' first | (exfalso; omega) | (refine ⟨fun _ => ?_, fun _ => ?_⟩) | (refine ⟨by omega, ?_⟩) | (intro _)
    all_goals (refine hK _ ?_; clear hK K)
    all_goals
      refine AW_seq ?_
      refine AW_r rfl rfl fun K hK => ?_
      simp (disch := omega) [wrap64, List.getElem?_eq_getElem, toNat_pred]
      repeat' first | (exfalso; omega) | (refine ⟨fun _ => ?_, fun _ => ?_⟩) | (refine ⟨by omega, ?_⟩) | (intro _)
      all_goals (refine hK _ ?_; clear hK K)
      all_goals
        refine AW_block ?_
        refine AW_loopS (fun mM sS => ∃ (i : Nat) (ys : List (List AV)), mM = xs.length - i ∧ (i ≤ xs.length ∧ ys.length = xs.length ∧ (∀ j, j < i → ys[j]? = (xs.map DtInst.cells)[j]?) ∧ (∀ y ∈ ys, y.length = 16)) ∧ sS = { env := lkE [(0, .sl 16 (xs.map DtInst.cells)), (3, .arr 128 0 xs.length), (4, (.g (.int .i64 ((i : Nat)))))], ob := upd (formOb [] []) 128 (some (.flat 16 ys)) }) ?_ ?_
        · refine ⟨_, LeS.kp [(0, .sl 16 (xs.map DtInst.cells)), (3, .arr 128 0 xs.length), (4, (.g (.int .i64 (((0) : Nat)))))] (by simp [KpE, upd_app, lkE_app, lk_cons]; try rfl), _, 0, List.replicate xs.length [.g (.int .i64 0), .g (.int .i64 0), .g (.int .i64 0), .g (.int .i64 0), .g (.int .i64 0), .g (.int .i64 0), .g (.int .i64 0), .g (.int .i64 0), .s [], .s [], .s [], .g (.int .i64 0), .g (.slice none 0 0), .g (.int .i64 0), .g (.slice none 0 0), .g (.bool false)], rfl, ?_, rfl⟩
          · simp
        · rintro mM sS ⟨i, ys, rfl, ⟨hi, hl, hpre, hone⟩, rfl⟩
          refine AW_seq ?_
          refine AW_r rfl rfl fun K hK => ?_
          simp (disch := omega) [wrap64, List.getElem?_eq_getElem, toNat_pred, DtInst.cells]
          repeat' first | (exfalso; omega) | (refine ⟨fun _ => ?_, fun _ => ?_⟩) | (refine ⟨by omega, ?_⟩) | (intro _)
          all_goals (refine hK _ ?_; clear hK K)
          all_goals
            refine AW_cond rfl (fun hc40 => ?_) (fun hc40 => ?_)
            · try simp at hc40
              all_goals
                obtain ⟨c1, c2, c3, c4, c5, c6, c7, c8, c9, c10, c11, c12, c13, c14, c15, c16, h6⟩ : ∃ c1 c2 c3 c4 c5 c6 c7 c8 c9 c10 c11 c12 c13 c14 c15 c16, ys[i]'(by omega) = [c1, c2, c3, c4, c5, c6, c7, c8, c9, c10, c11, c12, c13, c14, c15, c16] := len16 (hone _ (List.getElem_mem _))
                have hsE : DtInst.sz xs[i] ≤ 1048576 := by have := sumZ_mem_le DtInst.sz_nonneg xs xs[i] (List.getElem_mem _); simp only [szS] at hs; omega
                refine AW_skip ?_
                refine AW_id ?_
                refine AW_seq ?_
                refine AW_block ?_
                refine AW_re rfl rfl fun K hK => ?_
                simp (disch := omega) [wrap64, List.getElem?_eq_getElem, toNat_pred, DtInst.cells, h6]
                repeat' first | (exfalso; omega) | (refine CKd_v (am2s_cons (am2_agg rfl) am2s_nil) (toInst _ (by first | assumption | omega)) rfl ?_; simp (disch := omega) [wrap64, List.getElem?_eq_getElem, toNat_pred, DtInst.cells, h6]) | (refine ⟨fun _ => ?_, fun _ => ?_⟩) | (refine ⟨by omega, ?_⟩) | (intro _)
                all_goals (refine hK _ ?_; clear hK K)
                all_goals
                  refine AW_id ?_
                  refine AW_re rfl rfl fun K hK => ?_
                  simp (disch := omega) [wrap64, List.getElem?_eq_getElem, toNat_pred, DtInst.cells, h6]
                  repeat' first | (exfalso; omega) | (refine ⟨fun _ => ?_, fun _ => ?_⟩) | (refine ⟨by omega, ?_⟩) | (intro _)
                  all_goals (refine hK _ ?_; clear hK K)
                  all_goals
                    refine ⟨_, LeS.kp [(0, .sl 16 (xs.map DtInst.cells)), (3, .arr 128 0 xs.length), (4, (.g (.int .i64 (((i + 1) : Nat)))))] (by simp [KpE, upd_app, lkE_app, lk_cons]; try rfl), _, ?_, i + 1, ys.set i (DtInst.cells xs[i]), rfl, ?_, ?_⟩
                    · omega
                    · refine ⟨by omega, by simpa using hl, fun j hj => ?_, fun y hy => ?_⟩
                      · by_cases hji : j = i
                        · subst hji; rw [List.getElem?_set_self (by omega), List.getElem?_map, List.getElem?_eq_getElem (by omega)]; rfl
                        · rw [List.getElem?_set_ne (by omega)]; exact hpre j (by omega)
                      · rcases List.mem_or_eq_of_mem_set hy with hy | rfl
                        · exact hone y hy
                        · rfl
                    · rfl
            · try simp at hc40
              all_goals
                have hi2 : i = xs.length := by omega
                subst hi2
                have hys : ys = xs.map DtInst.cells := List.ext_getElem? fun j => by
                  by_cases hj : j < xs.length
                  · exact hpre j hj
                  · rw [List.getElem?_eq_none (by omega), List.getElem?_eq_none (by simp; omega)]
                subst hys
                refine AW_exit ?_
                refine AW_id ?_
                refine AW_r rfl rfl fun K hK => ?_
                simp (disch := omega) [wrap64, List.getElem?_eq_getElem, toNat_pred, DtInst.cells]
                repeat' first | (exfalso; omega) | (refine ⟨fun _ => ?_, fun _ => ?_⟩) | (refine ⟨by omega, ?_⟩) | (intro _)
                all_goals (refine hK _ ?_; clear hK K)
                all_goals
                  refine AW_ret (end_s ?_)
                  simp (disch := omega) [wrap64, List.getElem?_eq_getElem, toNat_pred, DtInst.cells]
                  all_goals first | omega | (simp_all; done) | (simp [List.take_of_length_le]; done) | ((try simp_all); (try simp (disch := omega) only [wrap64, Int.tdiv_eq_ediv_of_nonneg, Int.tmod_eq_emod_of_nonneg, and_true, true_and]); done) | ((try simp_all); (try simp (disch := omega) only [wrap64, Int.tdiv_eq_ediv_of_nonneg, Int.tmod_eq_emod_of_nonneg, and_true, true_and] at *); omega)
theorem eqInstS (xs ys : List DtInst) (hs : szS DtInst.sz xs ≤ 1048576) : PCall Tryz.prog 68 [.sl 16 (xs.map DtInst.cells), .sl 16 (ys.map DtInst.cells)] (.g (.bool (eqB xs ys))) := by
  have hn : xs.length ≤ 1048576 := by have := sumZ_nonneg DtInst.sz_nonneg xs; simp only [szS] at hs; omega
  refine gcall_of_walk Tryz.func68 (by rfl) (by rfl) (by rw [Tryz.ntmps68]; exact Nat.le_of_ble_eq_true rfl) rfl (by decide) ?_
  rw [Tryz.ntmps68]
  refine AW_k [(0, _), (1, _)] ⟨rfl, rfl, trivial⟩ ?_
  refine AW_r rfl rfl fun K hK => ?_
  simp (disch := omega) [wrap64, List.getElem?_eq_getElem, toNat_pred]
  repeat' first | (exfalso; omega) | (refine ⟨fun _ => ?_, fun _ => ?_⟩) | (refine ⟨by omega, ?_⟩) | (intro _)
  all_goals (refine hK _ ?_; clear hK K)
  all_goals
    refine AW_seq ?_
    refine AW_r rfl rfl fun K hK => ?_
    simp (disch := omega) [wrap64, List.getElem?_eq_getElem, toNat_pred]
    repeat' first | (exfalso; omega) | (refine ⟨fun _ => ?_, fun _ => ?_⟩) | (refine ⟨by omega, ?_⟩) | (intro _)
    all_goals (refine hK _ ?_; clear hK K)
    all_goals
      refine AW_cond rfl (fun hc41 => ?_) (fun hc41 => ?_)
      · try simp at hc41
        all_goals
          refine AW_r rfl rfl fun K hK => ?_
          simp (disch := omega) [wrap64, List.getElem?_eq_getElem, toNat_pred]
          repeat' first | (exfalso; omega) | (refine ⟨fun _ => ?_, fun _ => ?_⟩) | (refine ⟨by omega, ?_⟩) | (intro _)
          all_goals (refine hK _ ?_; clear hK K)
          all_goals
            refine AW_ret (end_s ?_)
            simp (disch := omega) [wrap64, List.getElem?_eq_getElem, toNat_pred]
            all_goals first | (exact eqB_of heq) | (refine eqB_ne fun heq => ?_; subst heq; simp_all [eqB_true, eqB_false, eqB_self]; done) | (refine (eqB_ne fun heq => ?_).symm; subst heq; simp_all [eqB_true, eqB_false, eqB_self]; done) | simp_all [eqB_self]
      · try simp at hc41
        all_goals
          refine AW_skip ?_
          refine AW_id ?_
          refine AW_seq ?_
          refine AW_r rfl rfl fun K hK => ?_
          simp (disch := omega) [wrap64, List.getElem?_eq_getElem, toNat_pred]
          repeat' first | (exfalso; omega) | (refine ⟨fun _ => ?_, fun _ => ?_⟩) | (refine ⟨by omega, ?_⟩) | (intro _)
          all_goals (refine hK _ ?_; clear hK K)
          all_goals
            refine AW_block ?_
            refine AW_loopS (fun mM sS => ∃ (i : Nat), mM = xs.length - i ∧ (i ≤ xs.length ∧ ∀ j, j < i → xs[j]? = ys[j]?) ∧ sS = { env := lkE [(0, .sl 16 (xs.map DtInst.cells)), (1, .sl 16 (ys.map DtInst.cells)), (5, (.g (.int .i64 ((i : Nat)))))], ob := formOb [] [] }) ?_ ?_
            · refine ⟨_, LeS.kp [(0, .sl 16 (xs.map DtInst.cells)), (1, .sl 16 (ys.map DtInst.cells)), (5, (.g (.int .i64 (((0) : Nat)))))] (by simp [KpE, upd_app, lkE_app, lk_cons]; try rfl), _, 0, rfl, ?_, rfl⟩
              · simp
            · rintro mM sS ⟨i, rfl, ⟨hi, hpre⟩, rfl⟩
              refine AW_seq ?_
              refine AW_r rfl rfl fun K hK => ?_
              simp (disch := omega) [wrap64, List.getElem?_eq_getElem, toNat_pred, DtInst.cells]
              repeat' first | (exfalso; omega) | (refine ⟨fun _ => ?_, fun _ => ?_⟩) | (refine ⟨by omega, ?_⟩) | (intro _)
              all_goals (refine hK _ ?_; clear hK K)
              all_goals
                refine AW_cond rfl (fun hc42 => ?_) (fun hc42 => ?_)
                · try simp at hc42
                  all_goals
                    have h7 : i < ys.length := by omega
                    have hsE : DtInst.sz xs[i] ≤ 1048576 := by have := sumZ_mem_le DtInst.sz_nonneg xs xs[i] (List.getElem_mem _); simp only [szS] at hs; omega
                    refine AW_skip ?_
                    refine AW_id ?_
                    refine AW_seq ?_
                    refine AW_block ?_
                    refine AW_q rfl mix (by kernel_rfl) rfl fun K hK => ?_
                    simp (disch := omega) [wrap64, List.getElem?_eq_getElem, toNat_pred, DtInst.cells]
                    repeat' first | (exfalso; omega) | (refine CKd_v (am2s_cons (am2_agg rfl) (am2s_cons (am2_agg rfl) am2s_nil)) (eqInst _ _ (by first | assumption | omega)) rfl ?_; simp (disch := omega) [wrap64, List.getElem?_eq_getElem, toNat_pred, DtInst.cells]) | (refine ⟨fun _ => ?_, fun _ => ?_⟩) | (refine ⟨by omega, ?_⟩) | (intro _)
                    all_goals (refine hK _ ?_; clear hK K)
                    all_goals
                      refine AW_cond rfl (fun hc43 => ?_) (fun hc43 => ?_)
                      · try simp at hc43
                        all_goals
                          refine AW_r rfl rfl fun K hK => ?_
                          simp (disch := omega) [wrap64, List.getElem?_eq_getElem, toNat_pred, DtInst.cells]
                          repeat' first | (exfalso; omega) | (refine ⟨fun _ => ?_, fun _ => ?_⟩) | (refine ⟨by omega, ?_⟩) | (intro _)
                          all_goals (refine hK _ ?_; clear hK K)
                          all_goals
                            refine AW_ret (end_s ?_)
                            simp (disch := omega) [wrap64, List.getElem?_eq_getElem, toNat_pred, DtInst.cells]
                            all_goals first | (exact eqB_of heq) | (refine eqB_ne fun heq => ?_; subst heq; simp_all [eqB_true, eqB_false, eqB_self]; done) | (refine (eqB_ne fun heq => ?_).symm; subst heq; simp_all [eqB_true, eqB_false, eqB_self]; done) | simp_all [eqB_self]
                      · try simp at hc43
                        all_goals
                          refine AW_skip ?_
                          refine AW_id ?_
                          refine AW_re rfl rfl fun K hK => ?_
                          simp (disch := omega) [wrap64, List.getElem?_eq_getElem, toNat_pred, DtInst.cells]
                          repeat' first | (exfalso; omega) | (refine ⟨fun _ => ?_, fun _ => ?_⟩) | (refine ⟨by omega, ?_⟩) | (intro _)
                          all_goals (refine hK _ ?_; clear hK K)
                          all_goals
                            refine ⟨_, LeS.kp [(0, .sl 16 (xs.map DtInst.cells)), (1, .sl 16 (ys.map DtInst.cells)), (5, (.g (.int .i64 (((i + 1) : Nat)))))] (by simp [KpE, upd_app, lkE_app, lk_cons]; try rfl), _, ?_, i + 1, rfl, ?_, rfl⟩
                            · omega
                            · refine ⟨by omega, fun j hj => ?_⟩
                              by_cases hji : j = i
                              · subst hji; simp_all [eqB_true, eqB_false]
                              · exact hpre j (by omega)
                · try simp at hc42
                  all_goals
                    have hi2 : i = xs.length := by omega
                    subst hi2
                    have heq : xs = ys := List.ext_getElem? fun j => by
                      by_cases hj : j < xs.length
                      · exact hpre j hj
                      · rw [List.getElem?_eq_none (by omega), List.getElem?_eq_none (by omega)]
                    refine AW_exit ?_
                    refine AW_id ?_
                    refine AW_r rfl rfl fun K hK => ?_
                    simp (disch := omega) [wrap64, List.getElem?_eq_getElem, toNat_pred, DtInst.cells]
                    repeat' first | (exfalso; omega) | (refine ⟨fun _ => ?_, fun _ => ?_⟩) | (refine ⟨by omega, ?_⟩) | (intro _)
                    all_goals (refine hK _ ?_; clear hK K)
                    all_goals
                      refine AW_ret (end_s ?_)
                      simp (disch := omega) [wrap64, List.getElem?_eq_getElem, toNat_pred, DtInst.cells]
                      all_goals first | (exact eqB_of heq) | (refine eqB_ne fun heq => ?_; subst heq; simp_all [eqB_true, eqB_false, eqB_self]; done) | (refine (eqB_ne fun heq => ?_).symm; subst heq; simp_all [eqB_true, eqB_false, eqB_self]; done) | simp_all [eqB_self]
theorem szIntS (xs : List Int) (n : Int) (hn : 0 ≤ n ∧ n ≤ 1048576) (hw : (wfS wfI) xs) : PCall Tryz.prog 99 [.sl 1 (xs.map cI), (.g (.int .i64 (n)))] (.g (.int .i64 (szR n xs.length))) := by
  have hw1 := hw.1
  refine gcall_of_walk Tryz.func99 (by rfl) (by rfl) (by rw [Tryz.ntmps99]; exact Nat.le_of_ble_eq_true rfl) rfl (by decide) ?_
  rw [Tryz.ntmps99]
  refine AW_k [(0, _), (1, _)] ⟨rfl, rfl, trivial⟩ ?_
  refine AW_r rfl rfl fun K hK => ?_
  simp (disch := omega) [wrap64, List.getElem?_eq_getElem, toNat_pred, szR]
  repeat' first | (exfalso; omega) | (refine ⟨fun _ => ?_, fun _ => ?_⟩) | (refine ⟨by omega, ?_⟩) | (intro _)
  all_goals (refine hK _ ?_; clear hK K)
  all_goals
    refine AW_r rfl rfl fun K hK => ?_
    simp (disch := omega) [wrap64, List.getElem?_eq_getElem, toNat_pred, szR]
    repeat' first | (exfalso; omega) | (refine ⟨fun _ => ?_, fun _ => ?_⟩) | (refine ⟨by omega, ?_⟩) | (intro _)
    all_goals (refine hK _ ?_; clear hK K)
    all_goals
      refine AW_seq ?_
      refine AW_r rfl rfl fun K hK => ?_
      simp (disch := omega) [wrap64, List.getElem?_eq_getElem, toNat_pred, szR]
      repeat' first | (exfalso; omega) | (refine ⟨fun _ => ?_, fun _ => ?_⟩) | (refine ⟨by omega, ?_⟩) | (intro _)
      all_goals (refine hK _ ?_; clear hK K)
      all_goals
        refine AW_cond rfl (fun hc44 => ?_) (fun hc44 => ?_)
        · try simp at hc44
          all_goals
            refine AW_r rfl rfl fun K hK => ?_
            simp (disch := omega) [wrap64, List.getElem?_eq_getElem, toNat_pred, szR]
            repeat' first | (exfalso; omega) | (refine ⟨fun _ => ?_, fun _ => ?_⟩) | (refine ⟨by omega, ?_⟩) | (intro _)
            all_goals (refine hK _ ?_; clear hK K)
            all_goals
              refine AW_ret (end_s ?_)
              simp (disch := omega) [wrap64, List.getElem?_eq_getElem, toNat_pred, szR]
              all_goals first | omega | (simp_all; done) | (simp [List.take_of_length_le]; done) | ((try simp_all); (try simp (disch := omega) only [wrap64, Int.tdiv_eq_ediv_of_nonneg, Int.tmod_eq_emod_of_nonneg, and_true, true_and]); done) | ((try simp_all); (try simp (disch := omega) only [wrap64, Int.tdiv_eq_ediv_of_nonneg, Int.tmod_eq_emod_of_nonneg, and_true, true_and] at *); omega)
        · try simp at hc44
          all_goals
            refine AW_skip ?_
            refine AW_id ?_
            refine AW_r rfl rfl fun K hK => ?_
            simp (disch := omega) [wrap64, List.getElem?_eq_getElem, toNat_pred, szR]
            repeat' first | (exfalso; omega) | (refine ⟨fun _ => ?_, fun _ => ?_⟩) | (refine ⟨by omega, ?_⟩) | (intro _)
            all_goals (refine hK _ ?_; clear hK K)
            all_goals
              refine AW_ret (end_s ?_)
              simp (disch := omega) [wrap64, List.getElem?_eq_getElem, toNat_pred, szR]
              all_goals first | omega | (simp_all; done) | (simp [List.take_of_length_le]; done) | ((try simp_all); (try simp (disch := omega) only [wrap64, Int.tdiv_eq_ediv_of_nonneg, Int.tmod_eq_emod_of_nonneg, and_true, true_and]); done) | ((try simp_all); (try simp (disch := omega) only [wrap64, Int.tdiv_eq_ediv_of_nonneg, Int.tmod_eq_emod_of_nonneg, and_true, true_and] at *); omega)
theorem toIntS (xs : List Int) (hs : (xs.length : Int) ≤ 1048576) : PCall Tryz.prog 102 [.sl 1 (xs.map cI)] (.sl 1 (xs.map cI)) := by
  have hn : xs.length ≤ 1048576 := by omega
  refine gcall_of_walk Tryz.func102 (by rfl) (by rfl) (by rw [Tryz.ntmps102]; exact Nat.le_of_ble_eq_true rfl) rfl (by decide) ?_
  rw [Tryz.ntmps102]
  refine AW_k [(0, _)] ⟨rfl, trivial⟩ ?_
  refine AW_r rfl rfl fun K hK => ?_
  simp (disch := omega) [wrap64, List.getElem?_eq_getElem, toNat_pred]
  repeat' first | (exfalso; omega) | (refine ⟨fun _ => ?_, fun _ => ?_⟩) | (refine ⟨by omega, ?_⟩) | (intro _)
  all_goals (refine hK _ ?_; clear hK K)
  all_goals
    refine AW_r rfl rfl fun K hK => ?_
    simp (disch := omega) [wrap64, List.getElem?_eq_getElem, toNat_pred]
    repeat' first | (exfalso; omega) | (refine ⟨fun _ => ?_, fun _ => ?_⟩) | (refine ⟨by omega, ?_⟩) | (intro _)
    all_goals (refine hK _ ?_; clear hK K)
    all_goals
      refine AW_seq ?_
      refine AW_r rfl rfl fun K hK => ?_
      simp (disch := omega) [wrap64, List.getElem?_eq_getElem, toNat_pred]
      repeat' first | (exfalso; omega) | (refine ⟨fun _ => ?_, fun _ => ?_⟩) | (refine ⟨by omega, ?_⟩) | (intro _)
      all_goals (refine hK _ ?_; clear hK K)
      all_goals
        refine AW_block ?_
        refine AW_loopS (fun mM sS => ∃ (i : Nat) (ys : List (List AV)), mM = xs.length - i ∧ (i ≤ xs.length ∧ ys.length = xs.length ∧ (∀ j, j < i → ys[j]? = (xs.map cI)[j]?) ∧ (∀ y ∈ ys, y.length = 1)) ∧ sS = { env := lkE [(0, .sl 1 (xs.map cI)), (3, .arr 128 0 xs.length), (4, (.g (.int .i64 ((i : Nat)))))], ob := upd (formOb [] []) 128 (some (.flat 1 ys)) }) ?_ ?_
        · refine ⟨_, LeS.kp [(0, .sl 1 (xs.map cI)), (3, .arr 128 0 xs.length), (4, (.g (.int .i64 (((0) : Nat)))))] (by simp [KpE, upd_app, lkE_app, lk_cons]; try rfl), _, 0, List.replicate xs.length [.g (.int .i64 0)], rfl, ?_, rfl⟩
          · simp
        · rintro mM sS ⟨i, ys, rfl, ⟨hi, hl, hpre, hone⟩, rfl⟩
          refine AW_seq ?_
          refine AW_r rfl rfl fun K hK => ?_
          simp (disch := omega) [wrap64, List.getElem?_eq_getElem, toNat_pred, cI]
          repeat' first | (exfalso; omega) | (refine ⟨fun _ => ?_, fun _ => ?_⟩) | (refine ⟨by omega, ?_⟩) | (intro _)
          all_goals (refine hK _ ?_; clear hK K)
          all_goals
            refine AW_cond rfl (fun hc45 => ?_) (fun hc45 => ?_)
            · try simp at hc45
              all_goals
                obtain ⟨c1, h6⟩ : ∃ c1, ys[i]'(by omega) = [c1] := List.length_eq_one_iff.1 (hone _ (List.getElem_mem _))
                refine AW_skip ?_
                refine AW_id ?_
                refine AW_seq ?_
                refine AW_block ?_
                refine AW_re rfl rfl fun K hK => ?_
                simp (disch := omega) [wrap64, List.getElem?_eq_getElem, toNat_pred, cI, h6]
                repeat' first | (exfalso; omega) | (refine ⟨fun _ => ?_, fun _ => ?_⟩) | (refine ⟨by omega, ?_⟩) | (intro _)
                all_goals (refine hK _ ?_; clear hK K)
                all_goals
                  refine AW_id ?_
                  refine AW_re rfl rfl fun K hK => ?_
                  simp (disch := omega) [wrap64, List.getElem?_eq_getElem, toNat_pred, cI, h6]
                  repeat' first | (exfalso; omega) | (refine ⟨fun _ => ?_, fun _ => ?_⟩) | (refine ⟨by omega, ?_⟩) | (intro _)
                  all_goals (refine hK _ ?_; clear hK K)
                  all_goals
                    refine ⟨_, LeS.kp [(0, .sl 1 (xs.map cI)), (3, .arr 128 0 xs.length), (4, (.g (.int .i64 (((i + 1) : Nat)))))] (by simp [KpE, upd_app, lkE_app, lk_cons]; try rfl), _, ?_, i + 1, ys.set i (cI xs[i]), rfl, ?_, ?_⟩
                    · omega
                    · refine ⟨by omega, by simpa using hl, fun j hj => ?_, fun y hy => ?_⟩
                      · by_cases hji : j = i
                        · subst hji; rw [List.getElem?_set_self (by omega), List.getElem?_map, List.getElem?_eq_getElem (by omega)]; rfl
                        · rw [List.getElem?_set_ne (by omega)]; exact hpre j (by omega)
                      · rcases List.mem_or_eq_of_mem_set hy with hy | rfl
                        · exact hone y hy
                        · rfl
                    · simp [cI]
            · try simp at hc45
              all_goals
                have hi2 : i = xs.length := by omega
                subst hi2
                have hys : ys = xs.map cI := List.ext_getElem? fun j => by
                  by_cases hj : j < xs.length
                  · exact hpre j hj
                  · rw [List.getElem?_eq_none (by omega), List.getElem?_eq_none (by simp; omega)]
                subst hys
                refine AW_exit ?_
                refine AW_id ?_
                refine AW_r rfl rfl fun K hK => ?_
                simp (disch := omega) [wrap64, List.getElem?_eq_getElem, toNat_pred, cI]
                repeat' first | (exfalso; omega) | (refine ⟨fun _ => ?_, fun _ => ?_⟩) | (refine ⟨by omega, ?_⟩) | (intro _)
                all_goals (refine hK _ ?_; clear hK K)
                all_goals
                  refine AW_ret (end_s ?_)
                  simp (disch := omega) [wrap64, List.getElem?_eq_getElem, toNat_pred, cI]
                  all_goals first | omega | (simp_all; done) | (simp [List.take_of_length_le]; done) | ((try simp_all); (try simp (disch := omega) only [wrap64, Int.tdiv_eq_ediv_of_nonneg, Int.tmod_eq_emod_of_nonneg, and_true, true_and]); done) | ((try simp_all); (try simp (disch := omega) only [wrap64, Int.tdiv_eq_ediv_of_nonneg, Int.tmod_eq_emod_of_nonneg, and_true, true_and] at *); omega)
theorem eqIntS (xs ys : List Int) (hs : (xs.length : Int) ≤ 1048576) : PCall Tryz.prog 106 [.sl 1 (xs.map cI), .sl 1 (ys.map cI)] (.g (.bool (eqB xs ys))) := by
  have hn : xs.length ≤ 1048576 := by omega
  refine gcall_of_walk Tryz.func106 (by rfl) (by rfl) (by rw [Tryz.ntmps106]; exact Nat.le_of_ble_eq_true rfl) rfl (by decide) ?_
  rw [Tryz.ntmps106]
  refine AW_k [(0, _), (1, _)] ⟨rfl, rfl, trivial⟩ ?_
  refine AW_r rfl rfl fun K hK => ?_
  simp (disch := omega) [wrap64, List.getElem?_eq_getElem, toNat_pred]
  repeat' first | (exfalso; omega) | (refine ⟨fun _ => ?_, fun _ => ?_⟩) | (refine ⟨by omega, ?_⟩) | (intro _)
  all_goals (refine hK _ ?_; clear hK K)
  all_goals
    refine AW_seq ?_
    refine AW_r rfl rfl fun K hK => ?_
    simp (disch := omega) [wrap64, List.getElem?_eq_getElem, toNat_pred]
    repeat' first | (exfalso; omega) | (refine ⟨fun _ => ?_, fun _ => ?_⟩) | (refine ⟨by omega, ?_⟩) | (intro _)
    all_goals (refine hK _ ?_; clear hK K)
    all_goals
      refine AW_cond rfl (fun hc46 => ?_) (fun hc46 => ?_)
      · try simp at hc46
        all_goals
          refine AW_r rfl rfl fun K hK => ?_
          simp (disch := omega) [wrap64, List.getElem?_eq_getElem, toNat_pred]
          repeat' first | (exfalso; omega) | (refine ⟨fun _ => ?_, fun _ => ?_⟩) | (refine ⟨by omega, ?_⟩) | (intro _)
          all_goals (refine hK _ ?_; clear hK K)
          all_goals
            refine AW_ret (end_s ?_)
            simp (disch := omega) [wrap64, List.getElem?_eq_getElem, toNat_pred]
            all_goals first | (exact eqB_of heq) | (refine eqB_ne fun heq => ?_; subst heq; simp_all [eqB_true, eqB_false, eqB_self]; done) | (refine (eqB_ne fun heq => ?_).symm; subst heq; simp_all [eqB_true, eqB_false, eqB_self]; done) | simp_all [eqB_self]
      · try simp at hc46
        all_goals
          refine AW_skip ?_
          refine AW_id ?_
          refine AW_seq ?_
          refine AW_r rfl rfl fun K hK => ?_
          simp (disch := omega) [wrap64, List.getElem?_eq_getElem, toNat_pred]
          repeat' first | (exfalso; omega) | (refine ⟨fun _ => ?_, fun _ => ?_⟩) | (refine ⟨by omega, ?_⟩) | (intro _)
          all_goals (refine hK _ ?_; clear hK K)
          all_goals
            refine AW_block ?_
            refine AW_loopS (fun mM sS => ∃ (i : Nat), mM = xs.length - i ∧ (i ≤ xs.length ∧ ∀ j, j < i → xs[j]? = ys[j]?) ∧ sS = { env := lkE [(0, .sl 1 (xs.map cI)), (1, .sl 1 (ys.map cI)), (5, (.g (.int .i64 ((i : Nat)))))], ob := formOb [] [] }) ?_ ?_
            · refine ⟨_, LeS.kp [(0, .sl 1 (xs.map cI)), (1, .sl 1 (ys.map cI)), (5, (.g (.int .i64 (((0) : Nat)))))] (by simp [KpE, upd_app, lkE_app, lk_cons]; try rfl), _, 0, rfl, ?_, rfl⟩
              · simp
            · rintro mM sS ⟨i, rfl, ⟨hi, hpre⟩, rfl⟩
              refine AW_seq ?_
              refine AW_r rfl rfl fun K hK => ?_
              simp (disch := omega) [wrap64, List.getElem?_eq_getElem, toNat_pred, cI]
              repeat' first | (exfalso; omega) | (refine ⟨fun _ => ?_, fun _ => ?_⟩) | (refine ⟨by omega, ?_⟩) | (intro _)
              all_goals (refine hK _ ?_; clear hK K)
              all_goals
                refine AW_cond rfl (fun hc47 => ?_) (fun hc47 => ?_)
                · try simp at hc47
                  all_goals
                    have h7 : i < ys.length := by omega
                    refine AW_skip ?_
                    refine AW_id ?_
                    refine AW_seq ?_
                    refine AW_block ?_
                    refine AW_q rfl mix (by kernel_rfl) rfl fun K hK => ?_
                    simp (disch := omega) [wrap64, List.getElem?_eq_getElem, toNat_pred, cI]
                    repeat' first | (exfalso; omega) | (refine ⟨fun _ => ?_, fun _ => ?_⟩) | (refine ⟨by omega, ?_⟩) | (intro _)
                    all_goals (refine hK _ ?_; clear hK K)
                    all_goals
                      refine AW_cond rfl (fun hc48 => ?_) (fun hc48 => ?_)
                      · try simp at hc48
                        all_goals
                          refine AW_r rfl rfl fun K hK => ?_
                          simp (disch := omega) [wrap64, List.getElem?_eq_getElem, toNat_pred, cI]
                          repeat' first | (exfalso; omega) | (refine ⟨fun _ => ?_, fun _ => ?_⟩) | (refine ⟨by omega, ?_⟩) | (intro _)
                          all_goals (refine hK _ ?_; clear hK K)
                          all_goals
                            refine AW_ret (end_s ?_)
                            simp (disch := omega) [wrap64, List.getElem?_eq_getElem, toNat_pred, cI]
                            all_goals first | (exact eqB_of heq) | (refine eqB_ne fun heq => ?_; subst heq; simp_all [eqB_true, eqB_false, eqB_self]; done) | (refine (eqB_ne fun heq => ?_).symm; subst heq; simp_all [eqB_true, eqB_false, eqB_self]; done) | simp_all [eqB_self]
                      · try simp at hc48
                        all_goals
                          refine AW_skip ?_
                          refine AW_id ?_
                          refine AW_re rfl rfl fun K hK => ?_
                          simp (disch := omega) [wrap64, List.getElem?_eq_getElem, toNat_pred, cI]
                          repeat' first | (exfalso; omega) | (refine ⟨fun _ => ?_, fun _ => ?_⟩) | (refine ⟨by omega, ?_⟩) | (intro _)
                          all_goals (refine hK _ ?_; clear hK K)
                          all_goals
                            refine ⟨_, LeS.kp [(0, .sl 1 (xs.map cI)), (1, .sl 1 (ys.map cI)), (5, (.g (.int .i64 (((i + 1) : Nat)))))] (by simp [KpE, upd_app, lkE_app, lk_cons]; try rfl), _, ?_, i + 1, rfl, ?_, rfl⟩
                            · omega
                            · refine ⟨by omega, fun j hj => ?_⟩
                              by_cases hji : j = i
                              · subst hji; simp_all [eqB_true, eqB_false]
                              · exact hpre j (by omega)
                · try simp at hc47
                  all_goals
                    have hi2 : i = xs.length := by omega
                    subst hi2
                    have heq : xs = ys := List.ext_getElem? fun j => by
                      by_cases hj : j < xs.length
                      · exact hpre j hj
                      · rw [List.getElem?_eq_none (by omega), List.getElem?_eq_none (by omega)]
                    refine AW_exit ?_
                    refine AW_id ?_
                    refine AW_r rfl rfl fun K hK => ?_
                    simp (disch := omega) [wrap64, List.getElem?_eq_getElem, toNat_pred, cI]
                    repeat' first | (exfalso; omega) | (refine ⟨fun _ => ?_, fun _ => ?_⟩) | (refine ⟨by omega, ?_⟩) | (intro _)
                    all_goals (refine hK _ ?_; clear hK K)
                    all_goals
                      refine AW_ret (end_s ?_)
                      simp (disch := omega) [wrap64, List.getElem?_eq_getElem, toNat_pred, cI]
                      all_goals first | (exact eqB_of heq) | (refine eqB_ne fun heq => ?_; subst heq; simp_all [eqB_true, eqB_false, eqB_self]; done) | (refine (eqB_ne fun heq => ?_).symm; subst heq; simp_all [eqB_true, eqB_false, eqB_self]; done) | simp_all [eqB_self]
theorem szLead (u : DtLead) (n : Int) (hn : 0 ≤ n ∧ n ≤ 1048576) (hw : DtLead.wf u) : PCall Tryz.prog 74 [.agg (DtLead.cells u), (.g (.int .i64 (n)))] (.g (.int .i64 (szR n (DtLead.sz u)))) := by
  have ⟨w0, w1, w2, w3, w4, w5, w6⟩ := hw
  have w42 := w4.1
  have w52 := w5.1
  refine gcall_of_walk Tryz.func74 (by rfl) (by rfl) (by rw [Tryz.ntmps74]; exact Nat.le_of_ble_eq_true rfl) rfl (by decide) ?_
  rw [Tryz.ntmps74]
  refine AW_k [(0, _), (1, _)] ⟨rfl, rfl, trivial⟩ ?_
  refine AW_r rfl rfl fun K hK => ?_
  simp (disch := omega) [wrap64, List.getElem?_eq_getElem, toNat_pred, szR, DtLead.cells]
  repeat' first | (exfalso; omega) | (refine ⟨fun _ => ?_, fun _ => ?_⟩) | (refine ⟨by omega, ?_⟩) | (intro _)
  all_goals (refine hK _ ?_; clear hK K)
  all_goals
    refine AW_r rfl rfl fun K hK => ?_
    simp (disch := omega) [wrap64, List.getElem?_eq_getElem, toNat_pred, szR, DtLead.cells]
    repeat' first | (exfalso; omega) | (refine CKd_v (am2s_cons am2_sl (am2s_cons am2_g am2s_nil)) (szIdS _ _ (by omega) (by assumption)) rfl ?_; simp (disch := omega) [wrap64, List.getElem?_eq_getElem, toNat_pred, szR, DtLead.cells]) | (refine ⟨fun _ => ?_, fun _ => ?_⟩) | (refine ⟨by omega, ?_⟩) | (intro _)
    all_goals (refine hK _ ?_; clear hK K)
    all_goals
      refine AW_seq ?_
      refine AW_r rfl rfl fun K hK => ?_
      simp (disch := omega) [wrap64, List.getElem?_eq_getElem, toNat_pred, szR, DtLead.cells]
      repeat' first | (exfalso; omega) | (refine ⟨fun _ => ?_, fun _ => ?_⟩) | (refine ⟨by omega, ?_⟩) | (intro _)
      all_goals (refine hK _ ?_; clear hK K)
      all_goals
        refine AW_cond rfl (fun hc49 => ?_) (fun hc49 => ?_)
        · try simp at hc49
          all_goals
            refine AW_r rfl rfl fun K hK => ?_
            simp (disch := omega) [wrap64, List.getElem?_eq_getElem, toNat_pred, szR, DtLead.cells]
            repeat' first | (exfalso; omega) | (refine ⟨fun _ => ?_, fun _ => ?_⟩) | (refine ⟨by omega, ?_⟩) | (intro _)
            all_goals (refine hK _ ?_; clear hK K)
            all_goals
              refine AW_ret (end_s ?_)
              simp (disch := omega) [wrap64, List.getElem?_eq_getElem, toNat_pred, szR, DtLead.cells, DtLead.sz]
              all_goals first | omega | (simp_all; done) | (split <;> omega) | (split <;> simp_all <;> omega) | (simp_all [szR]; omega)
        · try simp at hc49
          all_goals
            refine AW_skip ?_
            refine AW_id ?_
            refine AW_r rfl rfl fun K hK => ?_
            simp (disch := omega) [wrap64, List.getElem?_eq_getElem, toNat_pred, szR, DtLead.cells]
            repeat' first | (exfalso; omega) | (refine CKd_v (am2s_cons am2_sl (am2s_cons am2_g am2s_nil)) (szIntS _ _ (by omega) (by assumption)) rfl ?_; simp (disch := omega) [wrap64, List.getElem?_eq_getElem, toNat_pred, szR, DtLead.cells]) | (refine ⟨fun _ => ?_, fun _ => ?_⟩) | (refine ⟨by omega, ?_⟩) | (intro _)
            all_goals (refine hK _ ?_; clear hK K)
            all_goals
              refine AW_seq ?_
              refine AW_r rfl rfl fun K hK => ?_
              simp (disch := omega) [wrap64, List.getElem?_eq_getElem, toNat_pred, szR, DtLead.cells]
              repeat' first | (exfalso; omega) | (refine ⟨fun _ => ?_, fun _ => ?_⟩) | (refine ⟨by omega, ?_⟩) | (intro _)
              all_goals (refine hK _ ?_; clear hK K)
              all_goals
                refine AW_cond rfl (fun hc50 => ?_) (fun hc50 => ?_)
                · try simp at hc50
                  all_goals
                    refine AW_r rfl rfl fun K hK => ?_
                    simp (disch := omega) [wrap64, List.getElem?_eq_getElem, toNat_pred, szR, DtLead.cells]
                    repeat' first | (exfalso; omega) | (refine ⟨fun _ => ?_, fun _ => ?_⟩) | (refine ⟨by omega, ?_⟩) | (intro _)
                    all_goals (refine hK _ ?_; clear hK K)
                    all_goals
                      refine AW_ret (end_s ?_)
                      simp (disch := omega) [wrap64, List.getElem?_eq_getElem, toNat_pred, szR, DtLead.cells, DtLead.sz]
                      all_goals first | omega | (simp_all; done) | (split <;> omega) | (split <;> simp_all <;> omega) | (simp_all [szR]; omega)
                · try simp at hc50
                  all_goals
                    refine AW_skip ?_
                    refine AW_id ?_
                    refine AW_r rfl rfl fun K hK => ?_
                    simp (disch := omega) [wrap64, List.getElem?_eq_getElem, toNat_pred, szR, DtLead.cells]
                    repeat' first | (exfalso; omega) | (refine ⟨fun _ => ?_, fun _ => ?_⟩) | (refine ⟨by omega, ?_⟩) | (intro _)
                    all_goals (refine hK _ ?_; clear hK K)
                    all_goals
                      refine AW_ret (end_s ?_)
                      simp (disch := omega) [wrap64, List.getElem?_eq_getElem, toNat_pred, szR, DtLead.cells, DtLead.sz]
                      all_goals first | omega | (simp_all; done) | (split <;> omega) | (split <;> simp_all <;> omega) | (simp_all [szR]; omega)
theorem toLead (u : DtLead) (hs : DtLead.sz u ≤ 1048576) : PCall Tryz.prog 82 [.agg (DtLead.cells u)] (.agg (DtLead.cells u)) := by
  simp only [DtLead.sz] at hs
  have s4 : (u.fDeps.length : Int) ≤ 1048576 := by omega
  have s5 : (u.fFrom.length : Int) ≤ 1048576 := by omega
  refine gcall_of_walk Tryz.func82 (by rfl) (by rfl) (by rw [Tryz.ntmps82]; exact Nat.le_of_ble_eq_true rfl) rfl (by decide) ?_
  rw [Tryz.ntmps82]
  refine AW_k [(0, _)] ⟨rfl, trivial⟩ ?_
  refine AW_r rfl rfl fun K hK => ?_
  simp [DtLead.cells, DtId.cells]
  repeat' first | (refine ⟨fun _ => ?_, fun _ => ?_⟩) | (refine ⟨by omega, ?_⟩) | (intro _)
  all_goals (refine hK _ ?_; clear hK K)
  all_goals
    refine AW_r rfl rfl fun K hK => ?_
    simp [DtLead.cells, DtId.cells]
    repeat' first | (refine ⟨fun _ => ?_, fun _ => ?_⟩) | (refine ⟨by omega, ?_⟩) | (intro _)
    all_goals (refine hK _ ?_; clear hK K)
    all_goals
      refine AW_r rfl rfl fun K hK => ?_
      simp [DtLead.cells, DtId.cells]
      repeat' first | (refine CKd_v (am2s_cons (am2_agg rfl) am2s_nil) (toId _) rfl ?_; simp [DtLead.cells, DtId.cells]) | (refine ⟨fun _ => ?_, fun _ => ?_⟩) | (refine ⟨by omega, ?_⟩) | (intro _)
      all_goals (refine hK _ ?_; clear hK K)
      all_goals
        refine AW_r rfl rfl fun K hK => ?_
        simp [DtLead.cells, DtId.cells]
        repeat' first | (refine ⟨fun _ => ?_, fun _ => ?_⟩) | (refine ⟨by omega, ?_⟩) | (intro _)
        all_goals (refine hK _ ?_; clear hK K)
        all_goals
          refine AW_r rfl rfl fun K hK => ?_
          simp [DtLead.cells, DtId.cells]
          repeat' first | (refine ⟨fun _ => ?_, fun _ => ?_⟩) | (refine ⟨by omega, ?_⟩) | (intro _)
          all_goals (refine hK _ ?_; clear hK K)
          all_goals
            refine AW_r rfl rfl fun K hK => ?_
            simp [DtLead.cells, DtId.cells]
            repeat' first | (refine ⟨fun _ => ?_, fun _ => ?_⟩) | (refine ⟨by omega, ?_⟩) | (intro _)
            all_goals (refine hK _ ?_; clear hK K)
            all_goals
              refine AW_r rfl rfl fun K hK => ?_
              simp [DtLead.cells, DtId.cells]
              repeat' first | (refine CKd_v (am2s_cons am2_sl am2s_nil) (toIdS _ (by first | assumption | omega)) rfl ?_; simp [DtLead.cells, DtId.cells]) | (refine ⟨fun _ => ?_, fun _ => ?_⟩) | (refine ⟨by omega, ?_⟩) | (intro _)
              all_goals (refine hK _ ?_; clear hK K)
              all_goals
                refine AW_r rfl rfl fun K hK => ?_
                simp [DtLead.cells, DtId.cells]
                repeat' first | (refine CKd_v (am2s_cons am2_sl am2s_nil) (toIntS _ (by first | assumption | omega)) rfl ?_; simp [DtLead.cells, DtId.cells]) | (refine ⟨fun _ => ?_, fun _ => ?_⟩) | (refine ⟨by omega, ?_⟩) | (intro _)
                all_goals (refine hK _ ?_; clear hK K)
                all_goals
                  refine AW_r rfl rfl fun K hK => ?_
                  simp [DtLead.cells, DtId.cells]
                  repeat' first | (refine ⟨fun _ => ?_, fun _ => ?_⟩) | (refine ⟨by omega, ?_⟩) | (intro _)
                  all_goals (refine hK _ ?_; clear hK K)
                  all_goals
                    refine AW_r rfl rfl fun K hK => ?_
                    simp [DtLead.cells, DtId.cells]
                    repeat' first | (refine ⟨fun _ => ?_, fun _ => ?_⟩) | (refine ⟨by omega, ?_⟩) | (intro _)
                    all_goals (refine hK _ ?_; clear hK K)
                    all_goals
                      refine AW_ret (end_s ?_)
                      simp [DtLead.cells, DtId.cells]
                      all_goals first | omega | (simp_all; done) | (simp [List.take_of_length_le]; done) | ((try simp_all); (try simp (disch := omega) only [wrap64, Int.tdiv_eq_ediv_of_nonneg, Int.tmod_eq_emod_of_nonneg, and_true, true_and]); done) | ((try simp_all); (try simp (disch := omega) only [wrap64, Int.tdiv_eq_ediv_of_nonneg, Int.tmod_eq_emod_of_nonneg, and_true, true_and] at *); omega)
theorem eqLead (u v : DtLead) (hs : DtLead.sz u ≤ 1048576) : PCall Tryz.prog 97 [.agg (DtLead.cells u), .agg (DtLead.cells v)] (.g (.bool (eqB u v))) := by
  simp only [DtLead.sz] at hs
  have s4 : (u.fDeps.length : Int) ≤ 1048576 := by omega
  have s5 : (u.fFrom.length : Int) ≤ 1048576 := by omega
  have he := DtLead.ext_iff u v
  refine gcall_of_walk Tryz.func97 (by rfl) (by rfl) (by rw [Tryz.ntmps97]; exact Nat.le_of_ble_eq_true rfl) rfl (by decide) ?_
  rw [Tryz.ntmps97]
  refine AW_k [(0, _), (1, _)] ⟨rfl, rfl, trivial⟩ ?_
  refine AW_r rfl rfl fun K hK => ?_
  simp [DtLead.cells, DtId.cells]
  repeat' first | (refine ⟨fun _ => ?_, fun _ => ?_⟩) | (refine ⟨by omega, ?_⟩) | (intro _)
  all_goals (refine hK _ ?_; clear hK K)
  all_goals
    refine AW_seq ?_
    refine AW_r rfl rfl fun K hK => ?_
    simp [DtLead.cells, DtId.cells]
    repeat' first | (refine CKd_v (am2s_cons (am2_agg rfl) (am2s_cons (am2_agg rfl) am2s_nil)) (eqId _ _) rfl ?_; simp [DtLead.cells, DtId.cells]) | (refine ⟨fun _ => ?_, fun _ => ?_⟩) | (refine ⟨by omega, ?_⟩) | (intro _)
    all_goals (refine hK _ ?_; clear hK K)
    all_goals
      refine AW_cond rfl (fun hc51 => ?_) (fun hc51 => ?_)
      · try simp at hc51
        all_goals
          refine AW_r rfl rfl fun K hK => ?_
          simp [DtLead.cells, DtId.cells]
          repeat' first | (refine ⟨fun _ => ?_, fun _ => ?_⟩) | (refine ⟨by omega, ?_⟩) | (intro _)
          all_goals (refine hK _ ?_; clear hK K)
          all_goals
            refine AW_ret (end_s ?_)
            simp [DtLead.cells, DtId.cells]
            all_goals first | (refine eqB_of (he.mpr ?_); simp_all [eqB_true, eqB_false]; done) | (refine eqB_ne fun h => ?_; rw [he] at h; simp_all [eqB_true, eqB_false, eqB_self]; done) | (refine (eqB_of (he.mpr ?_)).symm; simp_all [eqB_true, eqB_false]; done) | (refine (eqB_ne fun h => ?_).symm; rw [he] at h; simp_all [eqB_true, eqB_false, eqB_self]; done)
      · try simp at hc51
        all_goals
          refine AW_skip ?_
          refine AW_id ?_
          refine AW_seq ?_
          refine AW_r rfl rfl fun K hK => ?_
          simp [DtLead.cells, DtId.cells]
          repeat' first | (refine ⟨fun _ => ?_, fun _ => ?_⟩) | (refine ⟨by omega, ?_⟩) | (intro _)
          all_goals (refine hK _ ?_; clear hK K)
          all_goals
            refine AW_cond rfl (fun hc52 => ?_) (fun hc52 => ?_)
            · try simp at hc52
              all_goals
                refine AW_r rfl rfl fun K hK => ?_
                simp [DtLead.cells, DtId.cells]
                repeat' first | (refine ⟨fun _ => ?_, fun _ => ?_⟩) | (refine ⟨by omega, ?_⟩) | (intro _)
                all_goals (refine hK _ ?_; clear hK K)
                all_goals
                  refine AW_ret (end_s ?_)
                  simp [DtLead.cells, DtId.cells]
                  all_goals first | (refine eqB_of (he.mpr ?_); simp_all [eqB_true, eqB_false]; done) | (refine eqB_ne fun h => ?_; rw [he] at h; simp_all [eqB_true, eqB_false, eqB_self]; done) | (refine (eqB_of (he.mpr ?_)).symm; simp_all [eqB_true, eqB_false]; done) | (refine (eqB_ne fun h => ?_).symm; rw [he] at h; simp_all [eqB_true, eqB_false, eqB_self]; done)
            · try simp at hc52
              all_goals
                refine AW_skip ?_
                refine AW_id ?_
                refine AW_seq ?_
                refine AW_r rfl rfl fun K hK => ?_
                simp [DtLead.cells, DtId.cells]
                repeat' first | (refine ⟨fun _ => ?_, fun _ => ?_⟩) | (refine ⟨by omega, ?_⟩) | (intro _)
                all_goals (refine hK _ ?_; clear hK K)
                all_goals
                  refine AW_cond rfl (fun hc53 => ?_) (fun hc53 => ?_)
                  · try simp at hc53
                    all_goals
                      refine AW_r rfl rfl fun K hK => ?_
                      simp [DtLead.cells, DtId.cells]
                      repeat' first | (refine ⟨fun _ => ?_, fun _ => ?_⟩) | (refine ⟨by omega, ?_⟩) | (intro _)
                      all_goals (refine hK _ ?_; clear hK K)
                      all_goals
                        refine AW_ret (end_s ?_)
                        simp [DtLead.cells, DtId.cells]
                        all_goals first | (refine eqB_of (he.mpr ?_); simp_all [eqB_true, eqB_false]; done) | (refine eqB_ne fun h => ?_; rw [he] at h; simp_all [eqB_true, eqB_false, eqB_self]; done) | (refine (eqB_of (he.mpr ?_)).symm; simp_all [eqB_true, eqB_false]; done) | (refine (eqB_ne fun h => ?_).symm; rw [he] at h; simp_all [eqB_true, eqB_false, eqB_self]; done)
                  · try simp at hc53
                    all_goals
                      refine AW_skip ?_
                      refine AW_id ?_
                      refine AW_seq ?_
                      refine AW_r rfl rfl fun K hK => ?_
                      simp [DtLead.cells, DtId.cells]
                      repeat' first | (refine ⟨fun _ => ?_, fun _ => ?_⟩) | (refine ⟨by omega, ?_⟩) | (intro _)
                      all_goals (refine hK _ ?_; clear hK K)
                      all_goals
                        refine AW_cond rfl (fun hc54 => ?_) (fun hc54 => ?_)
                        · try simp at hc54
                          all_goals
                            refine AW_r rfl rfl fun K hK => ?_
                            simp [DtLead.cells, DtId.cells]
                            repeat' first | (refine ⟨fun _ => ?_, fun _ => ?_⟩) | (refine ⟨by omega, ?_⟩) | (intro _)
                            all_goals (refine hK _ ?_; clear hK K)
                            all_goals
                              refine AW_ret (end_s ?_)
                              simp [DtLead.cells, DtId.cells]
                              all_goals first | (refine eqB_of (he.mpr ?_); simp_all [eqB_true, eqB_false]; done) | (refine eqB_ne fun h => ?_; rw [he] at h; simp_all [eqB_true, eqB_false, eqB_self]; done) | (refine (eqB_of (he.mpr ?_)).symm; simp_all [eqB_true, eqB_false]; done) | (refine (eqB_ne fun h => ?_).symm; rw [he] at h; simp_all [eqB_true, eqB_false, eqB_self]; done)
                        · try simp at hc54
                          all_goals
                            refine AW_skip ?_
                            refine AW_id ?_
                            refine AW_seq ?_
                            refine AW_r rfl rfl fun K hK => ?_
                            simp [DtLead.cells, DtId.cells]
                            repeat' first | (refine CKd_v (am2s_cons am2_sl (am2s_cons am2_sl am2s_nil)) (eqIdS _ _ (by first | assumption | omega)) rfl ?_; simp [DtLead.cells, DtId.cells]) | (refine ⟨fun _ => ?_, fun _ => ?_⟩) | (refine ⟨by omega, ?_⟩) | (intro _)
                            all_goals (refine hK _ ?_; clear hK K)
                            all_goals
                              refine AW_cond rfl (fun hc55 => ?_) (fun hc55 => ?_)
                              · try simp at hc55
                                all_goals
                                  refine AW_r rfl rfl fun K hK => ?_
                                  simp [DtLead.cells, DtId.cells]
                                  repeat' first | (refine ⟨fun _ => ?_, fun _ => ?_⟩) | (refine ⟨by omega, ?_⟩) | (intro _)
                                  all_goals (refine hK _ ?_; clear hK K)
                                  all_goals
                                    refine AW_ret (end_s ?_)
                                    simp [DtLead.cells, DtId.cells]
                                    all_goals first | (refine eqB_of (he.mpr ?_); simp_all [eqB_true, eqB_false]; done) | (refine eqB_ne fun h => ?_; rw [he] at h; simp_all [eqB_true, eqB_false, eqB_self]; done) | (refine (eqB_of (he.mpr ?_)).symm; simp_all [eqB_true, eqB_false]; done) | (refine (eqB_ne fun h => ?_).symm; rw [he] at h; simp_all [eqB_true, eqB_false, eqB_self]; done)
                              · try simp at hc55
                                all_goals
                                  refine AW_skip ?_
                                  refine AW_id ?_
                                  refine AW_seq ?_
                                  refine AW_r rfl rfl fun K hK => ?_
                                  simp [DtLead.cells, DtId.cells]
                                  repeat' first | (refine CKd_v (am2s_cons am2_sl (am2s_cons am2_sl am2s_nil)) (eqIntS _ _ (by first | assumption | omega)) rfl ?_; simp [DtLead.cells, DtId.cells]) | (refine ⟨fun _ => ?_, fun _ => ?_⟩) | (refine ⟨by omega, ?_⟩) | (intro _)
                                  all_goals (refine hK _ ?_; clear hK K)
                                  all_goals
                                    refine AW_cond rfl (fun hc56 => ?_) (fun hc56 => ?_)
                                    · try simp at hc56
                                      all_goals
                                        refine AW_r rfl rfl fun K hK => ?_
                                        simp [DtLead.cells, DtId.cells]
                                        repeat' first | (refine ⟨fun _ => ?_, fun _ => ?_⟩) | (refine ⟨by omega, ?_⟩) | (intro _)
                                        all_goals (refine hK _ ?_; clear hK K)
                                        all_goals
                                          refine AW_ret (end_s ?_)
                                          simp [DtLead.cells, DtId.cells]
                                          all_goals first | (refine eqB_of (he.mpr ?_); simp_all [eqB_true, eqB_false]; done) | (refine eqB_ne fun h => ?_; rw [he] at h; simp_all [eqB_true, eqB_false, eqB_self]; done) | (refine (eqB_of (he.mpr ?_)).symm; simp_all [eqB_true, eqB_false]; done) | (refine (eqB_ne fun h => ?_).symm; rw [he] at h; simp_all [eqB_true, eqB_false, eqB_self]; done)
                                    · try simp at hc56
                                      all_goals
                                        refine AW_skip ?_
                                        refine AW_id ?_
                                        refine AW_seq ?_
                                        refine AW_r rfl rfl fun K hK => ?_
                                        simp [DtLead.cells, DtId.cells]
                                        repeat' first | (refine ⟨fun _ => ?_, fun _ => ?_⟩) | (refine ⟨by omega, ?_⟩) | (intro _)
                                        all_goals (refine hK _ ?_; clear hK K)
                                        all_goals
                                          refine AW_cond rfl (fun hc57 => ?_) (fun hc57 => ?_)
                                          · try simp at hc57
                                            all_goals
                                              refine AW_r rfl rfl fun K hK => ?_
                                              simp [DtLead.cells, DtId.cells]
                                              repeat' first | (refine ⟨fun _ => ?_, fun _ => ?_⟩) | (refine ⟨by omega, ?_⟩) | (intro _)
                                              all_goals (refine hK _ ?_; clear hK K)
                                              all_goals
                                                refine AW_ret (end_s ?_)
                                                simp [DtLead.cells, DtId.cells]
                                                all_goals first | (refine eqB_of (he.mpr ?_); simp_all [eqB_true, eqB_false]; done) | (refine eqB_ne fun h => ?_; rw [he] at h; simp_all [eqB_true, eqB_false, eqB_self]; done) | (refine (eqB_of (he.mpr ?_)).symm; simp_all [eqB_true, eqB_false]; done) | (refine (eqB_ne fun h => ?_).symm; rw [he] at h; simp_all [eqB_true, eqB_false, eqB_self]; done)
                                          · try simp at hc57
                                            all_goals
                                              refine AW_skip ?_
                                              refine AW_id ?_
                                              refine AW_r rfl rfl fun K hK => ?_
                                              simp [DtLead.cells, DtId.cells]
                                              repeat' first | (refine ⟨fun _ => ?_, fun _ => ?_⟩) | (refine ⟨by omega, ?_⟩) | (intro _)
                                              all_goals (refine hK _ ?_; clear hK K)
                                              all_goals
                                                refine AW_ret (end_s ?_)
                                                simp [DtLead.cells, DtId.cells]
                                                all_goals first | (refine eqB_of (he.mpr ?_); simp_all [eqB_true, eqB_false]; done) | (refine eqB_ne fun h => ?_; rw [he] at h; simp_all [eqB_true, eqB_false, eqB_self]; done) | (refine (eqB_of (he.mpr ?_)).symm; simp_all [eqB_true, eqB_false]; done) | (refine (eqB_ne fun h => ?_).symm; rw [he] at h; simp_all [eqB_true, eqB_false, eqB_self]; done)
theorem szLeadS (xs : List DtLead) (n : Int) (hn : 0 ≤ n ∧ n ≤ 1048576) (hw : (wfS DtLead.wf) xs) : PCall Tryz.prog 34 [.sl 8 (xs.map DtLead.cells), (.g (.int .i64 (n)))] (.g (.int .i64 (szR n (szS DtLead.sz xs)))) := by
  have hq := sumZ_nonneg DtLead.sz_nonneg xs
  have hw1 := hw.1
  refine gcall_of_walk Tryz.func34 (by rfl) (by rfl) (by rw [Tryz.ntmps34]; exact Nat.le_of_ble_eq_true rfl) rfl (by decide) ?_
  rw [Tryz.ntmps34]
  refine AW_k [(0, _), (1, _)] ⟨rfl, rfl, trivial⟩ ?_
  refine AW_r rfl rfl fun K hK => ?_
  simp (disch := omega) [wrap64, List.getElem?_eq_getElem, toNat_pred, szR]
  repeat' first | (exfalso; omega) | (refine ⟨fun _ => ?_, fun _ => ?_⟩) | (refine ⟨by omega, ?_⟩) | (intro _)
  all_goals (refine hK _ ?_; clear hK K)
  all_goals
    refine AW_r rfl rfl fun K hK => ?_
    simp (disch := omega) [wrap64, List.getElem?_eq_getElem, toNat_pred, szR]
    repeat' first | (exfalso; omega) | (refine ⟨fun _ => ?_, fun _ => ?_⟩) | (refine ⟨by omega, ?_⟩) | (intro _)
    all_goals (refine hK _ ?_; clear hK K)
    all_goals
      refine AW_seq ?_
      refine AW_r rfl rfl fun K hK => ?_
      simp (disch := omega) [wrap64, List.getElem?_eq_getElem, toNat_pred, szR]
      repeat' first | (exfalso; omega) | (refine ⟨fun _ => ?_, fun _ => ?_⟩) | (refine ⟨by omega, ?_⟩) | (intro _)
      all_goals (refine hK _ ?_; clear hK K)
      all_goals
        refine AW_cond rfl (fun hc58 => ?_) (fun hc58 => ?_)
        · try simp at hc58
          all_goals
            refine AW_r rfl rfl fun K hK => ?_
            simp (disch := omega) [wrap64, List.getElem?_eq_getElem, toNat_pred, szR]
            repeat' first | (exfalso; omega) | (refine ⟨fun _ => ?_, fun _ => ?_⟩) | (refine ⟨by omega, ?_⟩) | (intro _)
            all_goals (refine hK _ ?_; clear hK K)
            all_goals
              refine AW_ret (end_s ?_)
              simp (disch := omega) [wrap64, List.getElem?_eq_getElem, toNat_pred, szR, szS]
              all_goals first | omega | (split <;> omega)
        · try simp at hc58
          all_goals
            refine AW_skip ?_
            refine AW_id ?_
            refine AW_seq ?_
            refine AW_r rfl rfl fun K hK => ?_
            simp (disch := omega) [wrap64, List.getElem?_eq_getElem, toNat_pred, szR]
            repeat' first | (exfalso; omega) | (refine ⟨fun _ => ?_, fun _ => ?_⟩) | (refine ⟨by omega, ?_⟩) | (intro _)
            all_goals (refine hK _ ?_; clear hK K)
            all_goals
              refine AW_block ?_
              refine AW_loopS (fun mM sS => ∃ (i : Nat), mM = xs.length - i ∧ (i ≤ xs.length ∧ 0 ≤ n - xs.length - sumZ DtLead.sz (xs.take i)) ∧ sS = { env := lkE [(0, .sl 8 (xs.map DtLead.cells)), (1, (.g (.int .i64 (n - xs.length - sumZ DtLead.sz (xs.take i))))), (5, (.g (.int .i64 ((i : Nat)))))], ob := formOb [] [] }) ?_ ?_
              · refine ⟨_, LeS.kp [(0, .sl 8 (xs.map DtLead.cells)), (1, (.g (.int .i64 (n - xs.length - sumZ DtLead.sz (xs.take (0)))))), (5, (.g (.int .i64 (((0) : Nat)))))] (by simp [KpE, upd_app, lkE_app, lk_cons, sumZ_nil]; try first | rfl | omega), _, 0, rfl, ?_, rfl⟩
                · simp [sumZ_nil]; omega
              · rintro mM sS ⟨i, rfl, ⟨hi, hn⟩, rfl⟩
                have hz := sumZ_nonneg DtLead.sz_nonneg (xs.take i)
                have hz2 := sumZ_take_le DtLead.sz_nonneg xs i
                refine AW_seq ?_
                refine AW_r rfl rfl fun K hK => ?_
                simp (disch := omega) [wrap64, List.getElem?_eq_getElem, toNat_pred, szR, DtLead.cells]
                repeat' first | (exfalso; omega) | (refine ⟨fun _ => ?_, fun _ => ?_⟩) | (refine ⟨by omega, ?_⟩) | (intro _)
                all_goals (refine hK _ ?_; clear hK K)
                all_goals
                  refine AW_cond rfl (fun hc59 => ?_) (fun hc59 => ?_)
                  · try simp at hc59
                    all_goals
                      have hl := sumZ_take (f := DtLead.sz) xs i (by omega)
                      have hwE : DtLead.wf xs[i] := hw.2 _ (List.getElem_mem _)
                      have hz3 := sumZ_take_le DtLead.sz_nonneg xs (i + 1)
                      have hzE := DtLead.sz_nonneg xs[i]
                      have hszR : szR (n - xs.length - sumZ DtLead.sz (xs.take i)) (DtLead.sz xs[i]) = n - xs.length - sumZ DtLead.sz (xs.take (i + 1)) ∨ (szR (n - xs.length - sumZ DtLead.sz (xs.take i)) (DtLead.sz xs[i]) = -1 ∧ n - xs.length - sumZ DtLead.sz (xs.take (i + 1)) < 0) := by unfold szR; split <;> omega
                      refine AW_skip ?_
                      refine AW_id ?_
                      refine AW_seq ?_
                      refine AW_block ?_
                      refine AW_r rfl rfl fun K hK => ?_
                      simp (disch := omega) [wrap64, List.getElem?_eq_getElem, toNat_pred, szR, DtLead.cells]
                      repeat' first | (exfalso; omega) | (refine CKd_v (am2s_cons (am2_agg rfl) (am2s_cons am2_g am2s_nil)) (szLead _ _ (by omega) (by first | exact hwE | exact hw)) rfl ?_; simp (disch := omega) [wrap64, List.getElem?_eq_getElem, toNat_pred, szR, DtLead.cells]) | (refine ⟨fun _ => ?_, fun _ => ?_⟩) | (refine ⟨by omega, ?_⟩) | (intro _)
                      all_goals (refine hK _ ?_; clear hK K)
                      all_goals
                        refine AW_r rfl rfl fun K hK => ?_
                        simp (disch := omega) [wrap64, List.getElem?_eq_getElem, toNat_pred, szR, DtLead.cells]
                        repeat' first | (exfalso; omega) | (refine ⟨fun _ => ?_, fun _ => ?_⟩) | (refine ⟨by omega, ?_⟩) | (intro _)
                        all_goals (refine hK _ ?_; clear hK K)
                        all_goals
                          refine AW_cond rfl (fun hc60 => ?_) (fun hc60 => ?_)
                          · try simp at hc60
                            all_goals
                              refine AW_r rfl rfl fun K hK => ?_
                              simp (disch := omega) [wrap64, List.getElem?_eq_getElem, toNat_pred, szR, DtLead.cells]
                              repeat' first | (exfalso; omega) | (refine ⟨fun _ => ?_, fun _ => ?_⟩) | (refine ⟨by omega, ?_⟩) | (intro _)
                              all_goals (refine hK _ ?_; clear hK K)
                              all_goals
                                refine AW_ret (end_s ?_)
                                simp (disch := omega) [wrap64, List.getElem?_eq_getElem, toNat_pred, szR, DtLead.cells, szS]
                                all_goals first | omega | (split <;> omega)
                          · try simp at hc60
                            all_goals
                              refine AW_skip ?_
                              refine AW_id ?_
                              refine AW_re rfl rfl fun K hK => ?_
                              simp (disch := omega) [wrap64, List.getElem?_eq_getElem, toNat_pred, szR, DtLead.cells]
                              repeat' first | (exfalso; omega) | (refine ⟨fun _ => ?_, fun _ => ?_⟩) | (refine ⟨by omega, ?_⟩) | (intro _)
                              all_goals (refine hK _ ?_; clear hK K)
                              all_goals
                                refine ⟨_, LeS.kp [(0, .sl 8 (xs.map DtLead.cells)), (1, (.g (.int .i64 (n - xs.length - sumZ DtLead.sz (xs.take (i + 1)))))), (5, (.g (.int .i64 (((i + 1) : Nat)))))] (by simp [KpE, upd_app, lkE_app, lk_cons, sumZ_nil]; try first | rfl | omega), _, ?_, i + 1, rfl, ?_, rfl⟩
                                · omega
                                · omega
                  · try simp at hc59
                    all_goals
                      have hi2 : i = xs.length := by omega
                      subst hi2
                      simp only [List.take_length] at *
                      refine AW_exit ?_
                      refine AW_id ?_
                      refine AW_r rfl rfl fun K hK => ?_
                      simp (disch := omega) [wrap64, List.getElem?_eq_getElem, toNat_pred, szR, DtLead.cells]
                      repeat' first | (exfalso; omega) | (refine ⟨fun _ => ?_, fun _ => ?_⟩) | (refine ⟨by omega, ?_⟩) | (intro _)
                      all_goals (refine hK _ ?_; clear hK K)
                      all_goals
                        refine AW_ret (end_s ?_)
                        simp (disch := omega) [wrap64, List.getElem?_eq_getElem, toNat_pred, szR, DtLead.cells, szS]
                        all_goals first | omega | (split <;> omega)
theorem toLeadS (xs : List DtLead) (hs : szS DtLead.sz xs ≤ 1048576) : PCall Tryz.prog 48 [.sl 8 (xs.map DtLead.cells)] (.sl 8 (xs.map DtLead.cells)) := by
  have hn : xs.length ≤ 1048576 := by have := sumZ_nonneg DtLead.sz_nonneg xs; simp only [szS] at hs; omega
  refine gcall_of_walk Tryz.func48 (by rfl) (by rfl) (by rw [Tryz.ntmps48]; exact Nat.le_of_ble_eq_true rfl) rfl (by decide) ?_
  rw [Tryz.ntmps48]
  refine AW_k [(0, _)] ⟨rfl, trivial⟩ ?_
  refine AW_r rfl rfl fun K hK => ?_
  simp (disch := omega) [wrap64, List.getElem?_eq_getElem, toNat_pred]
  repeat' first | (exfalso; omega) | (refine ⟨fun _ => ?_, fun _ => ?_⟩) | (refine ⟨by omega, ?_⟩) | (intro _)
  all_goals (refine hK _ ?_; clear hK K)
  all_goals
    refine AW_r rfl rfl fun K hK => ?_
    simp (disch := omega) [wrap64, List.getElem?_eq_getElem, toNat_pred]
    repeat' first | (exfalso; omega) | (refine ⟨fun _ => ?_, fun _ => ?_⟩) | (refine ⟨by omega, ?_⟩) | (intro _)
    all_goals (refine hK _ ?_; clear hK K)
    all_goals
      refine AW_seq ?_
      refine AW_r rfl rfl fun K hK => ?_
      simp (disch := omega) [wrap64, List.getElem?_eq_getElem, toNat_pred]
      repeat' first | (exfalso; omega) | (refine ⟨fun _ => ?_, fun _ => ?_⟩) | (refine ⟨by omega, ?_⟩) | (intro _)
      all_goals (refine hK _ ?_; clear hK K)
      all_goals
        refine AW_block ?_
        refine AW_loopS (fun mM sS => ∃ (i : Nat) (ys : List (List AV)), mM = xs.length - i ∧ (i ≤ xs.length ∧ ys.length = xs.length ∧ (∀ j, j < i → ys[j]? = (xs.map DtLead.cells)[j]?) ∧ (∀ y ∈ ys, y.length = 8)) ∧ sS = { env := lkE [(0, .sl 8 (xs.map DtLead.cells)), (3, .arr 128 0 xs.length), (4, (.g (.int .i64 ((i : Nat)))))], ob := upd (formOb [] []) 128 (some (.flat 8 ys)) }) ?_ ?_
        · refine ⟨_, LeS.kp [(0, .sl 8 (xs.map DtLead.cells)), (3, .arr 128 0 xs.length), (4, (.g (.int .i64 (((0) : Nat)))))] (by simp [KpE, upd_app, lkE_app, lk_cons]; try rfl), _, 0, List.replicate xs.length [.g (.int .i64 0), .g (.int .i64 0), .g (.int .i64 0), .g (.int .i64 0), .g (.int .i64 0), .g (.slice none 0 0), .g (.slice none 0 0), .g (.bool false)], rfl, ?_, rfl⟩
          · simp
        · rintro mM sS ⟨i, ys, rfl, ⟨hi, hl, hpre, hone⟩, rfl⟩
          refine AW_seq ?_
          refine AW_r rfl rfl fun K hK => ?_
          simp (disch := omega) [wrap64, List.getElem?_eq_getElem, toNat_pred, DtLead.cells]
          repeat' first | (exfalso; omega) | (refine ⟨fun _ => ?_, fun _ => ?_⟩) | (refine ⟨by omega, ?_⟩) | (intro _)
          all_goals (refine hK _ ?_; clear hK K)
          all_goals
            refine AW_cond rfl (fun hc61 => ?_) (fun hc61 => ?_)
            · try simp at hc61
              all_goals
                obtain ⟨c1, c2, c3, c4, c5, c6, c7, c8, h6⟩ : ∃ c1 c2 c3 c4 c5 c6 c7 c8, ys[i]'(by omega) = [c1, c2, c3, c4, c5, c6, c7, c8] := len8 (hone _ (List.getElem_mem _))
                have hsE : DtLead.sz xs[i] ≤ 1048576 := by have := sumZ_mem_le DtLead.sz_nonneg xs xs[i] (List.getElem_mem _); simp only [szS] at hs; omega
                refine AW_skip ?_
                refine AW_id ?_
                refine AW_seq ?_
                refine AW_block ?_
                refine AW_re rfl rfl fun K hK => ?_
                simp (disch := omega) [wrap64, List.getElem?_eq_getElem, toNat_pred, DtLead.cells, h6]
                repeat' first | (exfalso; omega) | (refine CKd_v (am2s_cons (am2_agg rfl) am2s_nil) (toLead _ (by first | assumption | omega)) rfl ?_; simp (disch := omega) [wrap64, List.getElem?_eq_getElem, toNat_pred, DtLead.cells, h6]) | (refine ⟨fun _ => ?_, fun _ => ?_⟩) | (refine ⟨by omega, ?_⟩) | (intro _)
                all_goals (refine hK _ ?_; clear hK K)
                all_goals
                  refine AW_id ?_
                  refine AW_re rfl rfl fun K hK => ?_
                  simp (disch := omega) [wrap64, List.getElem?_eq_getElem, toNat_pred, DtLead.cells, h6]
                  repeat' first | (exfalso; omega) | (refine ⟨fun _ => ?_, fun _ => ?_⟩) | (refine ⟨by omega, ?_⟩) | (intro _)
                  all_goals (refine hK _ ?_; clear hK K)
                  all_goals
                    refine ⟨_, LeS.kp [(0, .sl 8 (xs.map DtLead.cells)), (3, .arr 128 0 xs.length), (4, (.g (.int .i64 (((i + 1) : Nat)))))] (by simp [KpE, upd_app, lkE_app, lk_cons]; try rfl), _, ?_, i + 1, ys.set i (DtLead.cells xs[i]), rfl, ?_, ?_⟩
                    · omega
                    · refine ⟨by omega, by simpa using hl, fun j hj => ?_, fun y hy => ?_⟩
                      · by_cases hji : j = i
                        · subst hji; rw [List.getElem?_set_self (by omega), List.getElem?_map, List.getElem?_eq_getElem (by omega)]; rfl
                        · rw [List.getElem?_set_ne (by omega)]; exact hpre j (by omega)
                      · rcases List.mem_or_eq_of_mem_set hy with hy | rfl
                        · exact hone y hy
                        · rfl
                    · rfl
            · try simp at hc61
              all_goals
                have hi2 : i = xs.length := by omega
                subst hi2
                have hys : ys = xs.map DtLead.cells := List.ext_getElem? fun j => by
                  by_cases hj : j < xs.length
                  · exact hpre j hj
                  · rw [List.getElem?_eq_none (by omega), List.getElem?_eq_none (by simp; omega)]
                subst hys
                refine AW_exit ?_
                refine AW_id ?_
                refine AW_r rfl rfl fun K hK => ?_
                simp (disch := omega) [wrap64, List.getElem?_eq_getElem, toNat_pred, DtLead.cells]
                repeat' first | (exfalso; omega) | (refine ⟨fun _ => ?_, fun _ => ?_⟩) | (refine ⟨by omega, ?_⟩) | (intro _)
                all_goals (refine hK _ ?_; clear hK K)
                all_goals
                  refine AW_ret (end_s ?_)
                  simp (disch := omega) [wrap64, List.getElem?_eq_getElem, toNat_pred, DtLead.cells]
                  all_goals first | omega | (simp_all; done) | (simp [List.take_of_length_le]; done) | ((try simp_all); (try simp (disch := omega) only [wrap64, Int.tdiv_eq_ediv_of_nonneg, Int.tmod_eq_emod_of_nonneg, and_true, true_and]); done) | ((try simp_all); (try simp (disch := omega) only [wrap64, Int.tdiv_eq_ediv_of_nonneg, Int.tmod_eq_emod_of_nonneg, and_true, true_and] at *); omega)
theorem eqLeadS (xs ys : List DtLead) (hs : szS DtLead.sz xs ≤ 1048576) : PCall Tryz.prog 69 [.sl 8 (xs.map DtLead.cells), .sl 8 (ys.map DtLead.cells)] (.g (.bool (eqB xs ys))) := by
  have hn : xs.length ≤ 1048576 := by have := sumZ_nonneg DtLead.sz_nonneg xs; simp only [szS] at hs; omega
  refine gcall_of_walk Tryz.func69 (by rfl) (by rfl) (by rw [Tryz.ntmps69]; exact Nat.le_of_ble_eq_true rfl) rfl (by decide) ?_
  rw [Tryz.ntmps69]
  refine AW_k [(0, _), (1, _)] ⟨rfl, rfl, trivial⟩ ?_
  refine AW_r rfl rfl fun K hK => ?_
  simp (disch := omega) [wrap64, List.getElem?_eq_getElem, toNat_pred]
  repeat' first | (exfalso; omega) | (refine ⟨fun _ => ?_, fun _ => ?_⟩) | (refine ⟨by omega, ?_⟩) | (intro _)
  all_goals (refine hK _ ?_; clear hK K)
  all_goals
    refine AW_seq ?_
    refine AW_r rfl rfl fun K hK => ?_
    simp (disch := omega) [wrap64, List.getElem?_eq_getElem, toNat_pred]
    repeat' first | (exfalso; omega) | (refine ⟨fun _ => ?_, fun _ => ?_⟩) | (refine ⟨by omega, ?_⟩) | (intro _)
    all_goals (refine hK _ ?_; clear hK K)
    all_goals
      refine AW_cond rfl (fun hc62 => ?_) (fun hc62 => ?_)
      · try simp at hc62
        all_goals
          refine AW_r rfl rfl fun K hK => ?_
          simp (disch := omega) [wrap64, List.getElem?_eq_getElem, toNat_pred]
          repeat' first | (exfalso; omega) | (refine ⟨fun _ => ?_, fun _ => ?_⟩) | (refine ⟨by omega, ?_⟩) | (intro _)
          all_goals (refine hK _ ?_; clear hK K)
          all_goals
            refine AW_ret (end_s ?_)
            simp (disch := omega) [wrap64, List.getElem?_eq_getElem, toNat_pred]
            all_goals first | (exact eqB_of heq) | (refine eqB_ne fun heq => ?_; subst heq; simp_all [eqB_true, eqB_false, eqB_self]; done) | (refine (eqB_ne fun heq => ?_).symm; subst heq; simp_all [eqB_true, eqB_false, eqB_self]; done) | simp_all [eqB_self]
      · try simp at hc62
        all_goals
          refine AW_skip ?_
          refine AW_id ?_
          refine AW_seq ?_
          refine AW_r rfl rfl fun K hK => ?_
          simp (disch := omega) [wrap64, List.getElem?_eq_getElem, toNat_pred]
          repeat' first | (exfalso; omega) | (refine ⟨fun _ => ?_, fun _ => ?_⟩) | (refine ⟨by omega, ?_⟩) | (intro _)
          all_goals (refine hK _ ?_; clear hK K)
          all_goals
            refine AW_block ?_
            refine AW_loopS (fun mM sS => ∃ (i : Nat), mM = xs.length - i ∧ (i ≤ xs.length ∧ ∀ j, j < i → xs[j]? = ys[j]?) ∧ sS = { env := lkE [(0, .sl 8 (xs.map DtLead.cells)), (1, .sl 8 (ys.map DtLead.cells)), (5, (.g (.int .i64 ((i : Nat)))))], ob := formOb [] [] }) ?_ ?_
            · refine ⟨_, LeS.kp [(0, .sl 8 (xs.map DtLead.cells)), (1, .sl 8 (ys.map DtLead.cells)), (5, (.g (.int .i64 (((0) : Nat)))))] (by simp [KpE, upd_app, lkE_app, lk_cons]; try rfl), _, 0, rfl, ?_, rfl⟩
              · simp
            · rintro mM sS ⟨i, rfl, ⟨hi, hpre⟩, rfl⟩
              refine AW_seq ?_
              refine AW_r rfl rfl fun K hK => ?_
              simp (disch := omega) [wrap64, List.getElem?_eq_getElem, toNat_pred, DtLead.cells]
              repeat' first | (exfalso; omega) | (refine ⟨fun _ => ?_, fun _ => ?_⟩) | (refine ⟨by omega, ?_⟩) | (intro _)
              all_goals (refine hK _ ?_; clear hK K)
              all_goals
                refine AW_cond rfl (fun hc63 => ?_) (fun hc63 => ?_)
                · try simp at hc63
                  all_goals
                    have h7 : i < ys.length := by omega
                    have hsE : DtLead.sz xs[i] ≤ 1048576 := by have := sumZ_mem_le DtLead.sz_nonneg xs xs[i] (List.getElem_mem _); simp only [szS] at hs; omega
                    refine AW_skip ?_
                    refine AW_id ?_
                    refine AW_seq ?_
                    refine AW_block ?_
                    refine AW_q rfl mix (by kernel_rfl) rfl fun K hK => ?_
                    simp (disch := omega) [wrap64, List.getElem?_eq_getElem, toNat_pred, DtLead.cells]
                    repeat' first | (exfalso; omega) | (refine CKd_v (am2s_cons (am2_agg rfl) (am2s_cons (am2_agg rfl) am2s_nil)) (eqLead _ _ (by first | assumption | omega)) rfl ?_; simp (disch := omega) [wrap64, List.getElem?_eq_getElem, toNat_pred, DtLead.cells]) | (refine ⟨fun _ => ?_, fun _ => ?_⟩) | (refine ⟨by omega, ?_⟩) | (intro _)
                    all_goals (refine hK _ ?_; clear hK K)
                    all_goals
                      refine AW_cond rfl (fun hc64 => ?_) (fun hc64 => ?_)
                      · try simp at hc64
                        all_goals
                          refine AW_r rfl rfl fun K hK => ?_
                          simp (disch := omega) [wrap64, List.getElem?_eq_getElem, toNat_pred, DtLead.cells]
                          repeat' first | (exfalso; omega) | (refine ⟨fun _ => ?_, fun _ => ?_⟩) | (refine ⟨by omega, ?_⟩) | (intro _)
                          all_goals (refine hK _ ?_; clear hK K)
                          all_goals
                            refine AW_ret (end_s ?_)
                            simp (disch := omega) [wrap64, List.getElem?_eq_getElem, toNat_pred, DtLead.cells]
                            all_goals first | (exact eqB_of heq) | (refine eqB_ne fun heq => ?_; subst heq; simp_all [eqB_true, eqB_false, eqB_self]; done) | (refine (eqB_ne fun heq => ?_).symm; subst heq; simp_all [eqB_true, eqB_false, eqB_self]; done) | simp_all [eqB_self]
                      · try simp at hc64
                        all_goals
                          refine AW_skip ?_
                          refine AW_id ?_
                          refine AW_re rfl rfl fun K hK => ?_
                          simp (disch := omega) [wrap64, List.getElem?_eq_getElem, toNat_pred, DtLead.cells]
                          repeat' first | (exfalso; omega) | (refine ⟨fun _ => ?_, fun _ => ?_⟩) | (refine ⟨by omega, ?_⟩) | (intro _)
                          all_goals (refine hK _ ?_; clear hK K)
                          all_goals
                            refine ⟨_, LeS.kp [(0, .sl 8 (xs.map DtLead.cells)), (1, .sl 8 (ys.map DtLead.cells)), (5, (.g (.int .i64 (((i + 1) : Nat)))))] (by simp [KpE, upd_app, lkE_app, lk_cons]; try rfl), _, ?_, i + 1, rfl, ?_, rfl⟩
                            · omega
                            · refine ⟨by omega, fun j hj => ?_⟩
                              by_cases hji : j = i
                              · subst hji; simp_all [eqB_true, eqB_false]
                              · exact hpre j (by omega)
                · try simp at hc63
                  all_goals
                    have hi2 : i = xs.length := by omega
                    subst hi2
                    have heq : xs = ys := List.ext_getElem? fun j => by
                      by_cases hj : j < xs.length
                      · exact hpre j hj
                      · rw [List.getElem?_eq_none (by omega), List.getElem?_eq_none (by omega)]
                    refine AW_exit ?_
                    refine AW_id ?_
                    refine AW_r rfl rfl fun K hK => ?_
                    simp (disch := omega) [wrap64, List.getElem?_eq_getElem, toNat_pred, DtLead.cells]
                    repeat' first | (exfalso; omega) | (refine ⟨fun _ => ?_, fun _ => ?_⟩) | (refine ⟨by omega, ?_⟩) | (intro _)
                    all_goals (refine hK _ ?_; clear hK K)
                    all_goals
                      refine AW_ret (end_s ?_)
                      simp (disch := omega) [wrap64, List.getElem?_eq_getElem, toNat_pred, DtLead.cells]
                      all_goals first | (exact eqB_of heq) | (refine eqB_ne fun heq => ?_; subst heq; simp_all [eqB_true, eqB_false, eqB_self]; done) | (refine (eqB_ne fun heq => ?_).symm; subst heq; simp_all [eqB_true, eqB_false, eqB_self]; done) | simp_all [eqB_self]
theorem szENode (u : DtENode) (n : Int) (hn : 0 ≤ n ∧ n ≤ 1048576) (hw : DtENode.wf u) : PCall Tryz.prog 19 [.agg (DtENode.cells u), (.g (.int .i64 (n)))] (.g (.int .i64 (szR n (DtENode.sz u)))) := by
  have ⟨w0, w1, w2, w3⟩ := hw
  have w22 := w2.1
  have z2 := (szS_nonneg DtInst.sz_nonneg) u.fInsts
  have w32 := w3.1
  have z3 := (szS_nonneg DtLead.sz_nonneg) u.fLeads
  refine gcall_of_walk Tryz.func19 (by rfl) (by rfl) (by rw [Tryz.ntmps19]; exact Nat.le_of_ble_eq_true rfl) rfl (by decide) ?_
  rw [Tryz.ntmps19]
  refine AW_k [(0, _), (1, _)] ⟨rfl, rfl, trivial⟩ ?_
  refine AW_r rfl rfl fun K hK => ?_
  simp (disch := omega) [wrap64, List.getElem?_eq_getElem, toNat_pred, szR, DtENode.cells]
  repeat' first | (exfalso; omega) | (refine ⟨fun _ => ?_, fun _ => ?_⟩) | (refine ⟨by omega, ?_⟩) | (intro _)
  all_goals (refine hK _ ?_; clear hK K)
  all_goals
    refine AW_r rfl rfl fun K hK => ?_
    simp (disch := omega) [wrap64, List.getElem?_eq_getElem, toNat_pred, szR, DtENode.cells]
    repeat' first | (exfalso; omega) | (refine CKd_v (am2s_cons am2_sl (am2s_cons am2_g am2s_nil)) (szInstS _ _ (by omega) (by assumption)) rfl ?_; simp (disch := omega) [wrap64, List.getElem?_eq_getElem, toNat_pred, szR, DtENode.cells]) | (refine ⟨fun _ => ?_, fun _ => ?_⟩) | (refine ⟨by omega, ?_⟩) | (intro _)
    all_goals (refine hK _ ?_; clear hK K)
    all_goals
      refine AW_seq ?_
      refine AW_r rfl rfl fun K hK => ?_
      simp (disch := omega) [wrap64, List.getElem?_eq_getElem, toNat_pred, szR, DtENode.cells]
      repeat' first | (exfalso; omega) | (refine ⟨fun _ => ?_, fun _ => ?_⟩) | (refine ⟨by omega, ?_⟩) | (intro _)
      all_goals (refine hK _ ?_; clear hK K)
      all_goals
        refine AW_cond rfl (fun hc65 => ?_) (fun hc65 => ?_)
        · try simp at hc65
          all_goals
            refine AW_r rfl rfl fun K hK => ?_
            simp (disch := omega) [wrap64, List.getElem?_eq_getElem, toNat_pred, szR, DtENode.cells]
            repeat' first | (exfalso; omega) | (refine ⟨fun _ => ?_, fun _ => ?_⟩) | (refine ⟨by omega, ?_⟩) | (intro _)
            all_goals (refine hK _ ?_; clear hK K)
            all_goals
              refine AW_ret (end_s ?_)
              simp (disch := omega) [wrap64, List.getElem?_eq_getElem, toNat_pred, szR, DtENode.cells, DtENode.sz]
              all_goals first | omega | (simp_all; done) | (split <;> omega) | (split <;> simp_all <;> omega) | (simp_all [szR]; omega)
        · try simp at hc65
          all_goals
            refine AW_skip ?_
            refine AW_id ?_
            refine AW_r rfl rfl fun K hK => ?_
            simp (disch := omega) [wrap64, List.getElem?_eq_getElem, toNat_pred, szR, DtENode.cells]
            repeat' first | (exfalso; omega) | (refine CKd_v (am2s_cons am2_sl (am2s_cons am2_g am2s_nil)) (szLeadS _ _ (by omega) (by assumption)) rfl ?_; simp (disch := omega) [wrap64, List.getElem?_eq_getElem, toNat_pred, szR, DtENode.cells]) | (refine ⟨fun _ => ?_, fun _ => ?_⟩) | (refine ⟨by omega, ?_⟩) | (intro _)
            all_goals (refine hK _ ?_; clear hK K)
            all_goals
              refine AW_seq ?_
              refine AW_r rfl rfl fun K hK => ?_
              simp (disch := omega) [wrap64, List.getElem?_eq_getElem, toNat_pred, szR, DtENode.cells]
              repeat' first | (exfalso; omega) | (refine ⟨fun _ => ?_, fun _ => ?_⟩) | (refine ⟨by omega, ?_⟩) | (intro _)
              all_goals (refine hK _ ?_; clear hK K)
              all_goals
                refine AW_cond rfl (fun hc66 => ?_) (fun hc66 => ?_)
                · try simp at hc66
                  all_goals
                    refine AW_r rfl rfl fun K hK => ?_
                    simp (disch := omega) [wrap64, List.getElem?_eq_getElem, toNat_pred, szR, DtENode.cells]
                    repeat' first | (exfalso; omega) | (refine ⟨fun _ => ?_, fun _ => ?_⟩) | (refine ⟨by omega, ?_⟩) | (intro _)
                    all_goals (refine hK _ ?_; clear hK K)
                    all_goals
                      refine AW_ret (end_s ?_)
                      simp (disch := omega) [wrap64, List.getElem?_eq_getElem, toNat_pred, szR, DtENode.cells, DtENode.sz]
                      all_goals first | omega | (simp_all; done) | (split <;> omega) | (split <;> simp_all <;> omega) | (simp_all [szR]; omega)
                · try simp at hc66
                  all_goals
                    refine AW_skip ?_
                    refine AW_id ?_
                    refine AW_r rfl rfl fun K hK => ?_
                    simp (disch := omega) [wrap64, List.getElem?_eq_getElem, toNat_pred, szR, DtENode.cells]
                    repeat' first | (exfalso; omega) | (refine ⟨fun _ => ?_, fun _ => ?_⟩) | (refine ⟨by omega, ?_⟩) | (intro _)
                    all_goals (refine hK _ ?_; clear hK K)
                    all_goals
                      refine AW_ret (end_s ?_)
                      simp (disch := omega) [wrap64, List.getElem?_eq_getElem, toNat_pred, szR, DtENode.cells, DtENode.sz]
                      all_goals first | omega | (simp_all; done) | (split <;> omega) | (split <;> simp_all <;> omega) | (simp_all [szR]; omega)
theorem toENode (u : DtENode) (hs : DtENode.sz u ≤ 1048576) : PCall Tryz.prog 24 [.agg (DtENode.cells u)] (.agg (DtENode.cells u)) := by
  simp only [DtENode.sz] at hs
  have z2 := (szS_nonneg DtInst.sz_nonneg) u.fInsts
  have z3 := (szS_nonneg DtLead.sz_nonneg) u.fLeads
  have s2 : szS DtInst.sz u.fInsts ≤ 1048576 := by omega
  have s3 : szS DtLead.sz u.fLeads ≤ 1048576 := by omega
  refine gcall_of_walk Tryz.func24 (by rfl) (by rfl) (by rw [Tryz.ntmps24]; exact Nat.le_of_ble_eq_true rfl) rfl (by decide) ?_
  rw [Tryz.ntmps24]
  refine AW_k [(0, _)] ⟨rfl, trivial⟩ ?_
  refine AW_r rfl rfl fun K hK => ?_
  simp [DtENode.cells]
  repeat' first | (refine ⟨fun _ => ?_, fun _ => ?_⟩) | (refine ⟨by omega, ?_⟩) | (intro _)
  all_goals (refine hK _ ?_; clear hK K)
  all_goals
    refine AW_r rfl rfl fun K hK => ?_
    simp [DtENode.cells]
    repeat' first | (refine ⟨fun _ => ?_, fun _ => ?_⟩) | (refine ⟨by omega, ?_⟩) | (intro _)
    all_goals (refine hK _ ?_; clear hK K)
    all_goals
      refine AW_r rfl rfl fun K hK => ?_
      simp [DtENode.cells]
      repeat' first | (refine ⟨fun _ => ?_, fun _ => ?_⟩) | (refine ⟨by omega, ?_⟩) | (intro _)
      all_goals (refine hK _ ?_; clear hK K)
      all_goals
        refine AW_r rfl rfl fun K hK => ?_
        simp [DtENode.cells]
        repeat' first | (refine ⟨fun _ => ?_, fun _ => ?_⟩) | (refine ⟨by omega, ?_⟩) | (intro _)
        all_goals (refine hK _ ?_; clear hK K)
        all_goals
          refine AW_r rfl rfl fun K hK => ?_
          simp [DtENode.cells]
          repeat' first | (refine CKd_v (am2s_cons am2_sl am2s_nil) (toInstS _ (by first | assumption | omega)) rfl ?_; simp [DtENode.cells]) | (refine ⟨fun _ => ?_, fun _ => ?_⟩) | (refine ⟨by omega, ?_⟩) | (intro _)
          all_goals (refine hK _ ?_; clear hK K)
          all_goals
            refine AW_r rfl rfl fun K hK => ?_
            simp [DtENode.cells]
            repeat' first | (refine CKd_v (am2s_cons am2_sl am2s_nil) (toLeadS _ (by first | assumption | omega)) rfl ?_; simp [DtENode.cells]) | (refine ⟨fun _ => ?_, fun _ => ?_⟩) | (refine ⟨by omega, ?_⟩) | (intro _)
            all_goals (refine hK _ ?_; clear hK K)
            all_goals
              refine AW_r rfl rfl fun K hK => ?_
              simp [DtENode.cells]
              repeat' first | (refine ⟨fun _ => ?_, fun _ => ?_⟩) | (refine ⟨by omega, ?_⟩) | (intro _)
              all_goals (refine hK _ ?_; clear hK K)
              all_goals
                refine AW_ret (end_s ?_)
                simp [DtENode.cells]
                all_goals first | omega | (simp_all; done) | (simp [List.take_of_length_le]; done) | ((try simp_all); (try simp (disch := omega) only [wrap64, Int.tdiv_eq_ediv_of_nonneg, Int.tmod_eq_emod_of_nonneg, and_true, true_and]); done) | ((try simp_all); (try simp (disch := omega) only [wrap64, Int.tdiv_eq_ediv_of_nonneg, Int.tmod_eq_emod_of_nonneg, and_true, true_and] at *); omega)
theorem eqENode (u v : DtENode) (hs : DtENode.sz u ≤ 1048576) : PCall Tryz.prog 31 [.agg (DtENode.cells u), .agg (DtENode.cells v)] (.g (.bool (eqB u v))) := by
  simp only [DtENode.sz] at hs
  have z2 := (szS_nonneg DtInst.sz_nonneg) u.fInsts
  have z3 := (szS_nonneg DtLead.sz_nonneg) u.fLeads
  have s2 : szS DtInst.sz u.fInsts ≤ 1048576 := by omega
  have s3 : szS DtLead.sz u.fLeads ≤ 1048576 := by omega
  have he := DtENode.ext_iff u v
  refine gcall_of_walk Tryz.func31 (by rfl) (by rfl) (by rw [Tryz.ntmps31]; exact Nat.le_of_ble_eq_true rfl) rfl (by decide) ?_
  rw [Tryz.ntmps31]
  refine AW_k [(0, _), (1, _)] ⟨rfl, rfl, trivial⟩ ?_
  refine AW_r rfl rfl fun K hK => ?_
  simp [DtENode.cells]
  repeat' first | (refine ⟨fun _ => ?_, fun _ => ?_⟩) | (refine ⟨by omega, ?_⟩) | (intro _)
  all_goals (refine hK _ ?_; clear hK K)
  all_goals
    refine AW_seq ?_
    refine AW_r rfl rfl fun K hK => ?_
    simp [DtENode.cells]
    repeat' first | (refine ⟨fun _ => ?_, fun _ => ?_⟩) | (refine ⟨by omega, ?_⟩) | (intro _)
    all_goals (refine hK _ ?_; clear hK K)
    all_goals
      refine AW_cond rfl (fun hc67 => ?_) (fun hc67 => ?_)
      · try simp at hc67
        all_goals
          refine AW_r rfl rfl fun K hK => ?_
          simp [DtENode.cells]
          repeat' first | (refine ⟨fun _ => ?_, fun _ => ?_⟩) | (refine ⟨by omega, ?_⟩) | (intro _)
          all_goals (refine hK _ ?_; clear hK K)
          all_goals
            refine AW_ret (end_s ?_)
            simp [DtENode.cells]
            all_goals first | (refine eqB_of (he.mpr ?_); simp_all [eqB_true, eqB_false]; done) | (refine eqB_ne fun h => ?_; rw [he] at h; simp_all [eqB_true, eqB_false, eqB_self]; done) | (refine (eqB_of (he.mpr ?_)).symm; simp_all [eqB_true, eqB_false]; done) | (refine (eqB_ne fun h => ?_).symm; rw [he] at h; simp_all [eqB_true, eqB_false, eqB_self]; done)
      · try simp at hc67
        all_goals
          refine AW_skip ?_
          refine AW_id ?_
          refine AW_seq ?_
          refine AW_r rfl rfl fun K hK => ?_
          simp [DtENode.cells]
          repeat' first | (refine ⟨fun _ => ?_, fun _ => ?_⟩) | (refine ⟨by omega, ?_⟩) | (intro _)
          all_goals (refine hK _ ?_; clear hK K)
          all_goals
            refine AW_cond rfl (fun hc68 => ?_) (fun hc68 => ?_)
            · try simp at hc68
              all_goals
                refine AW_r rfl rfl fun K hK => ?_
                simp [DtENode.cells]
                repeat' first | (refine ⟨fun _ => ?_, fun _ => ?_⟩) | (refine ⟨by omega, ?_⟩) | (intro _)
                all_goals (refine hK _ ?_; clear hK K)
                all_goals
                  refine AW_ret (end_s ?_)
                  simp [DtENode.cells]
                  all_goals first | (refine eqB_of (he.mpr ?_); simp_all [eqB_true, eqB_false]; done) | (refine eqB_ne fun h => ?_; rw [he] at h; simp_all [eqB_true, eqB_false, eqB_self]; done) | (refine (eqB_of (he.mpr ?_)).symm; simp_all [eqB_true, eqB_false]; done) | (refine (eqB_ne fun h => ?_).symm; rw [he] at h; simp_all [eqB_true, eqB_false, eqB_self]; done)
            · try simp at hc68
              all_goals
                refine AW_skip ?_
                refine AW_id ?_
                refine AW_seq ?_
                refine AW_r rfl rfl fun K hK => ?_
                simp [DtENode.cells]
                repeat' first | (refine CKd_v (am2s_cons am2_sl (am2s_cons am2_sl am2s_nil)) (eqInstS _ _ (by first | assumption | omega)) rfl ?_; simp [DtENode.cells]) | (refine ⟨fun _ => ?_, fun _ => ?_⟩) | (refine ⟨by omega, ?_⟩) | (intro _)
                all_goals (refine hK _ ?_; clear hK K)
                all_goals
                  refine AW_cond rfl (fun hc69 => ?_) (fun hc69 => ?_)
                  · try simp at hc69
                    all_goals
                      refine AW_r rfl rfl fun K hK => ?_
                      simp [DtENode.cells]
                      repeat' first | (refine ⟨fun _ => ?_, fun _ => ?_⟩) | (refine ⟨by omega, ?_⟩) | (intro _)
                      all_goals (refine hK _ ?_; clear hK K)
                      all_goals
                        refine AW_ret (end_s ?_)
                        simp [DtENode.cells]
                        all_goals first | (refine eqB_of (he.mpr ?_); simp_all [eqB_true, eqB_false]; done) | (refine eqB_ne fun h => ?_; rw [he] at h; simp_all [eqB_true, eqB_false, eqB_self]; done) | (refine (eqB_of (he.mpr ?_)).symm; simp_all [eqB_true, eqB_false]; done) | (refine (eqB_ne fun h => ?_).symm; rw [he] at h; simp_all [eqB_true, eqB_false, eqB_self]; done)
                  · try simp at hc69
                    all_goals
                      refine AW_skip ?_
                      refine AW_id ?_
                      refine AW_seq ?_
                      refine AW_r rfl rfl fun K hK => ?_
                      simp [DtENode.cells]
                      repeat' first | (refine CKd_v (am2s_cons am2_sl (am2s_cons am2_sl am2s_nil)) (eqLeadS _ _ (by first | assumption | omega)) rfl ?_; simp [DtENode.cells]) | (refine ⟨fun _ => ?_, fun _ => ?_⟩) | (refine ⟨by omega, ?_⟩) | (intro _)
                      all_goals (refine hK _ ?_; clear hK K)
                      all_goals
                        refine AW_cond rfl (fun hc70 => ?_) (fun hc70 => ?_)
                        · try simp at hc70
                          all_goals
                            refine AW_r rfl rfl fun K hK => ?_
                            simp [DtENode.cells]
                            repeat' first | (refine ⟨fun _ => ?_, fun _ => ?_⟩) | (refine ⟨by omega, ?_⟩) | (intro _)
                            all_goals (refine hK _ ?_; clear hK K)
                            all_goals
                              refine AW_ret (end_s ?_)
                              simp [DtENode.cells]
                              all_goals first | (refine eqB_of (he.mpr ?_); simp_all [eqB_true, eqB_false]; done) | (refine eqB_ne fun h => ?_; rw [he] at h; simp_all [eqB_true, eqB_false, eqB_self]; done) | (refine (eqB_of (he.mpr ?_)).symm; simp_all [eqB_true, eqB_false]; done) | (refine (eqB_ne fun h => ?_).symm; rw [he] at h; simp_all [eqB_true, eqB_false, eqB_self]; done)
                        · try simp at hc70
                          all_goals
                            refine AW_skip ?_
                            refine AW_id ?_
                            refine AW_r rfl rfl fun K hK => ?_
                            simp [DtENode.cells]
                            repeat' first | (refine ⟨fun _ => ?_, fun _ => ?_⟩) | (refine ⟨by omega, ?_⟩) | (intro _)
                            all_goals (refine hK _ ?_; clear hK K)
                            all_goals
                              refine AW_ret (end_s ?_)
                              simp [DtENode.cells]
                              all_goals first | (refine eqB_of (he.mpr ?_); simp_all [eqB_true, eqB_false]; done) | (refine eqB_ne fun h => ?_; rw [he] at h; simp_all [eqB_true, eqB_false, eqB_self]; done) | (refine (eqB_of (he.mpr ?_)).symm; simp_all [eqB_true, eqB_false]; done) | (refine (eqB_ne fun h => ?_).symm; rw [he] at h; simp_all [eqB_true, eqB_false, eqB_self]; done)
theorem szENodeS (xs : List DtENode) (n : Int) (hn : 0 ≤ n ∧ n ≤ 1048576) (hw : (wfS DtENode.wf) xs) : PCall Tryz.prog 9 [.sl 4 (xs.map DtENode.cells), (.g (.int .i64 (n)))] (.g (.int .i64 (szR n (szS DtENode.sz xs)))) := by
  have hq := sumZ_nonneg DtENode.sz_nonneg xs
  have hw1 := hw.1
  refine gcall_of_walk Tryz.func9 (by rfl) (by rfl) (by rw [Tryz.ntmps9]; exact Nat.le_of_ble_eq_true rfl) rfl (by decide) ?_
  rw [Tryz.ntmps9]
  refine AW_k [(0, _), (1, _)] ⟨rfl, rfl, trivial⟩ ?_
  refine AW_r rfl rfl fun K hK => ?_
  simp (disch := omega) [wrap64, List.getElem?_eq_getElem, toNat_pred, szR]
  repeat' first | (exfalso; omega) | (refine ⟨fun _ => ?_, fun _ => ?_⟩) | (refine ⟨by omega, ?_⟩) | (intro _)
  all_goals (refine hK _ ?_; clear hK K)
  all_goals
    refine AW_r rfl rfl fun K hK => ?_
    simp (disch := omega) [wrap64, List.getElem?_eq_getElem, toNat_pred, szR]
    repeat' first | (exfalso; omega) | (refine ⟨fun _ => ?_, fun _ => ?_⟩) | (refine ⟨by omega, ?_⟩) | (intro _)
    all_goals (refine hK _ ?_; clear hK K)
    all_goals
      refine AW_seq ?_
      refine AW_r rfl rfl fun K hK => ?_
      simp (disch := omega) [wrap64, List.getElem?_eq_getElem, toNat_pred, szR]
      repeat' first | (exfalso; omega) | (refine ⟨fun _ => ?_, fun _ => ?_⟩) | (refine ⟨by omega, ?_⟩) | (intro _)
      all_goals (refine hK _ ?_; clear hK K)
      all_goals
        refine AW_cond rfl (fun hc71 => ?_) (fun hc71 => ?_)
        · try simp at hc71
          all_goals
            refine AW_r rfl rfl fun K hK => ?_
            simp (disch := omega) [wrap64, List.getElem?_eq_getElem, toNat_pred, szR]
            repeat' first | (exfalso; omega) | (refine ⟨fun _ => ?_, fun _ => ?_⟩) | (refine ⟨by omega, ?_⟩) | (intro _)
            all_goals (refine hK _ ?_; clear hK K)
            all_goals
              refine AW_ret (end_s ?_)
              simp (disch := omega) [wrap64, List.getElem?_eq_getElem, toNat_pred, szR, szS]
              all_goals first | omega | (split <;> omega)
        · try simp at hc71
          all_goals
            refine AW_skip ?_
            refine AW_id ?_
            refine AW_seq ?_
            refine AW_r rfl rfl fun K hK => ?_
            simp (disch := omega) [wrap64, List.getElem?_eq_getElem, toNat_pred, szR]
            repeat' first | (exfalso; omega) | (refine ⟨fun _ => ?_, fun _ => ?_⟩) | (refine ⟨by omega, ?_⟩) | (intro _)
            all_goals (refine hK _ ?_; clear hK K)
            all_goals
              refine AW_block ?_
              refine AW_loopS (fun mM sS => ∃ (i : Nat), mM = xs.length - i ∧ (i ≤ xs.length ∧ 0 ≤ n - xs.length - sumZ DtENode.sz (xs.take i)) ∧ sS = { env := lkE [(0, .sl 4 (xs.map DtENode.cells)), (1, (.g (.int .i64 (n - xs.length - sumZ DtENode.sz (xs.take i))))), (5, (.g (.int .i64 ((i : Nat)))))], ob := formOb [] [] }) ?_ ?_
              · refine ⟨_, LeS.kp [(0, .sl 4 (xs.map DtENode.cells)), (1, (.g (.int .i64 (n - xs.length - sumZ DtENode.sz (xs.take (0)))))), (5, (.g (.int .i64 (((0) : Nat)))))] (by simp [KpE, upd_app, lkE_app, lk_cons, sumZ_nil]; try first | rfl | omega), _, 0, rfl, ?_, rfl⟩
                · simp [sumZ_nil]; omega
              · rintro mM sS ⟨i, rfl, ⟨hi, hn⟩, rfl⟩
                have hz := sumZ_nonneg DtENode.sz_nonneg (xs.take i)
                have hz2 := sumZ_take_le DtENode.sz_nonneg xs i
                refine AW_seq ?_
                refine AW_r rfl rfl fun K hK => ?_
                simp (disch := omega) [wrap64, List.getElem?_eq_getElem, toNat_pred, szR, DtENode.cells]
                repeat' first | (exfalso; omega) | (refine ⟨fun _ => ?_, fun _ => ?_⟩) | (refine ⟨by omega, ?_⟩) | (intro _)
                all_goals (refine hK _ ?_; clear hK K)
                all_goals
                  refine AW_cond rfl (fun hc72 => ?_) (fun hc72 => ?_)
                  · try simp at hc72
                    all_goals
                      have hl := sumZ_take (f := DtENode.sz) xs i (by omega)
                      have hwE : DtENode.wf xs[i] := hw.2 _ (List.getElem_mem _)
                      have hz3 := sumZ_take_le DtENode.sz_nonneg xs (i + 1)
                      have hzE := DtENode.sz_nonneg xs[i]
                      have hszR : szR (n - xs.length - sumZ DtENode.sz (xs.take i)) (DtENode.sz xs[i]) = n - xs.length - sumZ DtENode.sz (xs.take (i + 1)) ∨ (szR (n - xs.length - sumZ DtENode.sz (xs.take i)) (DtENode.sz xs[i]) = -1 ∧ n - xs.length - sumZ DtENode.sz (xs.take (i + 1)) < 0) := by unfold szR; split <;> omega
                      refine AW_skip ?_
                      refine AW_id ?_
                      refine AW_seq ?_
                      refine AW_block ?_
                      refine AW_r rfl rfl fun K hK => ?_
                      simp (disch := omega) [wrap64, List.getElem?_eq_getElem, toNat_pred, szR, DtENode.cells]
                      repeat' first | (exfalso; omega) | (refine CKd_v (am2s_cons (am2_agg rfl) (am2s_cons am2_g am2s_nil)) (szENode _ _ (by omega) (by first | exact hwE | exact hw)) rfl ?_; simp (disch := omega) [wrap64, List.getElem?_eq_getElem, toNat_pred, szR, DtENode.cells]) | (refine ⟨fun _ => ?_, fun _ => ?_⟩) | (refine ⟨by omega, ?_⟩) | (intro _)
                      all_goals (refine hK _ ?_; clear hK K)
                      all_goals
                        refine AW_r rfl rfl fun K hK => ?_
                        simp (disch := omega) [wrap64, List.getElem?_eq_getElem, toNat_pred, szR, DtENode.cells]
                        repeat' first | (exfalso; omega) | (refine ⟨fun _ => ?_, fun _ => ?_⟩) | (refine ⟨by omega, ?_⟩) | (intro _)
                        all_goals (refine hK _ ?_; clear hK K)
                        all_goals
                          refine AW_cond rfl (fun hc73 => ?_) (fun hc73 => ?_)
                          · try simp at hc73
                            all_goals
                              refine AW_r rfl rfl fun K hK => ?_
                              simp (disch := omega) [wrap64, List.getElem?_eq_getElem, toNat_pred, szR, DtENode.cells]
                              repeat' first | (exfalso; omega) | (refine ⟨fun _ => ?_, fun _ => ?_⟩) | (refine ⟨by omega, ?_⟩) | (intro _)
                              all_goals (refine hK _ ?_; clear hK K)
                              all_goals
                                refine AW_ret (end_s ?_)
                                simp (disch := omega) [wrap64, List.getElem?_eq_getElem, toNat_pred, szR, DtENode.cells, szS]
                                all_goals first | omega | (split <;> omega)
                          · try simp at hc73
                            all_goals
                              refine AW_skip ?_
                              refine AW_id ?_
                              refine AW_re rfl rfl fun K hK => ?_
                              simp (disch := omega) [wrap64, List.getElem?_eq_getElem, toNat_pred, szR, DtENode.cells]
                              repeat' first | (exfalso; omega) | (refine ⟨fun _ => ?_, fun _ => ?_⟩) | (refine ⟨by omega, ?_⟩) | (intro _)
                              all_goals (refine hK _ ?_; clear hK K)
                              all_goals
                                refine ⟨_, LeS.kp [(0, .sl 4 (xs.map DtENode.cells)), (1, (.g (.int .i64 (n - xs.length - sumZ DtENode.sz (xs.take (i + 1)))))), (5, (.g (.int .i64 (((i + 1) : Nat)))))] (by simp [KpE, upd_app, lkE_app, lk_cons, sumZ_nil]; try first | rfl | omega), _, ?_, i + 1, rfl, ?_, rfl⟩
                                · omega
                                · omega
                  · try simp at hc72
                    all_goals
                      have hi2 : i = xs.length := by omega
                      subst hi2
                      simp only [List.take_length] at *
                      refine AW_exit ?_
                      refine AW_id ?_
                      refine AW_r rfl rfl fun K hK => ?_
                      simp (disch := omega) [wrap64, List.getElem?_eq_getElem, toNat_pred, szR, DtENode.cells]
                      repeat' first | (exfalso; omega) | (refine ⟨fun _ => ?_, fun _ => ?_⟩) | (refine ⟨by omega, ?_⟩) | (intro _)
                      all_goals (refine hK _ ?_; clear hK K)
                      all_goals
                        refine AW_ret (end_s ?_)
                        simp (disch := omega) [wrap64, List.getElem?_eq_getElem, toNat_pred, szR, DtENode.cells, szS]
                        all_goals first | omega | (split <;> omega)
theorem toENodeS (xs : List DtENode) (hs : szS DtENode.sz xs ≤ 1048576) : PCall Tryz.prog 13 [.sl 4 (xs.map DtENode.cells)] (.sl 4 (xs.map DtENode.cells)) := by
  have hn : xs.length ≤ 1048576 := by have := sumZ_nonneg DtENode.sz_nonneg xs; simp only [szS] at hs; omega
  refine gcall_of_walk Tryz.func13 (by rfl) (by rfl) (by rw [Tryz.ntmps13]; exact Nat.le_of_ble_eq_true rfl) rfl (by decide) ?_
  rw [Tryz.ntmps13]
  refine AW_k [(0, _)] ⟨rfl, trivial⟩ ?_
  refine AW_r rfl rfl fun K hK => ?_
  simp (disch := omega) [wrap64, List.getElem?_eq_getElem, toNat_pred]
  repeat' first | (exfalso; omega) | (refine ⟨fun _ => ?_, fun _ => ?_⟩) | (refine ⟨by omega, ?_⟩) | (intro _)
  all_goals (refine hK _ ?_; clear hK K)
  all_goals
    refine AW_r rfl rfl fun K hK => ?_
    simp (disch := omega) [wrap64, List.getElem?_eq_getElem, toNat_pred]
    repeat' first | (exfalso; omega) | (refine ⟨fun _ => ?_, fun _ => ?_⟩) | (refine ⟨by omega, ?_⟩) | (intro _)
    all_goals (refine hK _ ?_; clear hK K)
    all_goals
      refine AW_seq ?_
      refine AW_r rfl rfl fun K hK => ?_
      simp (disch := omega) [wrap64, List.getElem?_eq_getElem, toNat_pred]
      repeat' first | (exfalso; omega) | (refine ⟨fun _ => ?_, fun _ => ?_⟩) | (refine ⟨by omega, ?_⟩) | (intro _)
      all_goals (refine hK _ ?_; clear hK K)
      all_goals
        refine AW_block ?_
        refine AW_loopS (fun mM sS => ∃ (i : Nat) (ys : List (List AV)), mM = xs.length - i ∧ (i ≤ xs.length ∧ ys.length = xs.length ∧ (∀ j, j < i → ys[j]? = (xs.map DtENode.cells)[j]?) ∧ (∀ y ∈ ys, y.length = 4)) ∧ sS = { env := lkE [(0, .sl 4 (xs.map DtENode.cells)), (3, .arr 128 0 xs.length), (4, (.g (.int .i64 ((i : Nat)))))], ob := upd (formOb [] []) 128 (some (.flat 4 ys)) }) ?_ ?_
        · refine ⟨_, LeS.kp [(0, .sl 4 (xs.map DtENode.cells)), (3, .arr 128 0 xs.length), (4, (.g (.int .i64 (((0) : Nat)))))] (by simp [KpE, upd_app, lkE_app, lk_cons]; try rfl), _, 0, List.replicate xs.length [.g (.int .i64 0), .g (.int .i64 0), .g (.slice none 0 0), .g (.slice none 0 0)], rfl, ?_, rfl⟩
          · simp
        · rintro mM sS ⟨i, ys, rfl, ⟨hi, hl, hpre, hone⟩, rfl⟩
          refine AW_seq ?_
          refine AW_r rfl rfl fun K hK => ?_
          simp (disch := omega) [wrap64, List.getElem?_eq_getElem, toNat_pred, DtENode.cells]
          repeat' first | (exfalso; omega) | (refine ⟨fun _ => ?_, fun _ => ?_⟩) | (refine ⟨by omega, ?_⟩) | (intro _)
          all_goals (refine hK _ ?_; clear hK K)
          all_goals
            refine AW_cond rfl (fun hc74 => ?_) (fun hc74 => ?_)
            · try simp at hc74
              all_goals
                obtain ⟨c1, c2, c3, c4, h6⟩ : ∃ c1 c2 c3 c4, ys[i]'(by omega) = [c1, c2, c3, c4] := len4 (hone _ (List.getElem_mem _))
                have hsE : DtENode.sz xs[i] ≤ 1048576 := by have := sumZ_mem_le DtENode.sz_nonneg xs xs[i] (List.getElem_mem _); simp only [szS] at hs; omega
                refine AW_skip ?_
                refine AW_id ?_
                refine AW_seq ?_
                refine AW_block ?_
                refine AW_re rfl rfl fun K hK => ?_
                simp (disch := omega) [wrap64, List.getElem?_eq_getElem, toNat_pred, DtENode.cells, h6]
                repeat' first | (exfalso; omega) | (refine CKd_v (am2s_cons (am2_agg rfl) am2s_nil) (toENode _ (by first | assumption | omega)) rfl ?_; simp (disch := omega) [wrap64, List.getElem?_eq_getElem, toNat_pred, DtENode.cells, h6]) | (refine ⟨fun _ => ?_, fun _ => ?_⟩) | (refine ⟨by omega, ?_⟩) | (intro _)
                all_goals (refine hK _ ?_; clear hK K)
                all_goals
                  refine AW_id ?_
                  refine AW_re rfl rfl fun K hK => ?_
                  simp (disch := omega) [wrap64, List.getElem?_eq_getElem, toNat_pred, DtENode.cells, h6]
                  repeat' first | (exfalso; omega) | (refine ⟨fun _ => ?_, fun _ => ?_⟩) | (refine ⟨by omega, ?_⟩) | (intro _)
                  all_goals (refine hK _ ?_; clear hK K)
                  all_goals
                    refine ⟨_, LeS.kp [(0, .sl 4 (xs.map DtENode.cells)), (3, .arr 128 0 xs.length), (4, (.g (.int .i64 (((i + 1) : Nat)))))] (by simp [KpE, upd_app, lkE_app, lk_cons]; try rfl), _, ?_, i + 1, ys.set i (DtENode.cells xs[i]), rfl, ?_, ?_⟩
                    · omega
                    · refine ⟨by omega, by simpa using hl, fun j hj => ?_, fun y hy => ?_⟩
                      · by_cases hji : j = i
                        · subst hji; rw [List.getElem?_set_self (by omega), List.getElem?_map, List.getElem?_eq_getElem (by omega)]; rfl
                        · rw [List.getElem?_set_ne (by omega)]; exact hpre j (by omega)
                      · rcases List.mem_or_eq_of_mem_set hy with hy | rfl
                        · exact hone y hy
                        · rfl
                    · rfl
            · try simp at hc74
              all_goals
                have hi2 : i = xs.length := by omega
                subst hi2
                have hys : ys = xs.map DtENode.cells := List.ext_getElem? fun j => by
                  by_cases hj : j < xs.length
                  · exact hpre j hj
                  · rw [List.getElem?_eq_none (by omega), List.getElem?_eq_none (by simp; omega)]
                subst hys
                refine AW_exit ?_
                refine AW_id ?_
                refine AW_r rfl rfl fun K hK => ?_
                simp (disch := omega) [wrap64, List.getElem?_eq_getElem, toNat_pred, DtENode.cells]
                repeat' first | (exfalso; omega) | (refine ⟨fun _ => ?_, fun _ => ?_⟩) | (refine ⟨by omega, ?_⟩) | (intro _)
                all_goals (refine hK _ ?_; clear hK K)
                all_goals
                  refine AW_ret (end_s ?_)
                  simp (disch := omega) [wrap64, List.getElem?_eq_getElem, toNat_pred, DtENode.cells]
                  all_goals first | omega | (simp_all; done) | (simp [List.take_of_length_le]; done) | ((try simp_all); (try simp (disch := omega) only [wrap64, Int.tdiv_eq_ediv_of_nonneg, Int.tmod_eq_emod_of_nonneg, and_true, true_and]); done) | ((try simp_all); (try simp (disch := omega) only [wrap64, Int.tdiv_eq_ediv_of_nonneg, Int.tmod_eq_emod_of_nonneg, and_true, true_and] at *); omega)
theorem eqENodeS (xs ys : List DtENode) (hs : szS DtENode.sz xs ≤ 1048576) : PCall Tryz.prog 17 [.sl 4 (xs.map DtENode.cells), .sl 4 (ys.map DtENode.cells)] (.g (.bool (eqB xs ys))) := by
  have hn : xs.length ≤ 1048576 := by have := sumZ_nonneg DtENode.sz_nonneg xs; simp only [szS] at hs; omega
  refine gcall_of_walk Tryz.func17 (by rfl) (by rfl) (by rw [Tryz.ntmps17]; exact Nat.le_of_ble_eq_true rfl) rfl (by decide) ?_
  rw [Tryz.ntmps17]
  refine AW_k [(0, _), (1, _)] ⟨rfl, rfl, trivial⟩ ?_
  refine AW_r rfl rfl fun K hK => ?_
  simp (disch := omega) [wrap64, List.getElem?_eq_getElem, toNat_pred]
  repeat' first | (exfalso; omega) | (refine ⟨fun _ => ?_, fun _ => ?_⟩) | (refine ⟨by omega, ?_⟩) | (intro _)
  all_goals (refine hK _ ?_; clear hK K)
  all_goals
    refine AW_seq ?_
    refine AW_r rfl rfl fun K hK => ?_
    simp (disch := omega) [wrap64, List.getElem?_eq_getElem, toNat_pred]
    repeat' first | (exfalso; omega) | (refine ⟨fun _ => ?_, fun _ => ?_⟩) | (refine ⟨by omega, ?_⟩) | (intro _)
    all_goals (refine hK _ ?_; clear hK K)
    all_goals
      refine AW_cond rfl (fun hc75 => ?_) (fun hc75 => ?_)
      · try simp at hc75
        all_goals
          refine AW_r rfl rfl fun K hK => ?_
          simp (disch := omega) [wrap64, List.getElem?_eq_getElem, toNat_pred]
          repeat' first | (exfalso; omega) | (refine ⟨fun _ => ?_, fun _ => ?_⟩) | (refine ⟨by omega, ?_⟩) | (intro _)
          all_goals (refine hK _ ?_; clear hK K)
          all_goals
            refine AW_ret (end_s ?_)
            simp (disch := omega) [wrap64, List.getElem?_eq_getElem, toNat_pred]
            all_goals first | (exact eqB_of heq) | (refine eqB_ne fun heq => ?_; subst heq; simp_all [eqB_true, eqB_false, eqB_self]; done) | (refine (eqB_ne fun heq => ?_).symm; subst heq; simp_all [eqB_true, eqB_false, eqB_self]; done) | simp_all [eqB_self]
      · try simp at hc75
        all_goals
          refine AW_skip ?_
          refine AW_id ?_
          refine AW_seq ?_
          refine AW_r rfl rfl fun K hK => ?_
          simp (disch := omega) [wrap64, List.getElem?_eq_getElem, toNat_pred]
          repeat' first | (exfalso; omega) | (refine ⟨fun _ => ?_, fun _ => ?_⟩) | (refine ⟨by omega, ?_⟩) | (intro _)
          all_goals (refine hK _ ?_; clear hK K)
          all_goals
            refine AW_block ?_
            refine AW_loopS (fun mM sS => ∃ (i : Nat), mM = xs.length - i ∧ (i ≤ xs.length ∧ ∀ j, j < i → xs[j]? = ys[j]?) ∧ sS = { env := lkE [(0, .sl 4 (xs.map DtENode.cells)), (1, .sl 4 (ys.map DtENode.cells)), (5, (.g (.int .i64 ((i : Nat)))))], ob := formOb [] [] }) ?_ ?_
            · refine ⟨_, LeS.kp [(0, .sl 4 (xs.map DtENode.cells)), (1, .sl 4 (ys.map DtENode.cells)), (5, (.g (.int .i64 (((0) : Nat)))))] (by simp [KpE, upd_app, lkE_app, lk_cons]; try rfl), _, 0, rfl, ?_, rfl⟩
              · simp
            · rintro mM sS ⟨i, rfl, ⟨hi, hpre⟩, rfl⟩
              refine AW_seq ?_
              refine AW_r rfl rfl fun K hK => ?_
              simp (disch := omega) [wrap64, List.getElem?_eq_getElem, toNat_pred, DtENode.cells]
              repeat' first | (exfalso; omega) | (refine ⟨fun _ => ?_, fun _ => ?_⟩) | (refine ⟨by omega, ?_⟩) | (intro _)
              all_goals (refine hK _ ?_; clear hK K)
              all_goals
                refine AW_cond rfl (fun hc76 => ?_) (fun hc76 => ?_)
                · try simp at hc76
                  all_goals
                    have h7 : i < ys.length := by omega
                    have hsE : DtENode.sz xs[i] ≤ 1048576 := by have := sumZ_mem_le DtENode.sz_nonneg xs xs[i] (List.getElem_mem _); simp only [szS] at hs; omega
                    refine AW_skip ?_
                    refine AW_id ?_
                    refine AW_seq ?_
                    refine AW_block ?_
                    refine AW_q rfl mix (by kernel_rfl) rfl fun K hK => ?_
                    simp (disch := omega) [wrap64, List.getElem?_eq_getElem, toNat_pred, DtENode.cells]
                    repeat' first | (exfalso; omega) | (refine CKd_v (am2s_cons (am2_agg rfl) (am2s_cons (am2_agg rfl) am2s_nil)) (eqENode _ _ (by first | assumption | omega)) rfl ?_; simp (disch := omega) [wrap64, List.getElem?_eq_getElem, toNat_pred, DtENode.cells]) | (refine ⟨fun _ => ?_, fun _ => ?_⟩) | (refine ⟨by omega, ?_⟩) | (intro _)
                    all_goals (refine hK _ ?_; clear hK K)
                    all_goals
                      refine AW_cond rfl (fun hc77 => ?_) (fun hc77 => ?_)
                      · try simp at hc77
                        all_goals
                          refine AW_r rfl rfl fun K hK => ?_
                          simp (disch := omega) [wrap64, List.getElem?_eq_getElem, toNat_pred, DtENode.cells]
                          repeat' first | (exfalso; omega) | (refine ⟨fun _ => ?_, fun _ => ?_⟩) | (refine ⟨by omega, ?_⟩) | (intro _)
                          all_goals (refine hK _ ?_; clear hK K)
                          all_goals
                            refine AW_ret (end_s ?_)
                            simp (disch := omega) [wrap64, List.getElem?_eq_getElem, toNat_pred, DtENode.cells]
                            all_goals first | (exact eqB_of heq) | (refine eqB_ne fun heq => ?_; subst heq; simp_all [eqB_true, eqB_false, eqB_self]; done) | (refine (eqB_ne fun heq => ?_).symm; subst heq; simp_all [eqB_true, eqB_false, eqB_self]; done) | simp_all [eqB_self]
                      · try simp at hc77
                        all_goals
                          refine AW_skip ?_
                          refine AW_id ?_
                          refine AW_re rfl rfl fun K hK => ?_
                          simp (disch := omega) [wrap64, List.getElem?_eq_getElem, toNat_pred, DtENode.cells]
                          repeat' first | (exfalso; omega) | (refine ⟨fun _ => ?_, fun _ => ?_⟩) | (refine ⟨by omega, ?_⟩) | (intro _)
                          all_goals (refine hK _ ?_; clear hK K)
                          all_goals
                            refine ⟨_, LeS.kp [(0, .sl 4 (xs.map DtENode.cells)), (1, .sl 4 (ys.map DtENode.cells)), (5, (.g (.int .i64 (((i + 1) : Nat)))))] (by simp [KpE, upd_app, lkE_app, lk_cons]; try rfl), _, ?_, i + 1, rfl, ?_, rfl⟩
                            · omega
                            · refine ⟨by omega, fun j hj => ?_⟩
                              by_cases hji : j = i
                              · subst hji; simp_all [eqB_true, eqB_false]
                              · exact hpre j (by omega)
                · try simp at hc76
                  all_goals
                    have hi2 : i = xs.length := by omega
                    subst hi2
                    have heq : xs = ys := List.ext_getElem? fun j => by
                      by_cases hj : j < xs.length
                      · exact hpre j hj
                      · rw [List.getElem?_eq_none (by omega), List.getElem?_eq_none (by omega)]
                    refine AW_exit ?_
                    refine AW_id ?_
                    refine AW_r rfl rfl fun K hK => ?_
                    simp (disch := omega) [wrap64, List.getElem?_eq_getElem, toNat_pred, DtENode.cells]
                    repeat' first | (exfalso; omega) | (refine ⟨fun _ => ?_, fun _ => ?_⟩) | (refine ⟨by omega, ?_⟩) | (intro _)
                    all_goals (refine hK _ ?_; clear hK K)
                    all_goals
                      refine AW_ret (end_s ?_)
                      simp (disch := omega) [wrap64, List.getElem?_eq_getElem, toNat_pred, DtENode.cells]
                      all_goals first | (exact eqB_of heq) | (refine eqB_ne fun heq => ?_; subst heq; simp_all [eqB_true, eqB_false, eqB_self]; done) | (refine (eqB_ne fun heq => ?_).symm; subst heq; simp_all [eqB_true, eqB_false, eqB_self]; done) | simp_all [eqB_self]
theorem szEMsg (u : DtEMsg) (n : Int) (hn : 0 ≤ n ∧ n ≤ 1048576) (hw : DtEMsg.wf u) : PCall Tryz.prog 20 [.agg (DtEMsg.cells u), (.g (.int .i64 (n)))] (.g (.int .i64 (szR n (DtEMsg.sz u)))) := by
  have ⟨w0, w1, w2, w3, w4, w5, w6, w7, w8, w9, w10⟩ := hw
  have z5 := DtCmd.sz_nonneg u.fCmd
  have w72 := w7.1
  refine gcall_of_walk Tryz.func20 (by rfl) (by rfl) (by rw [Tryz.ntmps20]; exact Nat.le_of_ble_eq_true rfl) rfl (by decide) ?_
  rw [Tryz.ntmps20]
  refine AW_k [(0, _), (1, _)] ⟨rfl, rfl, trivial⟩ ?_
  refine AW_r rfl rfl fun K hK => ?_
  simp (disch := omega) [wrap64, List.getElem?_eq_getElem, toNat_pred, szR, DtEMsg.cells]
  repeat' first | (exfalso; omega) | (refine ⟨fun _ => ?_, fun _ => ?_⟩) | (refine ⟨by omega, ?_⟩) | (intro _)
  all_goals (refine hK _ ?_; clear hK K)
  all_goals
    refine AW_r rfl rfl fun K hK => ?_
    simp (disch := omega) [wrap64, List.getElem?_eq_getElem, toNat_pred, szR, DtEMsg.cells]
    repeat' first | (exfalso; omega) | (refine CKd_v (am2s_cons (am2_agg rfl) (am2s_cons am2_g am2s_nil)) (szCmd _ _ (by omega) (by assumption)) rfl ?_; simp (disch := omega) [wrap64, List.getElem?_eq_getElem, toNat_pred, szR, DtEMsg.cells]) | (refine ⟨fun _ => ?_, fun _ => ?_⟩) | (refine ⟨by omega, ?_⟩) | (intro _)
    all_goals (refine hK _ ?_; clear hK K)
    all_goals
      refine AW_seq ?_
      refine AW_r rfl rfl fun K hK => ?_
      simp (disch := omega) [wrap64, List.getElem?_eq_getElem, toNat_pred, szR, DtEMsg.cells]
      repeat' first | (exfalso; omega) | (refine ⟨fun _ => ?_, fun _ => ?_⟩) | (refine ⟨by omega, ?_⟩) | (intro _)
      all_goals (refine hK _ ?_; clear hK K)
      all_goals
        refine AW_cond rfl (fun hc78 => ?_) (fun hc78 => ?_)
        · try simp at hc78
          all_goals
            refine AW_r rfl rfl fun K hK => ?_
            simp (disch := omega) [wrap64, List.getElem?_eq_getElem, toNat_pred, szR, DtEMsg.cells]
            repeat' first | (exfalso; omega) | (refine ⟨fun _ => ?_, fun _ => ?_⟩) | (refine ⟨by omega, ?_⟩) | (intro _)
            all_goals (refine hK _ ?_; clear hK K)
            all_goals
              refine AW_ret (end_s ?_)
              simp (disch := omega) [wrap64, List.getElem?_eq_getElem, toNat_pred, szR, DtEMsg.cells, DtEMsg.sz]
              all_goals first | omega | (simp_all; done) | (split <;> omega) | (split <;> simp_all <;> omega) | (simp_all [szR]; omega)
        · try simp at hc78
          all_goals
            refine AW_skip ?_
            refine AW_id ?_
            refine AW_r rfl rfl fun K hK => ?_
            simp (disch := omega) [wrap64, List.getElem?_eq_getElem, toNat_pred, szR, DtEMsg.cells]
            repeat' first | (exfalso; omega) | (refine CKd_v (am2s_cons am2_sl (am2s_cons am2_g am2s_nil)) (szIdS _ _ (by omega) (by assumption)) rfl ?_; simp (disch := omega) [wrap64, List.getElem?_eq_getElem, toNat_pred, szR, DtEMsg.cells]) | (refine ⟨fun _ => ?_, fun _ => ?_⟩) | (refine ⟨by omega, ?_⟩) | (intro _)
            all_goals (refine hK _ ?_; clear hK K)
            all_goals
              refine AW_seq ?_
              refine AW_r rfl rfl fun K hK => ?_
              simp (disch := omega) [wrap64, List.getElem?_eq_getElem, toNat_pred, szR, DtEMsg.cells]
              repeat' first | (exfalso; omega) | (refine ⟨fun _ => ?_, fun _ => ?_⟩) | (refine ⟨by omega, ?_⟩) | (intro _)
              all_goals (refine hK _ ?_; clear hK K)
              all_goals
                refine AW_cond rfl (fun hc79 => ?_) (fun hc79 => ?_)
                · try simp at hc79
                  all_goals
                    refine AW_r rfl rfl fun K hK => ?_
                    simp (disch := omega) [wrap64, List.getElem?_eq_getElem, toNat_pred, szR, DtEMsg.cells]
                    repeat' first | (exfalso; omega) | (refine ⟨fun _ => ?_, fun _ => ?_⟩) | (refine ⟨by omega, ?_⟩) | (intro _)
                    all_goals (refine hK _ ?_; clear hK K)
                    all_goals
                      refine AW_ret (end_s ?_)
                      simp (disch := omega) [wrap64, List.getElem?_eq_getElem, toNat_pred, szR, DtEMsg.cells, DtEMsg.sz]
                      all_goals first | omega | (simp_all; done) | (split <;> omega) | (split <;> simp_all <;> omega) | (simp_all [szR]; omega)
                · try simp at hc79
                  all_goals
                    refine AW_skip ?_
                    refine AW_id ?_
                    refine AW_r rfl rfl fun K hK => ?_
                    simp (disch := omega) [wrap64, List.getElem?_eq_getElem, toNat_pred, szR, DtEMsg.cells]
                    repeat' first | (exfalso; omega) | (refine ⟨fun _ => ?_, fun _ => ?_⟩) | (refine ⟨by omega, ?_⟩) | (intro _)
                    all_goals (refine hK _ ?_; clear hK K)
                    all_goals
                      refine AW_ret (end_s ?_)
                      simp (disch := omega) [wrap64, List.getElem?_eq_getElem, toNat_pred, szR, DtEMsg.cells, DtEMsg.sz]
                      all_goals first | omega | (simp_all; done) | (split <;> omega) | (split <;> simp_all <;> omega) | (simp_all [szR]; omega)
theorem toEMsg (u : DtEMsg) (hs : DtEMsg.sz u ≤ 1048576) : PCall Tryz.prog 25 [.agg (DtEMsg.cells u)] (.agg (DtEMsg.cells u)) := by
  simp only [DtEMsg.sz] at hs
  have z5 := DtCmd.sz_nonneg u.fCmd
  have s5 : DtCmd.sz u.fCmd ≤ 1048576 := by omega
  have s7 : (u.fDeps.length : Int) ≤ 1048576 := by omega
  refine gcall_of_walk Tryz.func25 (by rfl) (by rfl) (by rw [Tryz.ntmps25]; exact Nat.le_of_ble_eq_true rfl) rfl (by decide) ?_
  rw [Tryz.ntmps25]
  refine AW_k [(0, _)] ⟨rfl, trivial⟩ ?_
  refine AW_r rfl rfl fun K hK => ?_
  simp [DtEMsg.cells, DtId.cells, DtCmd.cells]
  repeat' first | (refine ⟨fun _ => ?_, fun _ => ?_⟩) | (refine ⟨by omega, ?_⟩) | (intro _)
  all_goals (refine hK _ ?_; clear hK K)
  all_goals
    refine AW_r rfl rfl fun K hK => ?_
    simp [DtEMsg.cells, DtId.cells, DtCmd.cells]
    repeat' first | (refine ⟨fun _ => ?_, fun _ => ?_⟩) | (refine ⟨by omega, ?_⟩) | (intro _)
    all_goals (refine hK _ ?_; clear hK K)
    all_goals
      refine AW_r rfl rfl fun K hK => ?_
      simp [DtEMsg.cells, DtId.cells, DtCmd.cells]
      repeat' first | (refine ⟨fun _ => ?_, fun _ => ?_⟩) | (refine ⟨by omega, ?_⟩) | (intro _)
      all_goals (refine hK _ ?_; clear hK K)
      all_goals
        refine AW_r rfl rfl fun K hK => ?_
        simp [DtEMsg.cells, DtId.cells, DtCmd.cells]
        repeat' first | (refine ⟨fun _ => ?_, fun _ => ?_⟩) | (refine ⟨by omega, ?_⟩) | (intro _)
        all_goals (refine hK _ ?_; clear hK K)
        all_goals
          refine AW_r rfl rfl fun K hK => ?_
          simp [DtEMsg.cells, DtId.cells, DtCmd.cells]
          repeat' first | (refine ⟨fun _ => ?_, fun _ => ?_⟩) | (refine ⟨by omega, ?_⟩) | (intro _)
          all_goals (refine hK _ ?_; clear hK K)
          all_goals
            refine AW_r rfl rfl fun K hK => ?_
            simp [DtEMsg.cells, DtId.cells, DtCmd.cells]
            repeat' first | (refine CKd_v (am2s_cons (am2_agg rfl) am2s_nil) (toId _) rfl ?_; simp [DtEMsg.cells, DtId.cells, DtCmd.cells]) | (refine ⟨fun _ => ?_, fun _ => ?_⟩) | (refine ⟨by omega, ?_⟩) | (intro _)
            all_goals (refine hK _ ?_; clear hK K)
            all_goals
              refine AW_r rfl rfl fun K hK => ?_
              simp [DtEMsg.cells, DtId.cells, DtCmd.cells]
              repeat' first | (refine ⟨fun _ => ?_, fun _ => ?_⟩) | (refine ⟨by omega, ?_⟩) | (intro _)
              all_goals (refine hK _ ?_; clear hK K)
              all_goals
                refine AW_r rfl rfl fun K hK => ?_
                simp [DtEMsg.cells, DtId.cells, DtCmd.cells]
                repeat' first | (refine CKd_v (am2s_cons (am2_agg rfl) am2s_nil) (toCmd _ (by first | assumption | omega)) rfl ?_; simp [DtEMsg.cells, DtId.cells, DtCmd.cells]) | (refine ⟨fun _ => ?_, fun _ => ?_⟩) | (refine ⟨by omega, ?_⟩) | (intro _)
                all_goals (refine hK _ ?_; clear hK K)
                all_goals
                  refine AW_r rfl rfl fun K hK => ?_
                  simp [DtEMsg.cells, DtId.cells, DtCmd.cells]
                  repeat' first | (refine ⟨fun _ => ?_, fun _ => ?_⟩) | (refine ⟨by omega, ?_⟩) | (intro _)
                  all_goals (refine hK _ ?_; clear hK K)
                  all_goals
                    refine AW_r rfl rfl fun K hK => ?_
                    simp [DtEMsg.cells, DtId.cells, DtCmd.cells]
                    repeat' first | (refine CKd_v (am2s_cons am2_sl am2s_nil) (toIdS _ (by first | assumption | omega)) rfl ?_; simp [DtEMsg.cells, DtId.cells, DtCmd.cells]) | (refine ⟨fun _ => ?_, fun _ => ?_⟩) | (refine ⟨by omega, ?_⟩) | (intro _)
                    all_goals (refine hK _ ?_; clear hK K)
                    all_goals
                      refine AW_r rfl rfl fun K hK => ?_
                      simp [DtEMsg.cells, DtId.cells, DtCmd.cells]
                      repeat' first | (refine ⟨fun _ => ?_, fun _ => ?_⟩) | (refine ⟨by omega, ?_⟩) | (intro _)
                      all_goals (refine hK _ ?_; clear hK K)
                      all_goals
                        refine AW_r rfl rfl fun K hK => ?_
                        simp [DtEMsg.cells, DtId.cells, DtCmd.cells]
                        repeat' first | (refine ⟨fun _ => ?_, fun _ => ?_⟩) | (refine ⟨by omega, ?_⟩) | (intro _)
                        all_goals (refine hK _ ?_; clear hK K)
                        all_goals
                          refine AW_r rfl rfl fun K hK => ?_
                          simp [DtEMsg.cells, DtId.cells, DtCmd.cells]
                          repeat' first | (refine ⟨fun _ => ?_, fun _ => ?_⟩) | (refine ⟨by omega, ?_⟩) | (intro _)
                          all_goals (refine hK _ ?_; clear hK K)
                          all_goals
                            refine AW_r rfl rfl fun K hK => ?_
                            simp [DtEMsg.cells, DtId.cells, DtCmd.cells]
                            repeat' first | (refine ⟨fun _ => ?_, fun _ => ?_⟩) | (refine ⟨by omega, ?_⟩) | (intro _)
                            all_goals (refine hK _ ?_; clear hK K)
                            all_goals
                              refine AW_ret (end_s ?_)
                              simp [DtEMsg.cells, DtId.cells, DtCmd.cells]
                              all_goals first | omega | (simp_all; done) | (simp [List.take_of_length_le]; done) | ((try simp_all); (try simp (disch := omega) only [wrap64, Int.tdiv_eq_ediv_of_nonneg, Int.tmod_eq_emod_of_nonneg, and_true, true_and]); done) | ((try simp_all); (try simp (disch := omega) only [wrap64, Int.tdiv_eq_ediv_of_nonneg, Int.tmod_eq_emod_of_nonneg, and_true, true_and] at *); omega)
theorem eqEMsg (u v : DtEMsg) (hs : DtEMsg.sz u ≤ 1048576) : PCall Tryz.prog 32 [.agg (DtEMsg.cells u), .agg (DtEMsg.cells v)] (.g (.bool (eqB u v))) := by
  simp only [DtEMsg.sz] at hs
  have z5 := DtCmd.sz_nonneg u.fCmd
  have s5 : DtCmd.sz u.fCmd ≤ 1048576 := by omega
  have s7 : (u.fDeps.length : Int) ≤ 1048576 := by omega
  have he := DtEMsg.ext_iff u v
  refine gcall_of_walk Tryz.func32 (by rfl) (by rfl) (by rw [Tryz.ntmps32]; exact Nat.le_of_ble_eq_true rfl) rfl (by decide) ?_
  rw [Tryz.ntmps32]
  refine AW_k [(0, _), (1, _)] ⟨rfl, rfl, trivial⟩ ?_
  refine AW_r rfl rfl fun K hK => ?_
  simp [DtEMsg.cells, DtId.cells, DtCmd.cells]
  repeat' first | (refine ⟨fun _ => ?_, fun _ => ?_⟩) | (refine ⟨by omega, ?_⟩) | (intro _)
  all_goals (refine hK _ ?_; clear hK K)
  all_goals
    refine AW_seq ?_
    refine AW_r rfl rfl fun K hK => ?_
    simp [DtEMsg.cells, DtId.cells, DtCmd.cells]
    repeat' first | (refine ⟨fun _ => ?_, fun _ => ?_⟩) | (refine ⟨by omega, ?_⟩) | (intro _)
    all_goals (refine hK _ ?_; clear hK K)
    all_goals
      refine AW_cond rfl (fun hc80 => ?_) (fun hc80 => ?_)
      · try simp at hc80
        all_goals
          refine AW_r rfl rfl fun K hK => ?_
          simp [DtEMsg.cells, DtId.cells, DtCmd.cells]
          repeat' first | (refine ⟨fun _ => ?_, fun _ => ?_⟩) | (refine ⟨by omega, ?_⟩) | (intro _)
          all_goals (refine hK _ ?_; clear hK K)
          all_goals
            refine AW_ret (end_s ?_)
            simp [DtEMsg.cells, DtId.cells, DtCmd.cells]
            all_goals first | (refine eqB_of (he.mpr ?_); simp_all [eqB_true, eqB_false]; done) | (refine eqB_ne fun h => ?_; rw [he] at h; simp_all [eqB_true, eqB_false, eqB_self]; done) | (refine (eqB_of (he.mpr ?_)).symm; simp_all [eqB_true, eqB_false]; done) | (refine (eqB_ne fun h => ?_).symm; rw [he] at h; simp_all [eqB_true, eqB_false, eqB_self]; done)
      · try simp at hc80
        all_goals
          refine AW_skip ?_
          refine AW_id ?_
          refine AW_seq ?_
          refine AW_r rfl rfl fun K hK => ?_
          simp [DtEMsg.cells, DtId.cells, DtCmd.cells]
          repeat' first | (refine ⟨fun _ => ?_, fun _ => ?_⟩) | (refine ⟨by omega, ?_⟩) | (intro _)
          all_goals (refine hK _ ?_; clear hK K)
          all_goals
            refine AW_cond rfl (fun hc81 => ?_) (fun hc81 => ?_)
            · try simp at hc81
              all_goals
                refine AW_r rfl rfl fun K hK => ?_
                simp [DtEMsg.cells, DtId.cells, DtCmd.cells]
                repeat' first | (refine ⟨fun _ => ?_, fun _ => ?_⟩) | (refine ⟨by omega, ?_⟩) | (intro _)
                all_goals (refine hK _ ?_; clear hK K)
                all_goals
                  refine AW_ret (end_s ?_)
                  simp [DtEMsg.cells, DtId.cells, DtCmd.cells]
                  all_goals first | (refine eqB_of (he.mpr ?_); simp_all [eqB_true, eqB_false]; done) | (refine eqB_ne fun h => ?_; rw [he] at h; simp_all [eqB_true, eqB_false, eqB_self]; done) | (refine (eqB_of (he.mpr ?_)).symm; simp_all [eqB_true, eqB_false]; done) | (refine (eqB_ne fun h => ?_).symm; rw [he] at h; simp_all [eqB_true, eqB_false, eqB_self]; done)
            · try simp at hc81
              all_goals
                refine AW_skip ?_
                refine AW_id ?_
                refine AW_seq ?_
                refine AW_r rfl rfl fun K hK => ?_
                simp [DtEMsg.cells, DtId.cells, DtCmd.cells]
                repeat' first | (refine ⟨fun _ => ?_, fun _ => ?_⟩) | (refine ⟨by omega, ?_⟩) | (intro _)
                all_goals (refine hK _ ?_; clear hK K)
                all_goals
                  refine AW_cond rfl (fun hc82 => ?_) (fun hc82 => ?_)
                  · try simp at hc82
                    all_goals
                      refine AW_r rfl rfl fun K hK => ?_
                      simp [DtEMsg.cells, DtId.cells, DtCmd.cells]
                      repeat' first | (refine ⟨fun _ => ?_, fun _ => ?_⟩) | (refine ⟨by omega, ?_⟩) | (intro _)
                      all_goals (refine hK _ ?_; clear hK K)
                      all_goals
                        refine AW_ret (end_s ?_)
                        simp [DtEMsg.cells, DtId.cells, DtCmd.cells]
                        all_goals first | (refine eqB_of (he.mpr ?_); simp_all [eqB_true, eqB_false]; done) | (refine eqB_ne fun h => ?_; rw [he] at h; simp_all [eqB_true, eqB_false, eqB_self]; done) | (refine (eqB_of (he.mpr ?_)).symm; simp_all [eqB_true, eqB_false]; done) | (refine (eqB_ne fun h => ?_).symm; rw [he] at h; simp_all [eqB_true, eqB_false, eqB_self]; done)
                  · try simp at hc82
                    all_goals
                      refine AW_skip ?_
                      refine AW_id ?_
                      refine AW_seq ?_
                      refine AW_r rfl rfl fun K hK => ?_
                      simp [DtEMsg.cells, DtId.cells, DtCmd.cells]
                      repeat' first | (refine CKd_v (am2s_cons (am2_agg rfl) (am2s_cons (am2_agg rfl) am2s_nil)) (eqId _ _) rfl ?_; simp [DtEMsg.cells, DtId.cells, DtCmd.cells]) | (refine ⟨fun _ => ?_, fun _ => ?_⟩) | (refine ⟨by omega, ?_⟩) | (intro _)
                      all_goals (refine hK _ ?_; clear hK K)
                      all_goals
                        refine AW_cond rfl (fun hc83 => ?_) (fun hc83 => ?_)
                        · try simp at hc83
                          all_goals
                            refine AW_r rfl rfl fun K hK => ?_
                            simp [DtEMsg.cells, DtId.cells, DtCmd.cells]
                            repeat' first | (refine ⟨fun _ => ?_, fun _ => ?_⟩) | (refine ⟨by omega, ?_⟩) | (intro _)
                            all_goals (refine hK _ ?_; clear hK K)
                            all_goals
                              refine AW_ret (end_s ?_)
                              simp [DtEMsg.cells, DtId.cells, DtCmd.cells]
                              all_goals first | (refine eqB_of (he.mpr ?_); simp_all [eqB_true, eqB_false]; done) | (refine eqB_ne fun h => ?_; rw [he] at h; simp_all [eqB_true, eqB_false, eqB_self]; done) | (refine (eqB_of (he.mpr ?_)).symm; simp_all [eqB_true, eqB_false]; done) | (refine (eqB_ne fun h => ?_).symm; rw [he] at h; simp_all [eqB_true, eqB_false, eqB_self]; done)
                        · try simp at hc83
                          all_goals
                            refine AW_skip ?_
                            refine AW_id ?_
                            refine AW_seq ?_
                            refine AW_r rfl rfl fun K hK => ?_
                            simp [DtEMsg.cells, DtId.cells, DtCmd.cells]
                            repeat' first | (refine ⟨fun _ => ?_, fun _ => ?_⟩) | (refine ⟨by omega, ?_⟩) | (intro _)
                            all_goals (refine hK _ ?_; clear hK K)
                            all_goals
                              refine AW_cond rfl (fun hc84 => ?_) (fun hc84 => ?_)
                              · try simp at hc84
                                all_goals
                                  refine AW_r rfl rfl fun K hK => ?_
                                  simp [DtEMsg.cells, DtId.cells, DtCmd.cells]
                                  repeat' first | (refine ⟨fun _ => ?_, fun _ => ?_⟩) | (refine ⟨by omega, ?_⟩) | (intro _)
                                  all_goals (refine hK _ ?_; clear hK K)
                                  all_goals
                                    refine AW_ret (end_s ?_)
                                    simp [DtEMsg.cells, DtId.cells, DtCmd.cells]
                                    all_goals first | (refine eqB_of (he.mpr ?_); simp_all [eqB_true, eqB_false]; done) | (refine eqB_ne fun h => ?_; rw [he] at h; simp_all [eqB_true, eqB_false, eqB_self]; done) | (refine (eqB_of (he.mpr ?_)).symm; simp_all [eqB_true, eqB_false]; done) | (refine (eqB_ne fun h => ?_).symm; rw [he] at h; simp_all [eqB_true, eqB_false, eqB_self]; done)
                              · try simp at hc84
                                all_goals
                                  refine AW_skip ?_
                                  refine AW_id ?_
                                  refine AW_seq ?_
                                  refine AW_r rfl rfl fun K hK => ?_
                                  simp [DtEMsg.cells, DtId.cells, DtCmd.cells]
                                  repeat' first | (refine CKd_v (am2s_cons (am2_agg rfl) (am2s_cons (am2_agg rfl) am2s_nil)) (eqCmd _ _ (by first | assumption | omega)) rfl ?_; simp [DtEMsg.cells, DtId.cells, DtCmd.cells]) | (refine ⟨fun _ => ?_, fun _ => ?_⟩) | (refine ⟨by omega, ?_⟩) | (intro _)
                                  all_goals (refine hK _ ?_; clear hK K)
                                  all_goals
                                    refine AW_cond rfl (fun hc85 => ?_) (fun hc85 => ?_)
                                    · try simp at hc85
                                      all_goals
                                        refine AW_r rfl rfl fun K hK => ?_
                                        simp [DtEMsg.cells, DtId.cells, DtCmd.cells]
                                        repeat' first | (refine ⟨fun _ => ?_, fun _ => ?_⟩) | (refine ⟨by omega, ?_⟩) | (intro _)
                                        all_goals (refine hK _ ?_; clear hK K)
                                        all_goals
                                          refine AW_ret (end_s ?_)
                                          simp [DtEMsg.cells, DtId.cells, DtCmd.cells]
                                          all_goals first | (refine eqB_of (he.mpr ?_); simp_all [eqB_true, eqB_false]; done) | (refine eqB_ne fun h => ?_; rw [he] at h; simp_all [eqB_true, eqB_false, eqB_self]; done) | (refine (eqB_of (he.mpr ?_)).symm; simp_all [eqB_true, eqB_false]; done) | (refine (eqB_ne fun h => ?_).symm; rw [he] at h; simp_all [eqB_true, eqB_false, eqB_self]; done)
                                    · try simp at hc85
                                      all_goals
                                        refine AW_skip ?_
                                        refine AW_id ?_
                                        refine AW_seq ?_
                                        refine AW_r rfl rfl fun K hK => ?_
                                        simp [DtEMsg.cells, DtId.cells, DtCmd.cells]
                                        repeat' first | (refine ⟨fun _ => ?_, fun _ => ?_⟩) | (refine ⟨by omega, ?_⟩) | (intro _)
                                        all_goals (refine hK _ ?_; clear hK K)
                                        all_goals
                                          refine AW_cond rfl (fun hc86 => ?_) (fun hc86 => ?_)
                                          · try simp at hc86
                                            all_goals
                                              refine AW_r rfl rfl fun K hK => ?_
                                              simp [DtEMsg.cells, DtId.cells, DtCmd.cells]
                                              repeat' first | (refine ⟨fun _ => ?_, fun _ => ?_⟩) | (refine ⟨by omega, ?_⟩) | (intro _)
                                              all_goals (refine hK _ ?_; clear hK K)
                                              all_goals
                                                refine AW_ret (end_s ?_)
                                                simp [DtEMsg.cells, DtId.cells, DtCmd.cells]
                                                all_goals first | (refine eqB_of (he.mpr ?_); simp_all [eqB_true, eqB_false]; done) | (refine eqB_ne fun h => ?_; rw [he] at h; simp_all [eqB_true, eqB_false, eqB_self]; done) | (refine (eqB_of (he.mpr ?_)).symm; simp_all [eqB_true, eqB_false]; done) | (refine (eqB_ne fun h => ?_).symm; rw [he] at h; simp_all [eqB_true, eqB_false, eqB_self]; done)
                                          · try simp at hc86
                                            all_goals
                                              refine AW_skip ?_
                                              refine AW_id ?_
                                              refine AW_seq ?_
                                              refine AW_r rfl rfl fun K hK => ?_
                                              simp [DtEMsg.cells, DtId.cells, DtCmd.cells]
                                              repeat' first | (refine CKd_v (am2s_cons am2_sl (am2s_cons am2_sl am2s_nil)) (eqIdS _ _ (by first | assumption | omega)) rfl ?_; simp [DtEMsg.cells, DtId.cells, DtCmd.cells]) | (refine ⟨fun _ => ?_, fun _ => ?_⟩) | (refine ⟨by omega, ?_⟩) | (intro _)
                                              all_goals (refine hK _ ?_; clear hK K)
                                              all_goals
                                                refine AW_cond rfl (fun hc87 => ?_) (fun hc87 => ?_)
                                                · try simp at hc87
                                                  all_goals
                                                    refine AW_r rfl rfl fun K hK => ?_
                                                    simp [DtEMsg.cells, DtId.cells, DtCmd.cells]
                                                    repeat' first | (refine ⟨fun _ => ?_, fun _ => ?_⟩) | (refine ⟨by omega, ?_⟩) | (intro _)
                                                    all_goals (refine hK _ ?_; clear hK K)
                                                    all_goals
                                                      refine AW_ret (end_s ?_)
                                                      simp [DtEMsg.cells, DtId.cells, DtCmd.cells]
                                                      all_goals first | (refine eqB_of (he.mpr ?_); simp_all [eqB_true, eqB_false]; done) | (refine eqB_ne fun h => ?_; rw [he] at h; simp_all [eqB_true, eqB_false, eqB_self]; done) | (refine (eqB_of (he.mpr ?_)).symm; simp_all [eqB_true, eqB_false]; done) | (refine (eqB_ne fun h => ?_).symm; rw [he] at h; simp_all [eqB_true, eqB_false, eqB_self]; done)
                                                · try simp at hc87
                                                  all_goals
                                                    refine AW_skip ?_
                                                    refine AW_id ?_
                                                    refine AW_seq ?_
                                                    refine AW_r rfl rfl fun K hK => ?_
                                                    simp [DtEMsg.cells, DtId.cells, DtCmd.cells]
                                                    repeat' first | (refine ⟨fun _ => ?_, fun _ => ?_⟩) | (refine ⟨by omega, ?_⟩) | (intro _)
                                                    all_goals (refine hK _ ?_; clear hK K)
                                                    all_goals
                                                      refine AW_cond rfl (fun hc88 => ?_) (fun hc88 => ?_)
                                                      · try simp at hc88
                                                        all_goals
                                                          refine AW_r rfl rfl fun K hK => ?_
                                                          simp [DtEMsg.cells, DtId.cells, DtCmd.cells]
                                                          repeat' first | (refine ⟨fun _ => ?_, fun _ => ?_⟩) | (refine ⟨by omega, ?_⟩) | (intro _)
                                                          all_goals (refine hK _ ?_; clear hK K)
                                                          all_goals
                                                            refine AW_ret (end_s ?_)
                                                            simp [DtEMsg.cells, DtId.cells, DtCmd.cells]
                                                            all_goals first | (refine eqB_of (he.mpr ?_); simp_all [eqB_true, eqB_false]; done) | (refine eqB_ne fun h => ?_; rw [he] at h; simp_all [eqB_true, eqB_false, eqB_self]; done) | (refine (eqB_of (he.mpr ?_)).symm; simp_all [eqB_true, eqB_false]; done) | (refine (eqB_ne fun h => ?_).symm; rw [he] at h; simp_all [eqB_true, eqB_false, eqB_self]; done)
                                                      · try simp at hc88
                                                        all_goals
                                                          refine AW_skip ?_
                                                          refine AW_id ?_
                                                          refine AW_seq ?_
                                                          refine AW_r rfl rfl fun K hK => ?_
                                                          simp [DtEMsg.cells, DtId.cells, DtCmd.cells]
                                                          repeat' first | (refine ⟨fun _ => ?_, fun _ => ?_⟩) | (refine ⟨by omega, ?_⟩) | (intro _)
                                                          all_goals (refine hK _ ?_; clear hK K)
                                                          all_goals
                                                            refine AW_cond rfl (fun hc89 => ?_) (fun hc89 => ?_)
                                                            · try simp at hc89
                                                              all_goals
                                                                refine AW_r rfl rfl fun K hK => ?_
                                                                simp [DtEMsg.cells, DtId.cells, DtCmd.cells]
                                                                repeat' first | (refine ⟨fun _ => ?_, fun _ => ?_⟩) | (refine ⟨by omega, ?_⟩) | (intro _)
                                                                all_goals (refine hK _ ?_; clear hK K)
                                                                all_goals
                                                                  refine AW_ret (end_s ?_)
                                                                  simp [DtEMsg.cells, DtId.cells, DtCmd.cells]
                                                                  all_goals first | (refine eqB_of (he.mpr ?_); simp_all [eqB_true, eqB_false]; done) | (refine eqB_ne fun h => ?_; rw [he] at h; simp_all [eqB_true, eqB_false, eqB_self]; done) | (refine (eqB_of (he.mpr ?_)).symm; simp_all [eqB_true, eqB_false]; done) | (refine (eqB_ne fun h => ?_).symm; rw [he] at h; simp_all [eqB_true, eqB_false, eqB_self]; done)
                                                            · try simp at hc89
                                                              all_goals
                                                                refine AW_skip ?_
                                                                refine AW_id ?_
                                                                refine AW_seq ?_
                                                                refine AW_r rfl rfl fun K hK => ?_
                                                                simp [DtEMsg.cells, DtId.cells, DtCmd.cells]
                                                                repeat' first | (refine ⟨fun _ => ?_, fun _ => ?_⟩) | (refine ⟨by omega, ?_⟩) | (intro _)
                                                                all_goals (refine hK _ ?_; clear hK K)
                                                                all_goals
                                                                  refine AW_cond rfl (fun hc90 => ?_) (fun hc90 => ?_)
                                                                  · try simp at hc90
                                                                    all_goals
                                                                      refine AW_r rfl rfl fun K hK => ?_
                                                                      simp [DtEMsg.cells, DtId.cells, DtCmd.cells]
                                                                      repeat' first | (refine ⟨fun _ => ?_, fun _ => ?_⟩) | (refine ⟨by omega, ?_⟩) | (intro _)
                                                                      all_goals (refine hK _ ?_; clear hK K)
                                                                      all_goals
                                                                        refine AW_ret (end_s ?_)
                                                                        simp [DtEMsg.cells, DtId.cells, DtCmd.cells]
                                                                        all_goals first | (refine eqB_of (he.mpr ?_); simp_all [eqB_true, eqB_false]; done) | (refine eqB_ne fun h => ?_; rw [he] at h; simp_all [eqB_true, eqB_false, eqB_self]; done) | (refine (eqB_of (he.mpr ?_)).symm; simp_all [eqB_true, eqB_false]; done) | (refine (eqB_ne fun h => ?_).symm; rw [he] at h; simp_all [eqB_true, eqB_false, eqB_self]; done)
                                                                  · try simp at hc90
                                                                    all_goals
                                                                      refine AW_skip ?_
                                                                      refine AW_id ?_
                                                                      refine AW_r rfl rfl fun K hK => ?_
                                                                      simp [DtEMsg.cells, DtId.cells, DtCmd.cells]
                                                                      repeat' first | (refine ⟨fun _ => ?_, fun _ => ?_⟩) | (refine ⟨by omega, ?_⟩) | (intro _)
                                                                      all_goals (refine hK _ ?_; clear hK K)
                                                                      all_goals
                                                                        refine AW_ret (end_s ?_)
                                                                        simp [DtEMsg.cells, DtId.cells, DtCmd.cells]
                                                                        all_goals first | (refine eqB_of (he.mpr ?_); simp_all [eqB_true, eqB_false]; done) | (refine eqB_ne fun h => ?_; rw [he] at h; simp_all [eqB_true, eqB_false, eqB_self]; done) | (refine (eqB_of (he.mpr ?_)).symm; simp_all [eqB_true, eqB_false]; done) | (refine (eqB_ne fun h => ?_).symm; rw [he] at h; simp_all [eqB_true, eqB_false, eqB_self]; done)
theorem szEMsgS (xs : List DtEMsg) (n : Int) (hn : 0 ≤ n ∧ n ≤ 1048576) (hw : (wfS DtEMsg.wf) xs) : PCall Tryz.prog 10 [.sl 19 (xs.map DtEMsg.cells), (.g (.int .i64 (n)))] (.g (.int .i64 (szR n (szS DtEMsg.sz xs)))) := by
  have hq := sumZ_nonneg DtEMsg.sz_nonneg xs
  have hw1 := hw.1
  refine gcall_of_walk Tryz.func10 (by rfl) (by rfl) (by rw [Tryz.ntmps10]; exact Nat.le_of_ble_eq_true rfl) rfl (by decide) ?_
  rw [Tryz.ntmps10]
  refine AW_k [(0, _), (1, _)] ⟨rfl, rfl, trivial⟩ ?_
  refine AW_r rfl rfl fun K hK => ?_
  simp (disch := omega) [wrap64, List.getElem?_eq_getElem, toNat_pred, szR]
  repeat' first | (exfalso; omega) | (refine ⟨fun _ => ?_, fun _ => ?_⟩) | (refine ⟨by omega, ?_⟩) | (intro _)
  all_goals (refine hK _ ?_; clear hK K)
  all_goals
    refine AW_r rfl rfl fun K hK => ?_
    simp (disch := omega) [wrap64, List.getElem?_eq_getElem, toNat_pred, szR]
    repeat' first | (exfalso; omega) | (refine ⟨fun _ => ?_, fun _ => ?_⟩) | (refine ⟨by omega, ?_⟩) | (intro _)
    all_goals (refine hK _ ?_; clear hK K)
    all_goals
      refine AW_seq ?_
      refine AW_r rfl rfl fun K hK => ?_
      simp (disch := omega) [wrap64, List.getElem?_eq_getElem, toNat_pred, szR]
      repeat' first | (exfalso; omega) | (refine ⟨fun _ => ?_, fun _ => ?_⟩) | (refine ⟨by omega, ?_⟩) | (intro _)
      all_goals (refine hK _ ?_; clear hK K)
      all_goals
        refine AW_cond rfl (fun hc91 => ?_) (fun hc91 => ?_)
        · try simp at hc91
          all_goals
            refine AW_r rfl rfl fun K hK => ?_
            simp (disch := omega) [wrap64, List.getElem?_eq_getElem, toNat_pred, szR]
            repeat' first | (exfalso; omega) | (refine ⟨fun _ => ?_, fun _ => ?_⟩) | (refine ⟨by omega, ?_⟩) | (intro _)
            all_goals (refine hK _ ?_; clear hK K)
            all_goals
              refine AW_ret (end_s ?_)
              simp (disch := omega) [wrap64, List.getElem?_eq_getElem, toNat_pred, szR, szS]
              all_goals first | omega | (split <;> omega)
        · try simp at hc91
          all_goals
            refine AW_skip ?_
            refine AW_id ?_
            refine AW_seq ?_
            refine AW_r rfl rfl fun K hK => ?_
            simp (disch := omega) [wrap64, List.getElem?_eq_getElem, toNat_pred, szR]
            repeat' first | (exfalso; omega) | (refine ⟨fun _ => ?_, fun _ => ?_⟩) | (refine ⟨by omega, ?_⟩) | (intro _)
            all_goals (refine hK _ ?_; clear hK K)
            all_goals
              refine AW_block ?_
              refine AW_loopS (fun mM sS => ∃ (i : Nat), mM = xs.length - i ∧ (i ≤ xs.length ∧ 0 ≤ n - xs.length - sumZ DtEMsg.sz (xs.take i)) ∧ sS = { env := lkE [(0, .sl 19 (xs.map DtEMsg.cells)), (1, (.g (.int .i64 (n - xs.length - sumZ DtEMsg.sz (xs.take i))))), (5, (.g (.int .i64 ((i : Nat)))))], ob := formOb [] [] }) ?_ ?_
              · refine ⟨_, LeS.kp [(0, .sl 19 (xs.map DtEMsg.cells)), (1, (.g (.int .i64 (n - xs.length - sumZ DtEMsg.sz (xs.take (0)))))), (5, (.g (.int .i64 (((0) : Nat)))))] (by simp [KpE, upd_app, lkE_app, lk_cons, sumZ_nil]; try first | rfl | omega), _, 0, rfl, ?_, rfl⟩
                · simp [sumZ_nil]; omega
              · rintro mM sS ⟨i, rfl, ⟨hi, hn⟩, rfl⟩
                have hz := sumZ_nonneg DtEMsg.sz_nonneg (xs.take i)
                have hz2 := sumZ_take_le DtEMsg.sz_nonneg xs i
                refine AW_seq ?_
                refine AW_r rfl rfl fun K hK => ?_
                simp (disch := omega) [wrap64, List.getElem?_eq_getElem, toNat_pred, szR, DtEMsg.cells]
                repeat' first | (exfalso; omega) | (refine ⟨fun _ => ?_, fun _ => ?_⟩) | (refine ⟨by omega, ?_⟩) | (intro _)
                all_goals (refine hK _ ?_; clear hK K)
                all_goals
                  refine AW_cond rfl (fun hc92 => ?_) (fun hc92 => ?_)
                  · try simp at hc92
                    all_goals
                      have hl := sumZ_take (f := DtEMsg.sz) xs i (by omega)
                      have hwE : DtEMsg.wf xs[i] := hw.2 _ (List.getElem_mem _)
                      have hz3 := sumZ_take_le DtEMsg.sz_nonneg xs (i + 1)
                      have hzE := DtEMsg.sz_nonneg xs[i]
                      have hszR : szR (n - xs.length - sumZ DtEMsg.sz (xs.take i)) (DtEMsg.sz xs[i]) = n - xs.length - sumZ DtEMsg.sz (xs.take (i + 1)) ∨ (szR (n - xs.length - sumZ DtEMsg.sz (xs.take i)) (DtEMsg.sz xs[i]) = -1 ∧ n - xs.length - sumZ DtEMsg.sz (xs.take (i + 1)) < 0) := by unfold szR; split <;> omega
                      refine AW_skip ?_
                      refine AW_id ?_
                      refine AW_seq ?_
                      refine AW_block ?_
                      refine AW_r rfl rfl fun K hK => ?_
                      simp (disch := omega) [wrap64, List.getElem?_eq_getElem, toNat_pred, szR, DtEMsg.cells]
                      repeat' first | (exfalso; omega) | (refine CKd_v (am2s_cons (am2_agg rfl) (am2s_cons am2_g am2s_nil)) (szEMsg _ _ (by omega) (by first | exact hwE | exact hw)) rfl ?_; simp (disch := omega) [wrap64, List.getElem?_eq_getElem, toNat_pred, szR, DtEMsg.cells]) | (refine ⟨fun _ => ?_, fun _ => ?_⟩) | (refine ⟨by omega, ?_⟩) | (intro _)
                      all_goals (refine hK _ ?_; clear hK K)
                      all_goals
                        refine AW_r rfl rfl fun K hK => ?_
                        simp (disch := omega) [wrap64, List.getElem?_eq_getElem, toNat_pred, szR, DtEMsg.cells]
                        repeat' first | (exfalso; omega) | (refine ⟨fun _ => ?_, fun _ => ?_⟩) | (refine ⟨by omega, ?_⟩) | (intro _)
                        all_goals (refine hK _ ?_; clear hK K)
                        all_goals
                          refine AW_cond rfl (fun hc93 => ?_) (fun hc93 => ?_)
                          · try simp at hc93
                            all_goals
                              refine AW_r rfl rfl fun K hK => ?_
                              simp (disch := omega) [wrap64, List.getElem?_eq_getElem, toNat_pred, szR, DtEMsg.cells]
                              repeat' first | (exfalso; omega) | (refine ⟨fun _ => ?_, fun _ => ?_⟩) | (refine ⟨by omega, ?_⟩) | (intro _)
                              all_goals (refine hK _ ?_; clear hK K)
                              all_goals
                                refine AW_ret (end_s ?_)
                                simp (disch := omega) [wrap64, List.getElem?_eq_getElem, toNat_pred, szR, DtEMsg.cells, szS]
                                all_goals first | omega | (split <;> omega)
                          · try simp at hc93
                            all_goals
                              refine AW_skip ?_
                              refine AW_id ?_
                              refine AW_re rfl rfl fun K hK => ?_
                              simp (disch := omega) [wrap64, List.getElem?_eq_getElem, toNat_pred, szR, DtEMsg.cells]
                              repeat' first | (exfalso; omega) | (refine ⟨fun _ => ?_, fun _ => ?_⟩) | (refine ⟨by omega, ?_⟩) | (intro _)
                              all_goals (refine hK _ ?_; clear hK K)
                              all_goals
                                refine ⟨_, LeS.kp [(0, .sl 19 (xs.map DtEMsg.cells)), (1, (.g (.int .i64 (n - xs.length - sumZ DtEMsg.sz (xs.take (i + 1)))))), (5, (.g (.int .i64 (((i + 1) : Nat)))))] (by simp [KpE, upd_app, lkE_app, lk_cons, sumZ_nil]; try first | rfl | omega), _, ?_, i + 1, rfl, ?_, rfl⟩
                                · omega
                                · omega
                  · try simp at hc92
                    all_goals
                      have hi2 : i = xs.length := by omega
                      subst hi2
                      simp only [List.take_length] at *
                      refine AW_exit ?_
                      refine AW_id ?_
                      refine AW_r rfl rfl fun K hK => ?_
                      simp (disch := omega) [wrap64, List.getElem?_eq_getElem, toNat_pred, szR, DtEMsg.cells]
                      repeat' first | (exfalso; omega) | (refine ⟨fun _ => ?_, fun _ => ?_⟩) | (refine ⟨by omega, ?_⟩) | (intro _)
                      all_goals (refine hK _ ?_; clear hK K)
                      all_goals
                        refine AW_ret (end_s ?_)
                        simp (disch := omega) [wrap64, List.getElem?_eq_getElem, toNat_pred, szR, DtEMsg.cells, szS]
                        all_goals first | omega | (split <;> omega)
theorem toEMsgS (xs : List DtEMsg) (hs : szS DtEMsg.sz xs ≤ 1048576) : PCall Tryz.prog 14 [.sl 19 (xs.map DtEMsg.cells)] (.sl 19 (xs.map DtEMsg.cells)) := by
  have hn : xs.length ≤ 1048576 := by have := sumZ_nonneg DtEMsg.sz_nonneg xs; simp only [szS] at hs; omega
  refine gcall_of_walk Tryz.func14 (by rfl) (by rfl) (by rw [Tryz.ntmps14]; exact Nat.le_of_ble_eq_true rfl) rfl (by decide) ?_
  rw [Tryz.ntmps14]
  refine AW_k [(0, _)] ⟨rfl, trivial⟩ ?_
  refine AW_r rfl rfl fun K hK => ?_
  simp (disch := omega) [wrap64, List.getElem?_eq_getElem, toNat_pred]
  repeat' first | (exfalso; omega) | (refine ⟨fun _ => ?_, fun _ => ?_⟩) | (refine ⟨by omega, ?_⟩) | (intro _)
  all_goals (refine hK _ ?_; clear hK K)
  all_goals
    refine AW_r rfl rfl fun K hK => ?_
    simp (disch := omega) [wrap64, List.getElem?_eq_getElem, toNat_pred]
    repeat' first | (exfalso; omega) | (refine ⟨fun _ => ?_, fun _ => ?_⟩) | (refine ⟨by omega, ?_⟩) | (intro _)
    all_goals (refine hK _ ?_; clear hK K)
    all_goals
      refine AW_seq ?_
      refine AW_r rfl rfl fun K hK => ?_
      simp (disch := omega) [wrap64, List.getElem?_eq_getElem, toNat_pred]
      repeat' first | (exfalso; omega) | (refine ⟨fun _ => ?_, fun _ => ?_⟩) | (refine ⟨by omega, ?_⟩) | (intro _)
      all_goals (refine hK _ ?_; clear hK K)
      all_goals
        refine AW_block ?_
        refine AW_loopS (fun mM sS => ∃ (i : Nat) (ys : List (List AV)), mM = xs.length - i ∧ (i ≤ xs.length ∧ ys.length = xs.length ∧ (∀ j, j < i → ys[j]? = (xs.map DtEMsg.cells)[j]?) ∧ (∀ y ∈ ys, y.length = 19)) ∧ sS = { env := lkE [(0, .sl 19 (xs.map DtEMsg.cells)), (3, .arr 128 0 xs.length), (4, (.g (.int .i64 ((i : Nat)))))], ob := upd (formOb [] []) 128 (some (.flat 19 ys)) }) ?_ ?_
        · refine ⟨_, LeS.kp [(0, .sl 19 (xs.map DtEMsg.cells)), (3, .arr 128 0 xs.length), (4, (.g (.int .i64 (((0) : Nat)))))] (by simp [KpE, upd_app, lkE_app, lk_cons]; try rfl), _, 0, List.replicate xs.length [.g (.int .i64 0), .g (.int .i64 0), .g (.int .i64 0), .g (.int .i64 0), .g (.int .i64 0), .g (.int .i64 0), .g (.int .i64 0), .g (.int .i64 0), .g (.int .i64 0), .s [], .s [], .s [], .g (.int .i64 0), .g (.slice none 0 0), .g (.int .i64 0), .g (.slice none 0 0), .g (.int .i64 0), .g (.int .i64 0), .g (.bool false)], rfl, ?_, rfl⟩
          · simp
        · rintro mM sS ⟨i, ys, rfl, ⟨hi, hl, hpre, hone⟩, rfl⟩
          refine AW_seq ?_
          refine AW_r rfl rfl fun K hK => ?_
          simp (disch := omega) [wrap64, List.getElem?_eq_getElem, toNat_pred, DtEMsg.cells]
          repeat' first | (exfalso; omega) | (refine ⟨fun _ => ?_, fun _ => ?_⟩) | (refine ⟨by omega, ?_⟩) | (intro _)
          all_goals (refine hK _ ?_; clear hK K)
          all_goals
            refine AW_cond rfl (fun hc94 => ?_) (fun hc94 => ?_)
            · try simp at hc94
              all_goals
                obtain ⟨c1, c2, c3, c4, c5, c6, c7, c8, c9, c10, c11, c12, c13, c14, c15, c16, c17, c18, c19, h6⟩ : ∃ c1 c2 c3 c4 c5 c6 c7 c8 c9 c10 c11 c12 c13 c14 c15 c16 c17 c18 c19, ys[i]'(by omega) = [c1, c2, c3, c4, c5, c6, c7, c8, c9, c10, c11, c12, c13, c14, c15, c16, c17, c18, c19] := len19 (hone _ (List.getElem_mem _))
                have hsE : DtEMsg.sz xs[i] ≤ 1048576 := by have := sumZ_mem_le DtEMsg.sz_nonneg xs xs[i] (List.getElem_mem _); simp only [szS] at hs; omega
                refine AW_skip ?_
                refine AW_id ?_
                refine AW_seq ?_
                refine AW_block ?_
                refine AW_re rfl rfl fun K hK => ?_
                simp (disch := omega) [wrap64, List.getElem?_eq_getElem, toNat_pred, DtEMsg.cells, h6]
                repeat' first | (exfalso; omega) | (refine CKd_v (am2s_cons (am2_agg rfl) am2s_nil) (toEMsg _ (by first | assumption | omega)) rfl ?_; simp (disch := omega) [wrap64, List.getElem?_eq_getElem, toNat_pred, DtEMsg.cells, h6]) | (refine ⟨fun _ => ?_, fun _ => ?_⟩) | (refine ⟨by omega, ?_⟩) | (intro _)
                all_goals (refine hK _ ?_; clear hK K)
                all_goals
                  refine AW_id ?_
                  refine AW_re rfl rfl fun K hK => ?_
                  simp (disch := omega) [wrap64, List.getElem?_eq_getElem, toNat_pred, DtEMsg.cells, h6]
                  repeat' first | (exfalso; omega) | (refine ⟨fun _ => ?_, fun _ => ?_⟩) | (refine ⟨by omega, ?_⟩) | (intro _)
                  all_goals (refine hK _ ?_; clear hK K)
                  all_goals
                    refine ⟨_, LeS.kp [(0, .sl 19 (xs.map DtEMsg.cells)), (3, .arr 128 0 xs.length), (4, (.g (.int .i64 (((i + 1) : Nat)))))] (by simp [KpE, upd_app, lkE_app, lk_cons]; try rfl), _, ?_, i + 1, ys.set i (DtEMsg.cells xs[i]), rfl, ?_, ?_⟩
                    · omega
                    · refine ⟨by omega, by simpa using hl, fun j hj => ?_, fun y hy => ?_⟩
                      · by_cases hji : j = i
                        · subst hji; rw [List.getElem?_set_self (by omega), List.getElem?_map, List.getElem?_eq_getElem (by omega)]; rfl
                        · rw [List.getElem?_set_ne (by omega)]; exact hpre j (by omega)
                      · rcases List.mem_or_eq_of_mem_set hy with hy | rfl
                        · exact hone y hy
                        · rfl
                    · rfl
            · try simp at hc94
              all_goals
                have hi2 : i = xs.length := by omega
                subst hi2
                have hys : ys = xs.map DtEMsg.cells := List.ext_getElem? fun j => by
                  by_cases hj : j < xs.length
                  · exact hpre j hj
                  · rw [List.getElem?_eq_none (by omega), List.getElem?_eq_none (by simp; omega)]
                subst hys
                refine AW_exit ?_
                refine AW_id ?_
                refine AW_r rfl rfl fun K hK => ?_
                simp (disch := omega) [wrap64, List.getElem?_eq_getElem, toNat_pred, DtEMsg.cells]
                repeat' first | (exfalso; omega) | (refine ⟨fun _ => ?_, fun _ => ?_⟩) | (refine ⟨by omega, ?_⟩) | (intro _)
                all_goals (refine hK _ ?_; clear hK K)
                all_goals
                  refine AW_ret (end_s ?_)
                  simp (disch := omega) [wrap64, List.getElem?_eq_getElem, toNat_pred, DtEMsg.cells]
                  all_goals first | omega | (simp_all; done) | (simp [List.take_of_length_le]; done) | ((try simp_all); (try simp (disch := omega) only [wrap64, Int.tdiv_eq_ediv_of_nonneg, Int.tmod_eq_emod_of_nonneg, and_true, true_and]); done) | ((try simp_all); (try simp (disch := omega) only [wrap64, Int.tdiv_eq_ediv_of_nonneg, Int.tmod_eq_emod_of_nonneg, and_true, true_and] at *); omega)
theorem eqEMsgS (xs ys : List DtEMsg) (hs : szS DtEMsg.sz xs ≤ 1048576) : PCall Tryz.prog 18 [.sl 19 (xs.map DtEMsg.cells), .sl 19 (ys.map DtEMsg.cells)] (.g (.bool (eqB xs ys))) := by
  have hn : xs.length ≤ 1048576 := by have := sumZ_nonneg DtEMsg.sz_nonneg xs; simp only [szS] at hs; omega
  refine gcall_of_walk Tryz.func18 (by rfl) (by rfl) (by rw [Tryz.ntmps18]; exact Nat.le_of_ble_eq_true rfl) rfl (by decide) ?_
  rw [Tryz.ntmps18]
  refine AW_k [(0, _), (1, _)] ⟨rfl, rfl, trivial⟩ ?_
  refine AW_r rfl rfl fun K hK => ?_
  simp (disch := omega) [wrap64, List.getElem?_eq_getElem, toNat_pred]
  repeat' first | (exfalso; omega) | (refine ⟨fun _ => ?_, fun _ => ?_⟩) | (refine ⟨by omega, ?_⟩) | (intro _)
  all_goals (refine hK _ ?_; clear hK K)
  all_goals
    refine AW_seq ?_
    refine AW_r rfl rfl fun K hK => ?_
    simp (disch := omega) [wrap64, List.getElem?_eq_getElem, toNat_pred]
    repeat' first | (exfalso; omega) | (refine ⟨fun _ => ?_, fun _ => ?_⟩) | (refine ⟨by omega, ?_⟩) | (intro _)
    all_goals (refine hK _ ?_; clear hK K)
    all_goals
      refine AW_cond rfl (fun hc95 => ?_) (fun hc95 => ?_)
      · try simp at hc95
        all_goals
          refine AW_r rfl rfl fun K hK => ?_
          simp (disch := omega) [wrap64, List.getElem?_eq_getElem, toNat_pred]
          repeat' first | (exfalso; omega) | (refine ⟨fun _ => ?_, fun _ => ?_⟩) | (refine ⟨by omega, ?_⟩) | (intro _)
          all_goals (refine hK _ ?_; clear hK K)
          all_goals
            refine AW_ret (end_s ?_)
            simp (disch := omega) [wrap64, List.getElem?_eq_getElem, toNat_pred]
            all_goals first | (exact eqB_of heq) | (refine eqB_ne fun heq => ?_; subst heq; simp_all [eqB_true, eqB_false, eqB_self]; done) | (refine (eqB_ne fun heq => ?_).symm; subst heq; simp_all [eqB_true, eqB_false, eqB_self]; done) | simp_all [eqB_self]
      · try simp at hc95
        all_goals
          refine AW_skip ?_
          refine AW_id ?_
          refine AW_seq ?_
          refine AW_r rfl rfl fun K hK => ?_
          simp (disch := omega) [wrap64, List.getElem?_eq_getElem, toNat_pred]
          repeat' first | (exfalso; omega) | (refine ⟨fun _ => ?_, fun _ => ?_⟩) | (refine ⟨by omega, ?_⟩) | (intro _)
          all_goals (refine hK _ ?_; clear hK K)
          all_goals
            refine AW_block ?_
            refine AW_loopS (fun mM sS => ∃ (i : Nat), mM = xs.length - i ∧ (i ≤ xs.length ∧ ∀ j, j < i → xs[j]? = ys[j]?) ∧ sS = { env := lkE [(0, .sl 19 (xs.map DtEMsg.cells)), (1, .sl 19 (ys.map DtEMsg.cells)), (5, (.g (.int .i64 ((i : Nat)))))], ob := formOb [] [] }) ?_ ?_
            · refine ⟨_, LeS.kp [(0, .sl 19 (xs.map DtEMsg.cells)), (1, .sl 19 (ys.map DtEMsg.cells)), (5, (.g (.int .i64 (((0) : Nat)))))] (by simp [KpE, upd_app, lkE_app, lk_cons]; try rfl), _, 0, rfl, ?_, rfl⟩
              · simp
            · rintro mM sS ⟨i, rfl, ⟨hi, hpre⟩, rfl⟩
              refine AW_seq ?_
              refine AW_r rfl rfl fun K hK => ?_
              simp (disch := omega) [wrap64, List.getElem?_eq_getElem, toNat_pred, DtEMsg.cells]
              repeat' first | (exfalso; omega) | (refine ⟨fun _ => ?_, fun _ => ?_⟩) | (refine ⟨by omega, ?_⟩) | (intro _)
              all_goals (refine hK _ ?_; clear hK K)
              all_goals
                refine AW_cond rfl (fun hc96 => ?_) (fun hc96 => ?_)
                · try simp at hc96
                  all_goals
                    have h7 : i < ys.length := by omega
                    have hsE : DtEMsg.sz xs[i] ≤ 1048576 := by have := sumZ_mem_le DtEMsg.sz_nonneg xs xs[i] (List.getElem_mem _); simp only [szS] at hs; omega
                    refine AW_skip ?_
                    refine AW_id ?_
                    refine AW_seq ?_
                    refine AW_block ?_
                    refine AW_q rfl mix (by kernel_rfl) rfl fun K hK => ?_
                    simp (disch := omega) [wrap64, List.getElem?_eq_getElem, toNat_pred, DtEMsg.cells]
                    repeat' first | (exfalso; omega) | (refine CKd_v (am2s_cons (am2_agg rfl) (am2s_cons (am2_agg rfl) am2s_nil)) (eqEMsg _ _ (by first | assumption | omega)) rfl ?_; simp (disch := omega) [wrap64, List.getElem?_eq_getElem, toNat_pred, DtEMsg.cells]) | (refine ⟨fun _ => ?_, fun _ => ?_⟩) | (refine ⟨by omega, ?_⟩) | (intro _)
                    all_goals (refine hK _ ?_; clear hK K)
                    all_goals
                      refine AW_cond rfl (fun hc97 => ?_) (fun hc97 => ?_)
                      · try simp at hc97
                        all_goals
                          refine AW_r rfl rfl fun K hK => ?_
                          simp (disch := omega) [wrap64, List.getElem?_eq_getElem, toNat_pred, DtEMsg.cells]
                          repeat' first | (exfalso; omega) | (refine ⟨fun _ => ?_, fun _ => ?_⟩) | (refine ⟨by omega, ?_⟩) | (intro _)
                          all_goals (refine hK _ ?_; clear hK K)
                          all_goals
                            refine AW_ret (end_s ?_)
                            simp (disch := omega) [wrap64, List.getElem?_eq_getElem, toNat_pred, DtEMsg.cells]
                            all_goals first | (exact eqB_of heq) | (refine eqB_ne fun heq => ?_; subst heq; simp_all [eqB_true, eqB_false, eqB_self]; done) | (refine (eqB_ne fun heq => ?_).symm; subst heq; simp_all [eqB_true, eqB_false, eqB_self]; done) | simp_all [eqB_self]
                      · try simp at hc97
                        all_goals
                          refine AW_skip ?_
                          refine AW_id ?_
                          refine AW_re rfl rfl fun K hK => ?_
                          simp (disch := omega) [wrap64, List.getElem?_eq_getElem, toNat_pred, DtEMsg.cells]
                          repeat' first | (exfalso; omega) | (refine ⟨fun _ => ?_, fun _ => ?_⟩) | (refine ⟨by omega, ?_⟩) | (intro _)
                          all_goals (refine hK _ ?_; clear hK K)
                          all_goals
                            refine ⟨_, LeS.kp [(0, .sl 19 (xs.map DtEMsg.cells)), (1, .sl 19 (ys.map DtEMsg.cells)), (5, (.g (.int .i64 (((i + 1) : Nat)))))] (by simp [KpE, upd_app, lkE_app, lk_cons]; try rfl), _, ?_, i + 1, rfl, ?_, rfl⟩
                            · omega
                            · refine ⟨by omega, fun j hj => ?_⟩
                              by_cases hji : j = i
                              · subst hji; simp_all [eqB_true, eqB_false]
                              · exact hpre j (by omega)
                · try simp at hc96
                  all_goals
                    have hi2 : i = xs.length := by omega
                    subst hi2
                    have heq : xs = ys := List.ext_getElem? fun j => by
                      by_cases hj : j < xs.length
                      · exact hpre j hj
                      · rw [List.getElem?_eq_none (by omega), List.getElem?_eq_none (by omega)]
                    refine AW_exit ?_
                    refine AW_id ?_
                    refine AW_r rfl rfl fun K hK => ?_
                    simp (disch := omega) [wrap64, List.getElem?_eq_getElem, toNat_pred, DtEMsg.cells]
                    repeat' first | (exfalso; omega) | (refine ⟨fun _ => ?_, fun _ => ?_⟩) | (refine ⟨by omega, ?_⟩) | (intro _)
                    all_goals (refine hK _ ?_; clear hK K)
                    all_goals
                      refine AW_ret (end_s ?_)
                      simp (disch := omega) [wrap64, List.getElem?_eq_getElem, toNat_pred, DtEMsg.cells]
                      all_goals first | (exact eqB_of heq) | (refine eqB_ne fun heq => ?_; subst heq; simp_all [eqB_true, eqB_false, eqB_self]; done) | (refine (eqB_ne fun heq => ?_).symm; subst heq; simp_all [eqB_true, eqB_false, eqB_self]; done) | simp_all [eqB_self]
theorem szENet (u : DtENet) (n : Int) (hn : 0 ≤ n ∧ n ≤ 1048576) (hw : DtENet.wf u) : PCall Tryz.prog 4 [.agg (DtENet.cells u), (.g (.int .i64 (n)))] (.g (.int .i64 (szR n (DtENet.sz u)))) := by
  have ⟨w0, w1⟩ := hw
  have w02 := w0.1
  have z0 := (szS_nonneg DtENode.sz_nonneg) u.fNodes
  have w12 := w1.1
  have z1 := (szS_nonneg DtEMsg.sz_nonneg) u.fPool
  refine gcall_of_walk Tryz.func4 (by rfl) (by rfl) (by rw [Tryz.ntmps4]; exact Nat.le_of_ble_eq_true rfl) rfl (by decide) ?_
  rw [Tryz.ntmps4]
  refine AW_k [(0, _), (1, _)] ⟨rfl, rfl, trivial⟩ ?_
  refine AW_r rfl rfl fun K hK => ?_
  simp (disch := omega) [wrap64, List.getElem?_eq_getElem, toNat_pred, szR, DtENet.cells]
  repeat' first | (exfalso; omega) | (refine ⟨fun _ => ?_, fun _ => ?_⟩) | (refine ⟨by omega, ?_⟩) | (intro _)
  all_goals (refine hK _ ?_; clear hK K)
  all_goals
    refine AW_r rfl rfl fun K hK => ?_
    simp (disch := omega) [wrap64, List.getElem?_eq_getElem, toNat_pred, szR, DtENet.cells]
    repeat' first | (exfalso; omega) | (refine CKd_v (am2s_cons am2_sl (am2s_cons am2_g am2s_nil)) (szENodeS _ _ (by omega) (by assumption)) rfl ?_; simp (disch := omega) [wrap64, List.getElem?_eq_getElem, toNat_pred, szR, DtENet.cells]) | (refine ⟨fun _ => ?_, fun _ => ?_⟩) | (refine ⟨by omega, ?_⟩) | (intro _)
    all_goals (refine hK _ ?_; clear hK K)
    all_goals
      refine AW_seq ?_
      refine AW_r rfl rfl fun K hK => ?_
      simp (disch := omega) [wrap64, List.getElem?_eq_getElem, toNat_pred, szR, DtENet.cells]
      repeat' first | (exfalso; omega) | (refine ⟨fun _ => ?_, fun _ => ?_⟩) | (refine ⟨by omega, ?_⟩) | (intro _)
      all_goals (refine hK _ ?_; clear hK K)
      all_goals
        refine AW_cond rfl (fun hc98 => ?_) (fun hc98 => ?_)
        · try simp at hc98
          all_goals
            refine AW_r rfl rfl fun K hK => ?_
            simp (disch := omega) [wrap64, List.getElem?_eq_getElem, toNat_pred, szR, DtENet.cells]
            repeat' first | (exfalso; omega) | (refine ⟨fun _ => ?_, fun _ => ?_⟩) | (refine ⟨by omega, ?_⟩) | (intro _)
            all_goals (refine hK _ ?_; clear hK K)
            all_goals
              refine AW_ret (end_s ?_)
              simp (disch := omega) [wrap64, List.getElem?_eq_getElem, toNat_pred, szR, DtENet.cells, DtENet.sz]
              all_goals first | omega | (simp_all; done) | (split <;> omega) | (split <;> simp_all <;> omega) | (simp_all [szR]; omega)
        · try simp at hc98
          all_goals
            refine AW_skip ?_
            refine AW_id ?_
            refine AW_r rfl rfl fun K hK => ?_
            simp (disch := omega) [wrap64, List.getElem?_eq_getElem, toNat_pred, szR, DtENet.cells]
            repeat' first | (exfalso; omega) | (refine CKd_v (am2s_cons am2_sl (am2s_cons am2_g am2s_nil)) (szEMsgS _ _ (by omega) (by assumption)) rfl ?_; simp (disch := omega) [wrap64, List.getElem?_eq_getElem, toNat_pred, szR, DtENet.cells]) | (refine ⟨fun _ => ?_, fun _ => ?_⟩) | (refine ⟨by omega, ?_⟩) | (intro _)
            all_goals (refine hK _ ?_; clear hK K)
            all_goals
              refine AW_seq ?_
              refine AW_r rfl rfl fun K hK => ?_
              simp (disch := omega) [wrap64, List.getElem?_eq_getElem, toNat_pred, szR, DtENet.cells]
              repeat' first | (exfalso; omega) | (refine ⟨fun _ => ?_, fun _ => ?_⟩) | (refine ⟨by omega, ?_⟩) | (intro _)
              all_goals (refine hK _ ?_; clear hK K)
              all_goals
                refine AW_cond rfl (fun hc99 => ?_) (fun hc99 => ?_)
                · try simp at hc99
                  all_goals
                    refine AW_r rfl rfl fun K hK => ?_
                    simp (disch := omega) [wrap64, List.getElem?_eq_getElem, toNat_pred, szR, DtENet.cells]
                    repeat' first | (exfalso; omega) | (refine ⟨fun _ => ?_, fun _ => ?_⟩) | (refine ⟨by omega, ?_⟩) | (intro _)
                    all_goals (refine hK _ ?_; clear hK K)
                    all_goals
                      refine AW_ret (end_s ?_)
                      simp (disch := omega) [wrap64, List.getElem?_eq_getElem, toNat_pred, szR, DtENet.cells, DtENet.sz]
                      all_goals first | omega | (simp_all; done) | (split <;> omega) | (split <;> simp_all <;> omega) | (simp_all [szR]; omega)
                · try simp at hc99
                  all_goals
                    refine AW_skip ?_
                    refine AW_id ?_
                    refine AW_r rfl rfl fun K hK => ?_
                    simp (disch := omega) [wrap64, List.getElem?_eq_getElem, toNat_pred, szR, DtENet.cells]
                    repeat' first | (exfalso; omega) | (refine ⟨fun _ => ?_, fun _ => ?_⟩) | (refine ⟨by omega, ?_⟩) | (intro _)
                    all_goals (refine hK _ ?_; clear hK K)
                    all_goals
                      refine AW_ret (end_s ?_)
                      simp (disch := omega) [wrap64, List.getElem?_eq_getElem, toNat_pred, szR, DtENet.cells, DtENet.sz]
                      all_goals first | omega | (simp_all; done) | (split <;> omega) | (split <;> simp_all <;> omega) | (simp_all [szR]; omega)
theorem toENet (u : DtENet) (hs : DtENet.sz u ≤ 1048576) : PCall Tryz.prog 6 [.agg (DtENet.cells u)] (.agg (DtENet.cells u)) := by
  simp only [DtENet.sz] at hs
  have z0 := (szS_nonneg DtENode.sz_nonneg) u.fNodes
  have z1 := (szS_nonneg DtEMsg.sz_nonneg) u.fPool
  have s0 : szS DtENode.sz u.fNodes ≤ 1048576 := by omega
  have s1 : szS DtEMsg.sz u.fPool ≤ 1048576 := by omega
  refine gcall_of_walk Tryz.func6 (by rfl) (by rfl) (by rw [Tryz.ntmps6]; exact Nat.le_of_ble_eq_true rfl) rfl (by decide) ?_
  rw [Tryz.ntmps6]
  refine AW_k [(0, _)] ⟨rfl, trivial⟩ ?_
  refine AW_r rfl rfl fun K hK => ?_
  simp [DtENet.cells]
  repeat' first | (refine ⟨fun _ => ?_, fun _ => ?_⟩) | (refine ⟨by omega, ?_⟩) | (intro _)
  all_goals (refine hK _ ?_; clear hK K)
  all_goals
    refine AW_r rfl rfl fun K hK => ?_
    simp [DtENet.cells]
    repeat' first | (refine ⟨fun _ => ?_, fun _ => ?_⟩) | (refine ⟨by omega, ?_⟩) | (intro _)
    all_goals (refine hK _ ?_; clear hK K)
    all_goals
      refine AW_r rfl rfl fun K hK => ?_
      simp [DtENet.cells]
      repeat' first | (refine CKd_v (am2s_cons am2_sl am2s_nil) (toENodeS _ (by first | assumption | omega)) rfl ?_; simp [DtENet.cells]) | (refine ⟨fun _ => ?_, fun _ => ?_⟩) | (refine ⟨by omega, ?_⟩) | (intro _)
      all_goals (refine hK _ ?_; clear hK K)
      all_goals
        refine AW_r rfl rfl fun K hK => ?_
        simp [DtENet.cells]
        repeat' first | (refine CKd_v (am2s_cons am2_sl am2s_nil) (toEMsgS _ (by first | assumption | omega)) rfl ?_; simp [DtENet.cells]) | (refine ⟨fun _ => ?_, fun _ => ?_⟩) | (refine ⟨by omega, ?_⟩) | (intro _)
        all_goals (refine hK _ ?_; clear hK K)
        all_goals
          refine AW_r rfl rfl fun K hK => ?_
          simp [DtENet.cells]
          repeat' first | (refine ⟨fun _ => ?_, fun _ => ?_⟩) | (refine ⟨by omega, ?_⟩) | (intro _)
          all_goals (refine hK _ ?_; clear hK K)
          all_goals
            refine AW_ret (end_s ?_)
            simp [DtENet.cells]
            all_goals first | omega | (simp_all; done) | (simp [List.take_of_length_le]; done) | ((try simp_all); (try simp (disch := omega) only [wrap64, Int.tdiv_eq_ediv_of_nonneg, Int.tmod_eq_emod_of_nonneg, and_true, true_and]); done) | ((try simp_all); (try simp (disch := omega) only [wrap64, Int.tdiv_eq_ediv_of_nonneg, Int.tmod_eq_emod_of_nonneg, and_true, true_and] at *); omega)
theorem eqENet (u v : DtENet) (hs : DtENet.sz u ≤ 1048576) : PCall Tryz.prog 8 [.agg (DtENet.cells u), .agg (DtENet.cells v)] (.g (.bool (eqB u v))) := by
  simp only [DtENet.sz] at hs
  have z0 := (szS_nonneg DtENode.sz_nonneg) u.fNodes
  have z1 := (szS_nonneg DtEMsg.sz_nonneg) u.fPool
  have s0 : szS DtENode.sz u.fNodes ≤ 1048576 := by omega
  have s1 : szS DtEMsg.sz u.fPool ≤ 1048576 := by omega
  have he := DtENet.ext_iff u v
  refine gcall_of_walk Tryz.func8 (by rfl) (by rfl) (by rw [Tryz.ntmps8]; exact Nat.le_of_ble_eq_true rfl) rfl (by decide) ?_
  rw [Tryz.ntmps8]
  refine AW_k [(0, _), (1, _)] ⟨rfl, rfl, trivial⟩ ?_
  refine AW_r rfl rfl fun K hK => ?_
  simp [DtENet.cells]
  repeat' first | (refine ⟨fun _ => ?_, fun _ => ?_⟩) | (refine ⟨by omega, ?_⟩) | (intro _)
  all_goals (refine hK _ ?_; clear hK K)
  all_goals
    refine AW_seq ?_
    refine AW_r rfl rfl fun K hK => ?_
    simp [DtENet.cells]
    repeat' first | (refine CKd_v (am2s_cons am2_sl (am2s_cons am2_sl am2s_nil)) (eqENodeS _ _ (by first | assumption | omega)) rfl ?_; simp [DtENet.cells]) | (refine ⟨fun _ => ?_, fun _ => ?_⟩) | (refine ⟨by omega, ?_⟩) | (intro _)
    all_goals (refine hK _ ?_; clear hK K)
    all_goals
      refine AW_cond rfl (fun hc100 => ?_) (fun hc100 => ?_)
      · try simp at hc100
        all_goals
          refine AW_r rfl rfl fun K hK => ?_
          simp [DtENet.cells]
          repeat' first | (refine ⟨fun _ => ?_, fun _ => ?_⟩) | (refine ⟨by omega, ?_⟩) | (intro _)
          all_goals (refine hK _ ?_; clear hK K)
          all_goals
            refine AW_ret (end_s ?_)
            simp [DtENet.cells]
            all_goals first | (refine eqB_of (he.mpr ?_); simp_all [eqB_true, eqB_false]; done) | (refine eqB_ne fun h => ?_; rw [he] at h; simp_all [eqB_true, eqB_false, eqB_self]; done) | (refine (eqB_of (he.mpr ?_)).symm; simp_all [eqB_true, eqB_false]; done) | (refine (eqB_ne fun h => ?_).symm; rw [he] at h; simp_all [eqB_true, eqB_false, eqB_self]; done)
      · try simp at hc100
        all_goals
          refine AW_skip ?_
          refine AW_id ?_
          refine AW_seq ?_
          refine AW_r rfl rfl fun K hK => ?_
          simp [DtENet.cells]
          repeat' first | (refine CKd_v (am2s_cons am2_sl (am2s_cons am2_sl am2s_nil)) (eqEMsgS _ _ (by first | assumption | omega)) rfl ?_; simp [DtENet.cells]) | (refine ⟨fun _ => ?_, fun _ => ?_⟩) | (refine ⟨by omega, ?_⟩) | (intro _)
          all_goals (refine hK _ ?_; clear hK K)
          all_goals
            refine AW_cond rfl (fun hc101 => ?_) (fun hc101 => ?_)
            · try simp at hc101
              all_goals
                refine AW_r rfl rfl fun K hK => ?_
                simp [DtENet.cells]
                repeat' first | (refine ⟨fun _ => ?_, fun _ => ?_⟩) | (refine ⟨by omega, ?_⟩) | (intro _)
                all_goals (refine hK _ ?_; clear hK K)
                all_goals
                  refine AW_ret (end_s ?_)
                  simp [DtENet.cells]
                  all_goals first | (refine eqB_of (he.mpr ?_); simp_all [eqB_true, eqB_false]; done) | (refine eqB_ne fun h => ?_; rw [he] at h; simp_all [eqB_true, eqB_false, eqB_self]; done) | (refine (eqB_of (he.mpr ?_)).symm; simp_all [eqB_true, eqB_false]; done) | (refine (eqB_ne fun h => ?_).symm; rw [he] at h; simp_all [eqB_true, eqB_false, eqB_self]; done)
            · try simp at hc101
              all_goals
                refine AW_skip ?_
                refine AW_id ?_
                refine AW_r rfl rfl fun K hK => ?_
                simp [DtENet.cells]
                repeat' first | (refine ⟨fun _ => ?_, fun _ => ?_⟩) | (refine ⟨by omega, ?_⟩) | (intro _)
                all_goals (refine hK _ ?_; clear hK K)
                all_goals
                  refine AW_ret (end_s ?_)
                  simp [DtENet.cells]
                  all_goals first | (refine eqB_of (he.mpr ?_); simp_all [eqB_true, eqB_false]; done) | (refine eqB_ne fun h => ?_; rw [he] at h; simp_all [eqB_true, eqB_false, eqB_self]; done) | (refine (eqB_of (he.mpr ?_)).symm; simp_all [eqB_true, eqB_false]; done) | (refine (eqB_ne fun h => ?_).symm; rw [he] at h; simp_all [eqB_true, eqB_false, eqB_self]; done)
end Go.Proofs.YtopeonnaalpmjaaGreat.Vs
