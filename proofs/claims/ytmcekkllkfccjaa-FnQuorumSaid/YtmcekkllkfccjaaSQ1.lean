import Derived.Test.YtmcekkllkfccjaaSDR
open Go Go.Proofs Go.Proofs.Ytmcekkllkfccjaa.Vs
namespace Go.Proofs.Ytmcekkllkfccjaa.Vs
set_option linter.unusedVariables false
set_option linter.unusedSimpArgs false
set_option linter.unusedSectionVars false
set_option linter.unnecessarySimpa false
set_option linter.all false
set_option linter.unusedSimpArgs false
set_option linter.unusedVariables false
set_option maxRecDepth 100000
theorem l1In (a b c : Int) : PCall Try.prog 29 [(.g (.int .i64 (a))), (.g (.int .i64 (b))), (.g (.int .i64 (c)))] (.g (.bool (decide (b ≤ a) && decide (a ≤ c)))) := by
  refine gcall_of_walk Try.func29 (by rfl) (by rfl) (by rw [Try.ntmps29]; exact Nat.le_of_ble_eq_true rfl) rfl (by decide) ?_
  rw [Try.ntmps29]
  refine AW_k [(0, _), (1, _), (2, _)] ⟨rfl, rfl, rfl, trivial⟩ ?_
  refine AW_r rfl rfl fun K hK => ?_
  simp (disch := omega) [wrap64, List.getElem?_eq_getElem, toNat_pred, cU]
  repeat' first | (exfalso; omega) | (refine ⟨fun _ => ?_, fun _ => ?_⟩) | (refine ⟨by omega, ?_⟩) | (intro _)
  all_goals (refine hK _ ?_; clear hK K)
  all_goals
    refine AW_r rfl rfl fun K hK => ?_
    simp (disch := omega) [wrap64, List.getElem?_eq_getElem, toNat_pred, cU]
    repeat' first | (exfalso; omega) | (refine ⟨fun _ => ?_, fun _ => ?_⟩) | (refine ⟨by omega, ?_⟩) | (intro _)
    all_goals (refine hK _ ?_; clear hK K)
    all_goals
      refine AW_ret (end_s ?_)
      simp (disch := omega) [wrap64, List.getElem?_eq_getElem, toNat_pred, cU]
      all_goals first | omega | (simp_all; done) | (simp [List.take_of_length_le]; done) | ((try simp_all); (try simp (disch := omega) only [wrap64, Int.tdiv_eq_ediv_of_nonneg, Int.tmod_eq_emod_of_nonneg, and_true, true_and]); done) | ((try simp_all); (try simp (disch := omega) only [wrap64, Int.tdiv_eq_ediv_of_nonneg, Int.tmod_eq_emod_of_nonneg, and_true, true_and] at *); omega)
theorem within (a b c : Int) : PCall Try.prog 28 [(.g (.int .i64 (a))), (.g (.int .i64 (b))), (.g (.int .i64 (c)))] (.g (.bool (decide (b ≤ a) && decide (a ≤ c)))) := by
  refine gcall_of_walk Try.func28 (by rfl) (by rfl) (by rw [Try.ntmps28]; exact Nat.le_of_ble_eq_true rfl) rfl (by decide) ?_
  rw [Try.ntmps28]
  refine AW_k [(0, _), (1, _), (2, _)] ⟨rfl, rfl, rfl, trivial⟩ ?_
  refine AW_r rfl rfl fun K hK => ?_
  simp (disch := omega) [wrap64, List.getElem?_eq_getElem, toNat_pred, cU]
  repeat' first | (exfalso; omega) | (refine ⟨fun _ => ?_, fun _ => ?_⟩) | (refine ⟨by omega, ?_⟩) | (intro _)
  all_goals (refine hK _ ?_; clear hK K)
  all_goals
    refine AW_r rfl rfl fun K hK => ?_
    simp (disch := omega) [wrap64, List.getElem?_eq_getElem, toNat_pred, cU]
    repeat' first | (exfalso; omega) | (refine ⟨fun _ => ?_, fun _ => ?_⟩) | (refine ⟨by omega, ?_⟩) | (intro _)
    all_goals (refine hK _ ?_; clear hK K)
    all_goals
      refine AW_ret (end_s ?_)
      simp (disch := omega) [wrap64, List.getElem?_eq_getElem, toNat_pred, cU]
      all_goals first | omega | (simp_all; done) | (simp [List.take_of_length_le]; done) | ((try simp_all); (try simp (disch := omega) only [wrap64, Int.tdiv_eq_ediv_of_nonneg, Int.tmod_eq_emod_of_nonneg, and_true, true_and]); done) | ((try simp_all); (try simp (disch := omega) only [wrap64, Int.tdiv_eq_ediv_of_nonneg, Int.tmod_eq_emod_of_nonneg, and_true, true_and] at *); omega)
def fOf (n : Int) : Int := if 1 ≤ n ∧ n ≤ 9 ∧ n.tmod 2 ≠ 0 then (n - 1).tdiv 2 else -1
theorem specFOf (n : Int) : PCall Try.prog 8 [(.g (.int .i64 (n)))] (.g (.int .i64 (fOf n))) := by
  refine gcall_of_walk Try.func8 (by rfl) (by rfl) (by rw [Try.ntmps8]; exact Nat.le_of_ble_eq_true rfl) rfl (by decide) ?_
  rw [Try.ntmps8]
  refine AW_k [(0, _)] ⟨rfl, trivial⟩ ?_
  refine AW_r rfl rfl fun K hK => ?_
  simp (disch := omega) [wrap64, List.getElem?_eq_getElem, toNat_pred, cU]
  repeat' first | (exfalso; omega) | (refine ⟨fun _ => ?_, fun _ => ?_⟩) | (refine ⟨by omega, ?_⟩) | (intro _)
  all_goals (refine hK _ ?_; clear hK K)
  all_goals
    refine AW_seq ?_
    refine AW_r rfl rfl fun K hK => ?_
    simp (disch := omega) [wrap64, List.getElem?_eq_getElem, toNat_pred, cU]
    repeat' first | (exfalso; omega) | (refine CKd_v (am2s_cons am2_g (am2s_cons am2_g (am2s_cons am2_g am2s_nil))) (l1In _ _ _) rfl ?_; simp (disch := omega) [wrap64, List.getElem?_eq_getElem, toNat_pred, cU]) | (refine ⟨fun _ => ?_, fun _ => ?_⟩) | (refine ⟨by omega, ?_⟩) | (intro _)
    all_goals (refine hK _ ?_; clear hK K)
    all_goals
      refine AW_cond rfl (fun hc1 => ?_) (fun hc1 => ?_)
      · try simp at hc1
        all_goals
          refine AW_r rfl rfl fun K hK => ?_
          simp (disch := omega) [wrap64, List.getElem?_eq_getElem, toNat_pred, cU]
          repeat' first | (exfalso; omega) | (refine ⟨fun _ => ?_, fun _ => ?_⟩) | (refine ⟨by omega, ?_⟩) | (intro _)
          all_goals (refine hK _ ?_; clear hK K)
          all_goals
            refine AW_ret (end_s ?_)
            simp (disch := omega) [wrap64, List.getElem?_eq_getElem, toNat_pred, cU, fOf]
            all_goals first | omega | (simp_all; done) | (simp [List.take_of_length_le]; done) | ((try simp_all); (try simp (disch := omega) only [wrap64, Int.tdiv_eq_ediv_of_nonneg, Int.tmod_eq_emod_of_nonneg, and_true, true_and]); done) | ((try simp_all); (try simp (disch := omega) only [wrap64, Int.tdiv_eq_ediv_of_nonneg, Int.tmod_eq_emod_of_nonneg, and_true, true_and] at *); omega)
      · try simp at hc1
        all_goals
          refine AW_skip ?_
          refine AW_id ?_
          refine AW_r rfl rfl fun K hK => ?_
          simp (disch := omega) [wrap64, List.getElem?_eq_getElem, toNat_pred, cU]
          repeat' first | (exfalso; omega) | (refine ⟨fun _ => ?_, fun _ => ?_⟩) | (refine ⟨by omega, ?_⟩) | (intro _)
          all_goals (refine hK _ ?_; clear hK K)
          all_goals
            refine AW_ret (end_s ?_)
            simp (disch := omega) [wrap64, List.getElem?_eq_getElem, toNat_pred, cU, fOf]
            all_goals first | omega | (simp_all; done) | (simp [List.take_of_length_le]; done) | ((try simp_all); (try simp (disch := omega) only [wrap64, Int.tdiv_eq_ediv_of_nonneg, Int.tmod_eq_emod_of_nonneg, and_true, true_and]); done) | ((try simp_all); (try simp (disch := omega) only [wrap64, Int.tdiv_eq_ediv_of_nonneg, Int.tmod_eq_emod_of_nonneg, and_true, true_and] at *); omega)
theorem implFOf (n : Int) : PCall Try.prog 7 [(.g (.int .i64 (n)))] (.g (.int .i64 (fOf n))) := by
  refine gcall_of_walk Try.func7 (by rfl) (by rfl) (by rw [Try.ntmps7]; exact Nat.le_of_ble_eq_true rfl) rfl (by decide) ?_
  rw [Try.ntmps7]
  refine AW_k [(0, _)] ⟨rfl, trivial⟩ ?_
  refine AW_r rfl rfl fun K hK => ?_
  simp (disch := omega) [wrap64, List.getElem?_eq_getElem, toNat_pred, cU]
  repeat' first | (exfalso; omega) | (refine ⟨fun _ => ?_, fun _ => ?_⟩) | (refine ⟨by omega, ?_⟩) | (intro _)
  all_goals (refine hK _ ?_; clear hK K)
  all_goals
    refine AW_seq ?_
    refine AW_r rfl rfl fun K hK => ?_
    simp (disch := omega) [wrap64, List.getElem?_eq_getElem, toNat_pred, cU]
    repeat' first | (exfalso; omega) | (refine CKd_v (am2s_cons am2_g (am2s_cons am2_g (am2s_cons am2_g am2s_nil))) (within _ _ _) rfl ?_; simp (disch := omega) [wrap64, List.getElem?_eq_getElem, toNat_pred, cU]) | (refine ⟨fun _ => ?_, fun _ => ?_⟩) | (refine ⟨by omega, ?_⟩) | (intro _)
    all_goals (refine hK _ ?_; clear hK K)
    all_goals
      refine AW_cond rfl (fun hc2 => ?_) (fun hc2 => ?_)
      · try simp at hc2
        all_goals
          refine AW_r rfl rfl fun K hK => ?_
          simp (disch := omega) [wrap64, List.getElem?_eq_getElem, toNat_pred, cU]
          repeat' first | (exfalso; omega) | (refine ⟨fun _ => ?_, fun _ => ?_⟩) | (refine ⟨by omega, ?_⟩) | (intro _)
          all_goals (refine hK _ ?_; clear hK K)
          all_goals
            refine AW_ret (end_s ?_)
            simp (disch := omega) [wrap64, List.getElem?_eq_getElem, toNat_pred, cU, fOf]
            all_goals first | omega | (simp_all; done) | (simp [List.take_of_length_le]; done) | ((try simp_all); (try simp (disch := omega) only [wrap64, Int.tdiv_eq_ediv_of_nonneg, Int.tmod_eq_emod_of_nonneg, and_true, true_and]); done) | ((try simp_all); (try simp (disch := omega) only [wrap64, Int.tdiv_eq_ediv_of_nonneg, Int.tmod_eq_emod_of_nonneg, and_true, true_and] at *); omega)
      · try simp at hc2
        all_goals
          refine AW_skip ?_
          refine AW_id ?_
          refine AW_r rfl rfl fun K hK => ?_
          simp (disch := omega) [wrap64, List.getElem?_eq_getElem, toNat_pred, cU]
          repeat' first | (exfalso; omega) | (refine ⟨fun _ => ?_, fun _ => ?_⟩) | (refine ⟨by omega, ?_⟩) | (intro _)
          all_goals (refine hK _ ?_; clear hK K)
          all_goals
            refine AW_ret (end_s ?_)
            simp (disch := omega) [wrap64, List.getElem?_eq_getElem, toNat_pred, cU, fOf]
            all_goals first | omega | (simp_all; done) | (simp [List.take_of_length_le]; done) | ((try simp_all); (try simp (disch := omega) only [wrap64, Int.tdiv_eq_ediv_of_nonneg, Int.tmod_eq_emod_of_nonneg, and_true, true_and]); done) | ((try simp_all); (try simp (disch := omega) only [wrap64, Int.tdiv_eq_ediv_of_nonneg, Int.tmod_eq_emod_of_nonneg, and_true, true_and] at *); omega)
theorem fOf_bd (n : Int) : -1 ≤ fOf n ∧ fOf n ≤ 4 := by
  unfold fOf
  split
  · rw [Int.tdiv_eq_ediv_of_nonneg (by omega)]; omega
  · omega
def slowOf (n : Int) : Int := if fOf n < 0 then 0 else fOf n + 1
theorem slowOf_bd (n : Int) : 0 ≤ slowOf n ∧ slowOf n ≤ 5 := by
  have := fOf_bd n
  unfold slowOf
  split <;> omega
def fastOf (n : Int) : Int := if fOf n < 0 then 0 else fOf n + slowOf n / 2
theorem specSlowOf (n : Int) : PCall Try.prog 10 [(.g (.int .i64 (n)))] (.g (.int .i64 (slowOf n))) := by
  have hb := fOf_bd n
  refine gcall_of_walk Try.func10 (by rfl) (by rfl) (by rw [Try.ntmps10]; exact Nat.le_of_ble_eq_true rfl) rfl (by decide) ?_
  rw [Try.ntmps10]
  refine AW_k [(0, _)] ⟨rfl, trivial⟩ ?_
  refine AW_r rfl rfl fun K hK => ?_
  simp (disch := omega) [wrap64, List.getElem?_eq_getElem, toNat_pred, cU]
  repeat' first | (exfalso; omega) | (refine ⟨fun _ => ?_, fun _ => ?_⟩) | (refine ⟨by omega, ?_⟩) | (intro _)
  all_goals (refine hK _ ?_; clear hK K)
  all_goals
    refine AW_seq ?_
    refine AW_r rfl rfl fun K hK => ?_
    simp (disch := omega) [wrap64, List.getElem?_eq_getElem, toNat_pred, cU]
    repeat' first | (exfalso; omega) | (refine CKd_v (am2s_cons am2_g am2s_nil) (specFOf _) rfl ?_; simp (disch := omega) [wrap64, List.getElem?_eq_getElem, toNat_pred, cU]) | (refine ⟨fun _ => ?_, fun _ => ?_⟩) | (refine ⟨by omega, ?_⟩) | (intro _)
    all_goals (refine hK _ ?_; clear hK K)
    all_goals
      refine AW_cond rfl (fun hc3 => ?_) (fun hc3 => ?_)
      · try simp at hc3
        all_goals
          refine AW_r rfl rfl fun K hK => ?_
          simp (disch := omega) [wrap64, List.getElem?_eq_getElem, toNat_pred, cU]
          repeat' first | (exfalso; omega) | (refine ⟨fun _ => ?_, fun _ => ?_⟩) | (refine ⟨by omega, ?_⟩) | (intro _)
          all_goals (refine hK _ ?_; clear hK K)
          all_goals
            refine AW_ret (end_s ?_)
            simp (disch := omega) [wrap64, List.getElem?_eq_getElem, toNat_pred, cU, slowOf]
            all_goals first | omega | (simp_all; done) | (simp [List.take_of_length_le]; done) | ((try simp_all); (try simp (disch := omega) only [wrap64, Int.tdiv_eq_ediv_of_nonneg, Int.tmod_eq_emod_of_nonneg, and_true, true_and]); done) | ((try simp_all); (try simp (disch := omega) only [wrap64, Int.tdiv_eq_ediv_of_nonneg, Int.tmod_eq_emod_of_nonneg, and_true, true_and] at *); omega)
      · try simp at hc3
        all_goals
          refine AW_skip ?_
          refine AW_id ?_
          refine AW_r rfl rfl fun K hK => ?_
          simp (disch := omega) [wrap64, List.getElem?_eq_getElem, toNat_pred, cU]
          repeat' first | (exfalso; omega) | (refine CKd_v (am2s_cons am2_g am2s_nil) (specFOf _) rfl ?_; simp (disch := omega) [wrap64, List.getElem?_eq_getElem, toNat_pred, cU]) | (refine ⟨fun _ => ?_, fun _ => ?_⟩) | (refine ⟨by omega, ?_⟩) | (intro _)
          all_goals (refine hK _ ?_; clear hK K)
          all_goals
            refine AW_ret (end_s ?_)
            simp (disch := omega) [wrap64, List.getElem?_eq_getElem, toNat_pred, cU, slowOf]
            all_goals first | omega | (simp_all; done) | (simp [List.take_of_length_le]; done) | ((try simp_all); (try simp (disch := omega) only [wrap64, Int.tdiv_eq_ediv_of_nonneg, Int.tmod_eq_emod_of_nonneg, and_true, true_and]); done) | ((try simp_all); (try simp (disch := omega) only [wrap64, Int.tdiv_eq_ediv_of_nonneg, Int.tmod_eq_emod_of_nonneg, and_true, true_and] at *); omega)
theorem implSlowOf (n : Int) : PCall Try.prog 9 [(.g (.int .i64 (n)))] (.g (.int .i64 (slowOf n))) := by
  have hb := fOf_bd n
  refine gcall_of_walk Try.func9 (by rfl) (by rfl) (by rw [Try.ntmps9]; exact Nat.le_of_ble_eq_true rfl) rfl (by decide) ?_
  rw [Try.ntmps9]
  refine AW_k [(0, _)] ⟨rfl, trivial⟩ ?_
  refine AW_r rfl rfl fun K hK => ?_
  simp (disch := omega) [wrap64, List.getElem?_eq_getElem, toNat_pred, cU]
  repeat' first | (exfalso; omega) | (refine ⟨fun _ => ?_, fun _ => ?_⟩) | (refine ⟨by omega, ?_⟩) | (intro _)
  all_goals (refine hK _ ?_; clear hK K)
  all_goals
    refine AW_seq ?_
    refine AW_r rfl rfl fun K hK => ?_
    simp (disch := omega) [wrap64, List.getElem?_eq_getElem, toNat_pred, cU]
    repeat' first | (exfalso; omega) | (refine CKd_v (am2s_cons am2_g am2s_nil) (implFOf _) rfl ?_; simp (disch := omega) [wrap64, List.getElem?_eq_getElem, toNat_pred, cU]) | (refine ⟨fun _ => ?_, fun _ => ?_⟩) | (refine ⟨by omega, ?_⟩) | (intro _)
    all_goals (refine hK _ ?_; clear hK K)
    all_goals
      refine AW_cond rfl (fun hc4 => ?_) (fun hc4 => ?_)
      · try simp at hc4
        all_goals
          refine AW_r rfl rfl fun K hK => ?_
          simp (disch := omega) [wrap64, List.getElem?_eq_getElem, toNat_pred, cU]
          repeat' first | (exfalso; omega) | (refine ⟨fun _ => ?_, fun _ => ?_⟩) | (refine ⟨by omega, ?_⟩) | (intro _)
          all_goals (refine hK _ ?_; clear hK K)
          all_goals
            refine AW_ret (end_s ?_)
            simp (disch := omega) [wrap64, List.getElem?_eq_getElem, toNat_pred, cU, slowOf]
            all_goals first | omega | (simp_all; done) | (simp [List.take_of_length_le]; done) | ((try simp_all); (try simp (disch := omega) only [wrap64, Int.tdiv_eq_ediv_of_nonneg, Int.tmod_eq_emod_of_nonneg, and_true, true_and]); done) | ((try simp_all); (try simp (disch := omega) only [wrap64, Int.tdiv_eq_ediv_of_nonneg, Int.tmod_eq_emod_of_nonneg, and_true, true_and] at *); omega)
      · try simp at hc4
        all_goals
          refine AW_skip ?_
          refine AW_id ?_
          refine AW_r rfl rfl fun K hK => ?_
          simp (disch := omega) [wrap64, List.getElem?_eq_getElem, toNat_pred, cU]
          repeat' first | (exfalso; omega) | (refine CKd_v (am2s_cons am2_g am2s_nil) (implFOf _) rfl ?_; simp (disch := omega) [wrap64, List.getElem?_eq_getElem, toNat_pred, cU]) | (refine ⟨fun _ => ?_, fun _ => ?_⟩) | (refine ⟨by omega, ?_⟩) | (intro _)
          all_goals (refine hK _ ?_; clear hK K)
          all_goals
            refine AW_ret (end_s ?_)
            simp (disch := omega) [wrap64, List.getElem?_eq_getElem, toNat_pred, cU, slowOf]
            all_goals first | omega | (simp_all; done) | (simp [List.take_of_length_le]; done) | ((try simp_all); (try simp (disch := omega) only [wrap64, Int.tdiv_eq_ediv_of_nonneg, Int.tmod_eq_emod_of_nonneg, and_true, true_and]); done) | ((try simp_all); (try simp (disch := omega) only [wrap64, Int.tdiv_eq_ediv_of_nonneg, Int.tmod_eq_emod_of_nonneg, and_true, true_and] at *); omega)
theorem specFastOf (n : Int) : PCall Try.prog 12 [(.g (.int .i64 (n)))] (.g (.int .i64 (fastOf n))) := by
  have hb := fOf_bd n
  have hs := slowOf_bd n
  refine gcall_of_walk Try.func12 (by rfl) (by rfl) (by rw [Try.ntmps12]; exact Nat.le_of_ble_eq_true rfl) rfl (by decide) ?_
  rw [Try.ntmps12]
  refine AW_k [(0, _)] ⟨rfl, trivial⟩ ?_
  refine AW_r rfl rfl fun K hK => ?_
  simp (disch := omega) [wrap64, List.getElem?_eq_getElem, toNat_pred, Int.tdiv_eq_ediv_of_nonneg, cU]
  repeat' first | (exfalso; omega) | (refine ⟨fun _ => ?_, fun _ => ?_⟩) | (refine ⟨by omega, ?_⟩) | (intro _)
  all_goals (refine hK _ ?_; clear hK K)
  all_goals
    refine AW_seq ?_
    refine AW_r rfl rfl fun K hK => ?_
    simp (disch := omega) [wrap64, List.getElem?_eq_getElem, toNat_pred, Int.tdiv_eq_ediv_of_nonneg, cU]
    repeat' first | (exfalso; omega) | (refine CKd_v (am2s_cons am2_g am2s_nil) (specFOf _) rfl ?_; simp (disch := omega) [wrap64, List.getElem?_eq_getElem, toNat_pred, Int.tdiv_eq_ediv_of_nonneg, cU]) | (refine ⟨fun _ => ?_, fun _ => ?_⟩) | (refine ⟨by omega, ?_⟩) | (intro _)
    all_goals (refine hK _ ?_; clear hK K)
    all_goals
      refine AW_cond rfl (fun hc5 => ?_) (fun hc5 => ?_)
      · try simp at hc5
        all_goals
          refine AW_r rfl rfl fun K hK => ?_
          simp (disch := omega) [wrap64, List.getElem?_eq_getElem, toNat_pred, Int.tdiv_eq_ediv_of_nonneg, cU]
          repeat' first | (exfalso; omega) | (refine ⟨fun _ => ?_, fun _ => ?_⟩) | (refine ⟨by omega, ?_⟩) | (intro _)
          all_goals (refine hK _ ?_; clear hK K)
          all_goals
            refine AW_ret (end_s ?_)
            simp (disch := omega) [wrap64, List.getElem?_eq_getElem, toNat_pred, Int.tdiv_eq_ediv_of_nonneg, cU, fastOf]
            all_goals first | omega | (simp_all; done) | (simp [List.take_of_length_le]; done) | ((try simp_all); (try simp (disch := omega) only [wrap64, Int.tdiv_eq_ediv_of_nonneg, Int.tmod_eq_emod_of_nonneg, and_true, true_and]); done) | ((try simp_all); (try simp (disch := omega) only [wrap64, Int.tdiv_eq_ediv_of_nonneg, Int.tmod_eq_emod_of_nonneg, and_true, true_and] at *); omega)
      · try simp at hc5
        all_goals
          refine AW_skip ?_
          refine AW_id ?_
          refine AW_r rfl rfl fun K hK => ?_
          simp (disch := omega) [wrap64, List.getElem?_eq_getElem, toNat_pred, Int.tdiv_eq_ediv_of_nonneg, cU]
          repeat' first | (exfalso; omega) | (refine CKd_v (am2s_cons am2_g am2s_nil) (specFOf _) rfl ?_; simp (disch := omega) [wrap64, List.getElem?_eq_getElem, toNat_pred, Int.tdiv_eq_ediv_of_nonneg, cU]) | (refine CKd_v (am2s_cons am2_g am2s_nil) (specSlowOf _) rfl ?_; simp (disch := omega) [wrap64, List.getElem?_eq_getElem, toNat_pred, Int.tdiv_eq_ediv_of_nonneg, cU]) | (refine ⟨fun _ => ?_, fun _ => ?_⟩) | (refine ⟨by omega, ?_⟩) | (intro _)
          all_goals (refine hK _ ?_; clear hK K)
          all_goals
            refine AW_ret (end_s ?_)
            simp (disch := omega) [wrap64, List.getElem?_eq_getElem, toNat_pred, Int.tdiv_eq_ediv_of_nonneg, cU, fastOf]
            all_goals first | omega | (simp_all; done) | (simp [List.take_of_length_le]; done) | ((try simp_all); (try simp (disch := omega) only [wrap64, Int.tdiv_eq_ediv_of_nonneg, Int.tmod_eq_emod_of_nonneg, and_true, true_and]); done) | ((try simp_all); (try simp (disch := omega) only [wrap64, Int.tdiv_eq_ediv_of_nonneg, Int.tmod_eq_emod_of_nonneg, and_true, true_and] at *); omega)
theorem implFastOf (n : Int) : PCall Try.prog 11 [(.g (.int .i64 (n)))] (.g (.int .i64 (fastOf n))) := by
  have hb := fOf_bd n
  have hs := slowOf_bd n
  refine gcall_of_walk Try.func11 (by rfl) (by rfl) (by rw [Try.ntmps11]; exact Nat.le_of_ble_eq_true rfl) rfl (by decide) ?_
  rw [Try.ntmps11]
  refine AW_k [(0, _)] ⟨rfl, trivial⟩ ?_
  refine AW_r rfl rfl fun K hK => ?_
  simp (disch := omega) [wrap64, List.getElem?_eq_getElem, toNat_pred, Int.tdiv_eq_ediv_of_nonneg, cU]
  repeat' first | (exfalso; omega) | (refine ⟨fun _ => ?_, fun _ => ?_⟩) | (refine ⟨by omega, ?_⟩) | (intro _)
  all_goals (refine hK _ ?_; clear hK K)
  all_goals
    refine AW_seq ?_
    refine AW_r rfl rfl fun K hK => ?_
    simp (disch := omega) [wrap64, List.getElem?_eq_getElem, toNat_pred, Int.tdiv_eq_ediv_of_nonneg, cU]
    repeat' first | (exfalso; omega) | (refine CKd_v (am2s_cons am2_g am2s_nil) (implFOf _) rfl ?_; simp (disch := omega) [wrap64, List.getElem?_eq_getElem, toNat_pred, Int.tdiv_eq_ediv_of_nonneg, cU]) | (refine ⟨fun _ => ?_, fun _ => ?_⟩) | (refine ⟨by omega, ?_⟩) | (intro _)
    all_goals (refine hK _ ?_; clear hK K)
    all_goals
      refine AW_cond rfl (fun hc6 => ?_) (fun hc6 => ?_)
      · try simp at hc6
        all_goals
          refine AW_r rfl rfl fun K hK => ?_
          simp (disch := omega) [wrap64, List.getElem?_eq_getElem, toNat_pred, Int.tdiv_eq_ediv_of_nonneg, cU]
          repeat' first | (exfalso; omega) | (refine ⟨fun _ => ?_, fun _ => ?_⟩) | (refine ⟨by omega, ?_⟩) | (intro _)
          all_goals (refine hK _ ?_; clear hK K)
          all_goals
            refine AW_ret (end_s ?_)
            simp (disch := omega) [wrap64, List.getElem?_eq_getElem, toNat_pred, Int.tdiv_eq_ediv_of_nonneg, cU, fastOf]
            all_goals first | omega | (simp_all; done) | (simp [List.take_of_length_le]; done) | ((try simp_all); (try simp (disch := omega) only [wrap64, Int.tdiv_eq_ediv_of_nonneg, Int.tmod_eq_emod_of_nonneg, and_true, true_and]); done) | ((try simp_all); (try simp (disch := omega) only [wrap64, Int.tdiv_eq_ediv_of_nonneg, Int.tmod_eq_emod_of_nonneg, and_true, true_and] at *); omega)
      · try simp at hc6
        all_goals
          refine AW_skip ?_
          refine AW_id ?_
          refine AW_r rfl rfl fun K hK => ?_
          simp (disch := omega) [wrap64, List.getElem?_eq_getElem, toNat_pred, Int.tdiv_eq_ediv_of_nonneg, cU]
          repeat' first | (exfalso; omega) | (refine CKd_v (am2s_cons am2_g am2s_nil) (implFOf _) rfl ?_; simp (disch := omega) [wrap64, List.getElem?_eq_getElem, toNat_pred, Int.tdiv_eq_ediv_of_nonneg, cU]) | (refine CKd_v (am2s_cons am2_g am2s_nil) (implSlowOf _) rfl ?_; simp (disch := omega) [wrap64, List.getElem?_eq_getElem, toNat_pred, Int.tdiv_eq_ediv_of_nonneg, cU]) | (refine ⟨fun _ => ?_, fun _ => ?_⟩) | (refine ⟨by omega, ?_⟩) | (intro _)
          all_goals (refine hK _ ?_; clear hK K)
          all_goals
            refine AW_ret (end_s ?_)
            simp (disch := omega) [wrap64, List.getElem?_eq_getElem, toNat_pred, Int.tdiv_eq_ediv_of_nonneg, cU, fastOf]
            all_goals first | omega | (simp_all; done) | (simp [List.take_of_length_le]; done) | ((try simp_all); (try simp (disch := omega) only [wrap64, Int.tdiv_eq_ediv_of_nonneg, Int.tmod_eq_emod_of_nonneg, and_true, true_and]); done) | ((try simp_all); (try simp (disch := omega) only [wrap64, Int.tdiv_eq_ediv_of_nonneg, Int.tmod_eq_emod_of_nonneg, and_true, true_and] at *); omega)
def meet (n a b : Int) : Int := if 1 ≤ n ∧ n ≤ 9 ∧ 0 ≤ a ∧ a ≤ n ∧ 0 ≤ b ∧ b ≤ n ∧ n ≤ a + b then a + b - n else 0
theorem specMeet (n a b : Int) : PCall Try.prog 16 [(.g (.int .i64 (n))), (.g (.int .i64 (a))), (.g (.int .i64 (b)))] (.g (.int .i64 (meet n a b))) := by
  refine gcall_of_walk Try.func16 (by rfl) (by rfl) (by rw [Try.ntmps16]; exact Nat.le_of_ble_eq_true rfl) rfl (by decide) ?_
  rw [Try.ntmps16]
  refine AW_k [(0, _), (1, _), (2, _)] ⟨rfl, rfl, rfl, trivial⟩ ?_
  refine AW_r rfl rfl fun K hK => ?_
  simp (disch := omega) [wrap64, List.getElem?_eq_getElem, toNat_pred, Int.tdiv_eq_ediv_of_nonneg, cU]
  repeat' first | (exfalso; omega) | (refine ⟨fun _ => ?_, fun _ => ?_⟩) | (refine ⟨by omega, ?_⟩) | (intro _)
  all_goals (refine hK _ ?_; clear hK K)
  all_goals
    refine AW_seq ?_
    refine AW_r rfl rfl fun K hK => ?_
    simp (disch := omega) [wrap64, List.getElem?_eq_getElem, toNat_pred, Int.tdiv_eq_ediv_of_nonneg, cU]
    repeat' first | (exfalso; omega) | (refine CKd_v (am2s_cons am2_g (am2s_cons am2_g (am2s_cons am2_g am2s_nil))) (l1In _ _ _) rfl ?_; simp (disch := omega) [wrap64, List.getElem?_eq_getElem, toNat_pred, Int.tdiv_eq_ediv_of_nonneg, cU]) | (refine ⟨fun _ => ?_, fun _ => ?_⟩) | (refine ⟨by omega, ?_⟩) | (intro _)
    all_goals (refine hK _ ?_; clear hK K)
    all_goals
      refine AW_cond rfl (fun hc7 => ?_) (fun hc7 => ?_)
      · try simp at hc7
        all_goals
          refine AW_r rfl rfl fun K hK => ?_
          simp (disch := omega) [wrap64, List.getElem?_eq_getElem, toNat_pred, Int.tdiv_eq_ediv_of_nonneg, cU]
          repeat' first | (exfalso; omega) | (refine ⟨fun _ => ?_, fun _ => ?_⟩) | (refine ⟨by omega, ?_⟩) | (intro _)
          all_goals (refine hK _ ?_; clear hK K)
          all_goals
            refine AW_ret (end_s ?_)
            simp (disch := omega) [wrap64, List.getElem?_eq_getElem, toNat_pred, Int.tdiv_eq_ediv_of_nonneg, cU, meet]
            all_goals ((try rw [wrap64 (by omega) (by omega)] at hc7); omega)
      · try simp at hc7
        all_goals
          refine AW_skip ?_
          refine AW_id ?_
          refine AW_r rfl rfl fun K hK => ?_
          simp (disch := omega) [wrap64, List.getElem?_eq_getElem, toNat_pred, Int.tdiv_eq_ediv_of_nonneg, cU]
          repeat' first | (exfalso; omega) | (refine ⟨fun _ => ?_, fun _ => ?_⟩) | (refine ⟨by omega, ?_⟩) | (intro _)
          all_goals (refine hK _ ?_; clear hK K)
          all_goals
            refine AW_ret (end_s ?_)
            simp (disch := omega) [wrap64, List.getElem?_eq_getElem, toNat_pred, Int.tdiv_eq_ediv_of_nonneg, cU, meet]
            all_goals ((try rw [wrap64 (by omega) (by omega)] at hc7); omega)
theorem implMeet (n a b : Int) : PCall Try.prog 15 [(.g (.int .i64 (n))), (.g (.int .i64 (a))), (.g (.int .i64 (b)))] (.g (.int .i64 (meet n a b))) := by
  refine gcall_of_walk Try.func15 (by rfl) (by rfl) (by rw [Try.ntmps15]; exact Nat.le_of_ble_eq_true rfl) rfl (by decide) ?_
  rw [Try.ntmps15]
  refine AW_k [(0, _), (1, _), (2, _)] ⟨rfl, rfl, rfl, trivial⟩ ?_
  refine AW_r rfl rfl fun K hK => ?_
  simp (disch := omega) [wrap64, List.getElem?_eq_getElem, toNat_pred, Int.tdiv_eq_ediv_of_nonneg, cU]
  repeat' first | (exfalso; omega) | (refine ⟨fun _ => ?_, fun _ => ?_⟩) | (refine ⟨by omega, ?_⟩) | (intro _)
  all_goals (refine hK _ ?_; clear hK K)
  all_goals
    refine AW_seq ?_
    refine AW_r rfl rfl fun K hK => ?_
    simp (disch := omega) [wrap64, List.getElem?_eq_getElem, toNat_pred, Int.tdiv_eq_ediv_of_nonneg, cU]
    repeat' first | (exfalso; omega) | (refine CKd_v (am2s_cons am2_g (am2s_cons am2_g (am2s_cons am2_g am2s_nil))) (within _ _ _) rfl ?_; simp (disch := omega) [wrap64, List.getElem?_eq_getElem, toNat_pred, Int.tdiv_eq_ediv_of_nonneg, cU]) | (refine ⟨fun _ => ?_, fun _ => ?_⟩) | (refine ⟨by omega, ?_⟩) | (intro _)
    all_goals (refine hK _ ?_; clear hK K)
    all_goals
      refine AW_cond rfl (fun hc8 => ?_) (fun hc8 => ?_)
      · try simp at hc8
        all_goals
          refine AW_r rfl rfl fun K hK => ?_
          simp (disch := omega) [wrap64, List.getElem?_eq_getElem, toNat_pred, Int.tdiv_eq_ediv_of_nonneg, cU]
          repeat' first | (exfalso; omega) | (refine ⟨fun _ => ?_, fun _ => ?_⟩) | (refine ⟨by omega, ?_⟩) | (intro _)
          all_goals (refine hK _ ?_; clear hK K)
          all_goals
            refine AW_ret (end_s ?_)
            simp (disch := omega) [wrap64, List.getElem?_eq_getElem, toNat_pred, Int.tdiv_eq_ediv_of_nonneg, cU, meet]
            all_goals first | omega | (split <;> omega) | trace_state
      · try simp at hc8
        all_goals
          refine AW_skip ?_
          refine AW_id ?_
          refine AW_r rfl rfl fun K hK => ?_
          simp (disch := omega) [wrap64, List.getElem?_eq_getElem, toNat_pred, Int.tdiv_eq_ediv_of_nonneg, cU]
          repeat' first | (exfalso; omega) | (refine ⟨fun _ => ?_, fun _ => ?_⟩) | (refine ⟨by omega, ?_⟩) | (intro _)
          all_goals (refine hK _ ?_; clear hK K)
          all_goals
            refine AW_ret (end_s ?_)
            simp (disch := omega) [wrap64, List.getElem?_eq_getElem, toNat_pred, Int.tdiv_eq_ediv_of_nonneg, cU, meet]
            all_goals first | omega | (split <;> omega) | trace_state
def tol (n d : Int) : Bool := decide (0 ≤ fOf n) && decide (0 ≤ d) && decide (d ≤ fOf n)
theorem fOf_slow (n : Int) (h : 0 ≤ fOf n) : 1 ≤ n ∧ n ≤ 9 ∧ fOf n = (n - 1) / 2 ∧ n % 2 = 1 := by
  unfold fOf at h ⊢
  split at h
  · rename_i hc
    rw [if_pos hc, Int.tdiv_eq_ediv_of_nonneg (by omega)]
    rw [Int.tmod_eq_emod_of_nonneg (by omega)] at hc
    omega
  · omega
theorem specTol (n d : Int) : PCall Try.prog 18 [(.g (.int .i64 (n))), (.g (.int .i64 (d)))] (.g (.bool (tol n d))) := by
  refine gcall_of_walk Try.func18 (by rfl) (by rfl) (by rw [Try.ntmps18]; exact Nat.le_of_ble_eq_true rfl) rfl (by decide) ?_
  rw [Try.ntmps18]
  refine AW_k [(0, _), (1, _)] ⟨rfl, rfl, trivial⟩ ?_
  refine AW_r rfl rfl fun K hK => ?_
  simp (disch := omega) [wrap64, List.getElem?_eq_getElem, toNat_pred, Int.tdiv_eq_ediv_of_nonneg, cU]
  repeat' first | (exfalso; omega) | (refine ⟨fun _ => ?_, fun _ => ?_⟩) | (refine ⟨by omega, ?_⟩) | (intro _)
  all_goals (refine hK _ ?_; clear hK K)
  all_goals
    refine AW_r rfl rfl fun K hK => ?_
    simp (disch := omega) [wrap64, List.getElem?_eq_getElem, toNat_pred, Int.tdiv_eq_ediv_of_nonneg, cU]
    repeat' first | (exfalso; omega) | (refine CKd_v (am2s_cons am2_g am2s_nil) (specFOf _) rfl ?_; simp (disch := omega) [wrap64, List.getElem?_eq_getElem, toNat_pred, Int.tdiv_eq_ediv_of_nonneg, cU]) | (refine ⟨fun _ => ?_, fun _ => ?_⟩) | (refine ⟨by omega, ?_⟩) | (intro _)
    all_goals (refine hK _ ?_; clear hK K)
    all_goals
      refine AW_ret (end_s ?_)
      simp (disch := omega) [wrap64, List.getElem?_eq_getElem, toNat_pred, Int.tdiv_eq_ediv_of_nonneg, cU, tol]
      all_goals first | omega | (simp_all; done) | (simp [List.take_of_length_le]; done) | ((try simp_all); (try simp (disch := omega) only [wrap64, Int.tdiv_eq_ediv_of_nonneg, Int.tmod_eq_emod_of_nonneg, and_true, true_and]); done) | ((try simp_all); (try simp (disch := omega) only [wrap64, Int.tdiv_eq_ediv_of_nonneg, Int.tmod_eq_emod_of_nonneg, and_true, true_and] at *); omega)
theorem implTol (n d : Int) : PCall Try.prog 17 [(.g (.int .i64 (n))), (.g (.int .i64 (d)))] (.g (.bool (tol n d))) := by
  have hb := fOf_bd n
  have hs := slowOf_bd n
  have hf := fOf_slow n
  have hw : 0 ≤ fOf n → slowOf n = fOf n + 1 := fun h => by unfold slowOf; rw [if_neg (by omega)]
  have hm : 0 ≤ fOf n → IntKind.i64.wrap (n - slowOf n) = fOf n := fun h => by have := hf h; have := hw h; rw [wrap64 (by omega) (by omega)]; omega
  refine gcall_of_walk Try.func17 (by rfl) (by rfl) (by rw [Try.ntmps17]; exact Nat.le_of_ble_eq_true rfl) rfl (by decide) ?_
  rw [Try.ntmps17]
  refine AW_k [(0, _), (1, _)] ⟨rfl, rfl, trivial⟩ ?_
  refine AW_r rfl rfl fun K hK => ?_
  simp (disch := omega) [wrap64, List.getElem?_eq_getElem, toNat_pred, Int.tdiv_eq_ediv_of_nonneg, cU]
  repeat' first | (exfalso; omega) | (refine ⟨fun _ => ?_, fun _ => ?_⟩) | (refine ⟨by omega, ?_⟩) | (intro _)
  all_goals (refine hK _ ?_; clear hK K)
  all_goals
    refine AW_r rfl rfl fun K hK => ?_
    simp (disch := omega) [wrap64, List.getElem?_eq_getElem, toNat_pred, Int.tdiv_eq_ediv_of_nonneg, cU]
    repeat' first | (exfalso; omega) | (refine CKd_v (am2s_cons am2_g am2s_nil) (implFOf _) rfl ?_; simp (disch := omega) [wrap64, List.getElem?_eq_getElem, toNat_pred, Int.tdiv_eq_ediv_of_nonneg, cU]) | (refine CKd_v (am2s_cons am2_g am2s_nil) (implSlowOf _) rfl ?_; simp (disch := omega) [wrap64, List.getElem?_eq_getElem, toNat_pred, Int.tdiv_eq_ediv_of_nonneg, cU]) | (refine ⟨fun _ => ?_, fun _ => ?_⟩) | (refine ⟨by omega, ?_⟩) | (intro _)
    all_goals (refine hK _ ?_; clear hK K)
    all_goals
      refine AW_ret (end_s ?_)
      simp (disch := omega) [wrap64, List.getElem?_eq_getElem, toNat_pred, Int.tdiv_eq_ediv_of_nonneg, cU, tol]
      all_goals (first | (rw [hm ‹_›]; simp_all; done) | (simp_all; done) | (rw [Bool.eq_iff_iff]; simp; omega) | omega | trace_state)
def n23 (l : List Int) (c : Cur) : Int := pickZ [1, 3, 5, 7, 9, 2, 4, 0, -1, 11] (below l 10 c)
theorem l23N (l : List Int) (hl : Code l) (c : Cur) : XCall Try.prog 27 [.ptr 8 0] [.cells (curC l c)] (.g (.int .i64 (n23 l c))) [.cells (curC l (belowS l 10 c))] [] := by
  refine xcall_of_walk Try.func27 (by rfl) (by rfl) (by rw [Try.ntmps27]; exact Nat.le_of_ble_eq_true rfl) rfl (by simp) rfl rfl ?_
  rw [Try.ntmps27]
  refine AW_x1 (.cells (curC l c)) (by simp [cvO]) ?_
  refine AW_k [(0, _)] ⟨rfl, trivial⟩ ?_
  refine AW_x rfl rfl fun K hK => ?_
  simp (disch := omega) [wrap64, List.getElem?_eq_getElem, toNat_pred, Int.tdiv_eq_ediv_of_nonneg, cU]
  repeat' first | (exfalso; omega) | (refine ⟨fun _ => ?_, fun _ => ?_⟩) | (refine ⟨by omega, ?_⟩) | (intro _)
  all_goals (refine hK _ ?_; clear hK K)
  all_goals
    refine AW_x rfl rfl fun K hK => ?_
    simp (disch := omega) [wrap64, List.getElem?_eq_getElem, toNat_pred, Int.tdiv_eq_ediv_of_nonneg, cU]
    repeat' first | (exfalso; omega) | (refine XKd_cur2 (fun _ => xs_p (xs_a xs_z)) (l1PickInt l hl _ [1, 3, 5, 7, 9, 2, 4, 0, -1, 11] (by simp)) rfl rfl rfl (by decide) rfl ?_; simp (disch := omega) [wrap64, List.getElem?_eq_getElem, toNat_pred, Int.tdiv_eq_ediv_of_nonneg, cU]) | (refine ⟨fun _ => ?_, fun _ => ?_⟩) | (refine ⟨by omega, ?_⟩) | (intro _)
    all_goals (refine hK _ ?_; clear hK K)
    all_goals
      refine AW_ret (end_x [] [] (by simp [List.range_succ, lk_cons, lk_nil, upd_app]) (by simp) ?_)
      simp (disch := omega) [wrap64, List.getElem?_eq_getElem, toNat_pred, Int.tdiv_eq_ediv_of_nonneg, cU]
      all_goals rfl
theorem DrawFOf (l : List Int) (hl : Code l) : XCall Try.prog 6 [.sl 1 (l.map cU)] [] (.g (.int .i64 (n23 l (cur0 l)))) [] [] := by
  refine xcall_of_walk Try.func6 (by rfl) (by rfl) (by rw [Try.ntmps6]; exact Nat.le_of_ble_eq_true rfl) rfl (by simp) rfl rfl ?_
  rw [Try.ntmps6]
  refine AW_x0   ?_
  refine AW_k [(0, _)] ⟨rfl, trivial⟩ ?_
  refine AW_x rfl rfl fun K hK => ?_
  simp (disch := omega) [wrap64, List.getElem?_eq_getElem, toNat_pred, Int.tdiv_eq_ediv_of_nonneg, cU]
  repeat' first | (exfalso; omega) | (refine ⟨fun _ => ?_, fun _ => ?_⟩) | (refine ⟨by omega, ?_⟩) | (intro _)
  all_goals (refine hK _ ?_; clear hK K)
  all_goals
    refine AW_x rfl rfl fun K hK => ?_
    simp (disch := omega) [wrap64, List.getElem?_eq_getElem, toNat_pred, Int.tdiv_eq_ediv_of_nonneg, cU]
    repeat' first | (exfalso; omega) | (refine XKd_x [] false [] (l1New l hl) ?_ ?_ ?_; (focus (simp [List.range_succ, nmC]; done)); (focus (simp (disch := omega) [wrap64, List.getElem?_eq_getElem, toNat_pred, Int.tdiv_eq_ediv_of_nonneg, cU, take_map_n]; done)); simp (disch := omega) [wrap64, List.getElem?_eq_getElem, toNat_pred, Int.tdiv_eq_ediv_of_nonneg, cU]) | (refine ⟨fun _ => ?_, fun _ => ?_⟩) | (refine ⟨by omega, ?_⟩) | (intro _)
    all_goals (refine hK _ ?_; clear hK K)
    all_goals
      refine AW_x rfl rfl fun K hK => ?_
      simp (disch := omega) [wrap64, List.getElem?_eq_getElem, toNat_pred, Int.tdiv_eq_ediv_of_nonneg, cU]
      repeat' first | (exfalso; omega) | (refine XKd_cur (fun _ => xs_p xs_z) (l23N l hl _) rfl rfl ?_; simp (disch := omega) [wrap64, List.getElem?_eq_getElem, toNat_pred, Int.tdiv_eq_ediv_of_nonneg, cU]) | (refine ⟨fun _ => ?_, fun _ => ?_⟩) | (refine ⟨by omega, ?_⟩) | (intro _)
      all_goals (refine hK _ ?_; clear hK K)
      all_goals
        refine AW_ret (end_x [] [] (by simp [List.range_succ, lk_cons, lk_nil, upd_app]) (by simp) ?_)
        simp (disch := omega) [wrap64, List.getElem?_eq_getElem, toNat_pred, Int.tdiv_eq_ediv_of_nonneg, cU]
        all_goals first | rfl | trace_state
theorem DrawMeet (l : List Int) (hl : Code l) : ∃ a b c, XCall Try.prog 13 [.sl 1 (l.map cU)] [] (.tup [(.g (.int .i64 (a))), (.g (.int .i64 (b))), (.g (.int .i64 (c)))]) [] [] := by
  refine ⟨n23 l (cur0 l), IntKind.i64.wrap (below l 11 (belowS l 10 (cur0 l)) - 1), IntKind.i64.wrap (below l 11 (belowS l 11 (belowS l 10 (cur0 l))) - 1), ?_⟩
  refine xcall_of_walk Try.func13 (by rfl) (by rfl) (by rw [Try.ntmps13]; exact Nat.le_of_ble_eq_true rfl) rfl (by simp) rfl rfl ?_
  rw [Try.ntmps13]
  refine AW_x0   ?_
  refine AW_k [(0, _)] ⟨rfl, trivial⟩ ?_
  refine AW_x rfl rfl fun K hK => ?_
  simp (disch := omega) [wrap64, List.getElem?_eq_getElem, toNat_pred, Int.tdiv_eq_ediv_of_nonneg, cU]
  repeat' first | (exfalso; omega) | (refine ⟨fun _ => ?_, fun _ => ?_⟩) | (refine ⟨by omega, ?_⟩) | (intro _)
  all_goals (refine hK _ ?_; clear hK K)
  all_goals
    refine AW_x rfl rfl fun K hK => ?_
    simp (disch := omega) [wrap64, List.getElem?_eq_getElem, toNat_pred, Int.tdiv_eq_ediv_of_nonneg, cU]
    repeat' first | (exfalso; omega) | (refine XKd_x [] false [] (l1New l hl) ?_ ?_ ?_; (focus (simp [List.range_succ, nmC]; done)); (focus (simp (disch := omega) [wrap64, List.getElem?_eq_getElem, toNat_pred, Int.tdiv_eq_ediv_of_nonneg, cU, take_map_n]; done)); simp (disch := omega) [wrap64, List.getElem?_eq_getElem, toNat_pred, Int.tdiv_eq_ediv_of_nonneg, cU]) | (refine ⟨fun _ => ?_, fun _ => ?_⟩) | (refine ⟨by omega, ?_⟩) | (intro _)
    all_goals (refine hK _ ?_; clear hK K)
    all_goals
      refine AW_x rfl rfl fun K hK => ?_
      simp (disch := omega) [wrap64, List.getElem?_eq_getElem, toNat_pred, Int.tdiv_eq_ediv_of_nonneg, cU]
      repeat' first | (exfalso; omega) | (refine XKd_cur (fun _ => xs_p xs_z) (l23N l hl _) rfl rfl ?_; simp (disch := omega) [wrap64, List.getElem?_eq_getElem, toNat_pred, Int.tdiv_eq_ediv_of_nonneg, cU]) | (refine ⟨fun _ => ?_, fun _ => ?_⟩) | (refine ⟨by omega, ?_⟩) | (intro _)
      all_goals (refine hK _ ?_; clear hK K)
      all_goals
        refine AW_x rfl rfl fun K hK => ?_
        simp (disch := omega) [wrap64, List.getElem?_eq_getElem, toNat_pred, Int.tdiv_eq_ediv_of_nonneg, cU]
        repeat' first | (exfalso; omega) | (refine XKd_cur (fun _ => xs_p (xs_g xs_z)) (l1Below l hl _ _) rfl rfl ?_; simp (disch := omega) [wrap64, List.getElem?_eq_getElem, toNat_pred, Int.tdiv_eq_ediv_of_nonneg, cU]) | (refine ⟨fun _ => ?_, fun _ => ?_⟩) | (refine ⟨by omega, ?_⟩) | (intro _)
        all_goals (refine hK _ ?_; clear hK K)
        all_goals
          refine AW_x rfl rfl fun K hK => ?_
          simp (disch := omega) [wrap64, List.getElem?_eq_getElem, toNat_pred, Int.tdiv_eq_ediv_of_nonneg, cU]
          repeat' first | (exfalso; omega) | (refine XKd_cur (fun _ => xs_p (xs_g xs_z)) (l1Below l hl _ _) rfl rfl ?_; simp (disch := omega) [wrap64, List.getElem?_eq_getElem, toNat_pred, Int.tdiv_eq_ediv_of_nonneg, cU]) | (refine ⟨fun _ => ?_, fun _ => ?_⟩) | (refine ⟨by omega, ?_⟩) | (intro _)
          all_goals (refine hK _ ?_; clear hK K)
          all_goals
            refine AW_ret (end_x [] [] (by simp [List.range_succ, lk_cons, lk_nil, upd_app]) (by simp) ?_)
            simp (disch := omega) [wrap64, List.getElem?_eq_getElem, toNat_pred, Int.tdiv_eq_ediv_of_nonneg, cU]
            all_goals first | exact ⟨rfl, rfl, rfl⟩ | trace_state
theorem DrawTolerates (l : List Int) (hl : Code l) : ∃ a b, XCall Try.prog 14 [.sl 1 (l.map cU)] [] (.tup [(.g (.int .i64 (a))), (.g (.int .i64 (b)))]) [] [] := by
  refine ⟨n23 l (cur0 l), IntKind.i64.wrap (below l 7 (belowS l 10 (cur0 l)) - 1), ?_⟩
  refine xcall_of_walk Try.func14 (by rfl) (by rfl) (by rw [Try.ntmps14]; exact Nat.le_of_ble_eq_true rfl) rfl (by simp) rfl rfl ?_
  rw [Try.ntmps14]
  refine AW_x0   ?_
  refine AW_k [(0, _)] ⟨rfl, trivial⟩ ?_
  refine AW_x rfl rfl fun K hK => ?_
  simp (disch := omega) [wrap64, List.getElem?_eq_getElem, toNat_pred, Int.tdiv_eq_ediv_of_nonneg, cU]
  repeat' first | (exfalso; omega) | (refine ⟨fun _ => ?_, fun _ => ?_⟩) | (refine ⟨by omega, ?_⟩) | (intro _)
  all_goals (refine hK _ ?_; clear hK K)
  all_goals
    refine AW_x rfl rfl fun K hK => ?_
    simp (disch := omega) [wrap64, List.getElem?_eq_getElem, toNat_pred, Int.tdiv_eq_ediv_of_nonneg, cU]
    repeat' first | (exfalso; omega) | (refine XKd_x [] false [] (l1New l hl) ?_ ?_ ?_; (focus (simp [List.range_succ, nmC]; done)); (focus (simp (disch := omega) [wrap64, List.getElem?_eq_getElem, toNat_pred, Int.tdiv_eq_ediv_of_nonneg, cU, take_map_n]; done)); simp (disch := omega) [wrap64, List.getElem?_eq_getElem, toNat_pred, Int.tdiv_eq_ediv_of_nonneg, cU]) | (refine ⟨fun _ => ?_, fun _ => ?_⟩) | (refine ⟨by omega, ?_⟩) | (intro _)
    all_goals (refine hK _ ?_; clear hK K)
    all_goals
      refine AW_x rfl rfl fun K hK => ?_
      simp (disch := omega) [wrap64, List.getElem?_eq_getElem, toNat_pred, Int.tdiv_eq_ediv_of_nonneg, cU]
      repeat' first | (exfalso; omega) | (refine XKd_cur (fun _ => xs_p xs_z) (l23N l hl _) rfl rfl ?_; simp (disch := omega) [wrap64, List.getElem?_eq_getElem, toNat_pred, Int.tdiv_eq_ediv_of_nonneg, cU]) | (refine ⟨fun _ => ?_, fun _ => ?_⟩) | (refine ⟨by omega, ?_⟩) | (intro _)
      all_goals (refine hK _ ?_; clear hK K)
      all_goals
        refine AW_x rfl rfl fun K hK => ?_
        simp (disch := omega) [wrap64, List.getElem?_eq_getElem, toNat_pred, Int.tdiv_eq_ediv_of_nonneg, cU]
        repeat' first | (exfalso; omega) | (refine XKd_cur (fun _ => xs_p (xs_g xs_z)) (l1Below l hl _ _) rfl rfl ?_; simp (disch := omega) [wrap64, List.getElem?_eq_getElem, toNat_pred, Int.tdiv_eq_ediv_of_nonneg, cU]) | (refine ⟨fun _ => ?_, fun _ => ?_⟩) | (refine ⟨by omega, ?_⟩) | (intro _)
        all_goals (refine hK _ ?_; clear hK K)
        all_goals
          refine AW_ret (end_x [] [] (by simp [List.range_succ, lk_cons, lk_nil, upd_app]) (by simp) ?_)
          simp (disch := omega) [wrap64, List.getElem?_eq_getElem, toNat_pred, Int.tdiv_eq_ediv_of_nonneg, cU]
          all_goals first | exact ⟨rfl, rfl⟩ | trace_state
theorem big (l : List Int) (hw : l.length < 9223372036854775808) : PCall Try.prog 5 [.sl 1 (l.map cU)] (.g (.bool (decide (1048576 < l.length)))) := by
  refine gcall_of_walk Try.func5 (by rfl) (by rfl) (by rw [Try.ntmps5]; exact Nat.le_of_ble_eq_true rfl) rfl (by decide) ?_
  rw [Try.ntmps5]
  refine AW_k [(0, _)] ⟨rfl, trivial⟩ ?_
  refine AW_r rfl rfl fun K hK => ?_
  simp (disch := omega) [wrap64, List.getElem?_eq_getElem, toNat_pred, Int.tdiv_eq_ediv_of_nonneg, cU]
  repeat' first | (exfalso; omega) | (refine ⟨fun _ => ?_, fun _ => ?_⟩) | (refine ⟨by omega, ?_⟩) | (intro _)
  all_goals (refine hK _ ?_; clear hK K)
  all_goals
    refine AW_r rfl rfl fun K hK => ?_
    simp (disch := omega) [wrap64, List.getElem?_eq_getElem, toNat_pred, Int.tdiv_eq_ediv_of_nonneg, cU]
    repeat' first | (exfalso; omega) | (refine ⟨fun _ => ?_, fun _ => ?_⟩) | (refine ⟨by omega, ?_⟩) | (intro _)
    all_goals (refine hK _ ?_; clear hK K)
    all_goals
      refine AW_ret (end_s ?_)
      simp (disch := omega) [wrap64, List.getElem?_eq_getElem, toNat_pred, Int.tdiv_eq_ediv_of_nonneg, cU]
      all_goals first | omega | (simp_all; done) | (simp [List.take_of_length_le]; done) | ((try simp_all); (try simp (disch := omega) only [wrap64, Int.tdiv_eq_ediv_of_nonneg, Int.tmod_eq_emod_of_nonneg, and_true, true_and]); done) | ((try simp_all); (try simp (disch := omega) only [wrap64, Int.tdiv_eq_ediv_of_nonneg, Int.tmod_eq_emod_of_nonneg, and_true, true_and] at *); omega)
theorem meet_comm (n a b : Int) : meet n a b = meet n b a := by unfold meet; split <;> split <;> omega
theorem fOf_neg (n : Int) (h : fOf n < 0) : slowOf n = 0 ∧ fastOf n = 0 ∧ tol n 0 = false := by
  unfold fastOf slowOf tol
  simp [h]
theorem fOf_pos (n : Int) (h : 0 ≤ fOf n) : 1 ≤ meet n (slowOf n) (slowOf n) ∧ (slowOf n).tdiv 2 ≤ meet n (fastOf n) (slowOf n) ∧ tol n (fOf n) = true ∧ tol n (fOf n + 1) = false := by
  obtain ⟨h1, h2, h3, h4⟩ := fOf_slow n h
  unfold fastOf slowOf tol
  rw [if_neg (by omega), if_neg (by omega), Int.tdiv_eq_ediv_of_nonneg (by omega)]
  unfold meet
  refine ⟨?_, ?_, ?_, ?_⟩
  · rw [if_pos (by omega)]; omega
  · rw [if_pos (by omega)]; omega
  · simp [h]
  · simp; intro _ _; omega
theorem lawQuorumB (l : List Int) (hw : l.length < 9223372036854775808) (hl : ¬ l.length ≤ 1048576) : XCall Try.prog 3 [.sl 1 (l.map cU)] [] (.g (.bool (true))) [] [] := by
  refine xcall_of_walk Try.func3 (by rfl) (by rfl) (by rw [Try.ntmps3]; exact Nat.le_of_ble_eq_true rfl) rfl (by simp) rfl rfl ?_
  rw [Try.ntmps3]
  refine AW_x0   ?_
  refine AW_k [(0, _)] ⟨rfl, trivial⟩ ?_
  refine AW_x rfl rfl fun K hK => ?_
  simp (disch := omega) [wrap64, List.getElem?_eq_getElem, toNat_pred, Int.tdiv_eq_ediv_of_nonneg, cU]
  repeat' first | (exfalso; omega) | (refine ⟨fun _ => ?_, fun _ => ?_⟩) | (refine ⟨by omega, ?_⟩) | (intro _)
  all_goals (refine hK _ ?_; clear hK K)
  all_goals
    refine AW_seq ?_
    refine AW_x rfl rfl fun K hK => ?_
    simp (disch := omega) [wrap64, List.getElem?_eq_getElem, toNat_pred, Int.tdiv_eq_ediv_of_nonneg, cU]
    repeat' first | (exfalso; omega) | (refine XKd_v (am2s_cons am2_sl am2s_nil) (big _ (by omega)) rfl ?_; simp (disch := omega) [wrap64, List.getElem?_eq_getElem, toNat_pred, Int.tdiv_eq_ediv_of_nonneg, cU]) | (refine XKd_p (big _ (by omega)) (by rfl) ?_ ?_; (focus (simp (disch := omega) [wrap64, List.getElem?_eq_getElem, toNat_pred, Int.tdiv_eq_ediv_of_nonneg, cU, take_map_n]; done)); simp (disch := omega) [wrap64, List.getElem?_eq_getElem, toNat_pred, Int.tdiv_eq_ediv_of_nonneg, cU]) | (refine ⟨fun _ => ?_, fun _ => ?_⟩) | (refine ⟨by omega, ?_⟩) | (intro _)
    all_goals (refine hK _ ?_; clear hK K)
    all_goals
      refine AW_cond rfl (fun hc9 => ?_) (fun hc9 => ?_)
      · try simp at hc9
        all_goals
          refine AW_x rfl rfl fun K hK => ?_
          simp (disch := omega) [wrap64, List.getElem?_eq_getElem, toNat_pred, Int.tdiv_eq_ediv_of_nonneg, cU]
          repeat' first | (exfalso; omega) | (refine ⟨fun _ => ?_, fun _ => ?_⟩) | (refine ⟨by omega, ?_⟩) | (intro _)
          all_goals (refine hK _ ?_; clear hK K)
          all_goals
            refine AW_ret (end_x [] [] (by simp [List.range_succ, lk_cons, lk_nil, upd_app]) (by simp) ?_)
            simp (disch := omega) [wrap64, List.getElem?_eq_getElem, toNat_pred, Int.tdiv_eq_ediv_of_nonneg, cU]
            all_goals first | rfl | omega | trace_state
      · try simp at hc9
        all_goals
          refine AW_skip ?_
          refine AW_id ?_
          refine AW_x rfl rfl fun K hK => ?_
          simp (disch := omega) [wrap64, List.getElem?_eq_getElem, toNat_pred, Int.tdiv_eq_ediv_of_nonneg, cU]
          repeat' first | (exfalso; omega) | (refine ⟨fun _ => ?_, fun _ => ?_⟩) | (refine ⟨by omega, ?_⟩) | (intro _)
          all_goals (refine hK _ ?_; clear hK K)
          all_goals
            refine AW_x rfl rfl fun K hK => ?_
            simp (disch := omega) [wrap64, List.getElem?_eq_getElem, toNat_pred, Int.tdiv_eq_ediv_of_nonneg, cU]
            repeat' first | (exfalso; omega) | (refine XKd_v (am2s_cons am2_g am2s_nil) (implFOf _) rfl ?_; simp (disch := omega) [wrap64, List.getElem?_eq_getElem, toNat_pred, Int.tdiv_eq_ediv_of_nonneg, cU]) | (refine XKd_p (implFOf _) (by rfl) ?_ ?_; (focus (simp (disch := omega) [wrap64, List.getElem?_eq_getElem, toNat_pred, Int.tdiv_eq_ediv_of_nonneg, cU, take_map_n]; done)); simp (disch := omega) [wrap64, List.getElem?_eq_getElem, toNat_pred, Int.tdiv_eq_ediv_of_nonneg, cU]) | (refine ⟨fun _ => ?_, fun _ => ?_⟩) | (refine ⟨by omega, ?_⟩) | (intro _)
            all_goals (refine hK _ ?_; clear hK K)
            all_goals
              refine AW_seq ?_
              refine AW_x rfl rfl fun K hK => ?_
              simp (disch := omega) [wrap64, List.getElem?_eq_getElem, toNat_pred, Int.tdiv_eq_ediv_of_nonneg, cU]
              repeat' first | (exfalso; omega) | (refine XKd_v (am2s_cons am2_g am2s_nil) (specFOf _) rfl ?_; simp (disch := omega) [wrap64, List.getElem?_eq_getElem, toNat_pred, Int.tdiv_eq_ediv_of_nonneg, cU]) | (refine XKd_p (specFOf _) (by rfl) ?_ ?_; (focus (simp (disch := omega) [wrap64, List.getElem?_eq_getElem, toNat_pred, Int.tdiv_eq_ediv_of_nonneg, cU, take_map_n]; done)); simp (disch := omega) [wrap64, List.getElem?_eq_getElem, toNat_pred, Int.tdiv_eq_ediv_of_nonneg, cU]) | (refine XKd_v (am2s_cons am2_g am2s_nil) (implSlowOf _) rfl ?_; simp (disch := omega) [wrap64, List.getElem?_eq_getElem, toNat_pred, Int.tdiv_eq_ediv_of_nonneg, cU]) | (refine XKd_p (implSlowOf _) (by rfl) ?_ ?_; (focus (simp (disch := omega) [wrap64, List.getElem?_eq_getElem, toNat_pred, Int.tdiv_eq_ediv_of_nonneg, cU, take_map_n]; done)); simp (disch := omega) [wrap64, List.getElem?_eq_getElem, toNat_pred, Int.tdiv_eq_ediv_of_nonneg, cU]) | (refine XKd_v (am2s_cons am2_g am2s_nil) (specSlowOf _) rfl ?_; simp (disch := omega) [wrap64, List.getElem?_eq_getElem, toNat_pred, Int.tdiv_eq_ediv_of_nonneg, cU]) | (refine XKd_p (specSlowOf _) (by rfl) ?_ ?_; (focus (simp (disch := omega) [wrap64, List.getElem?_eq_getElem, toNat_pred, Int.tdiv_eq_ediv_of_nonneg, cU, take_map_n]; done)); simp (disch := omega) [wrap64, List.getElem?_eq_getElem, toNat_pred, Int.tdiv_eq_ediv_of_nonneg, cU]) | (refine XKd_v (am2s_cons am2_g am2s_nil) (implFastOf _) rfl ?_; simp (disch := omega) [wrap64, List.getElem?_eq_getElem, toNat_pred, Int.tdiv_eq_ediv_of_nonneg, cU]) | (refine XKd_p (implFastOf _) (by rfl) ?_ ?_; (focus (simp (disch := omega) [wrap64, List.getElem?_eq_getElem, toNat_pred, Int.tdiv_eq_ediv_of_nonneg, cU, take_map_n]; done)); simp (disch := omega) [wrap64, List.getElem?_eq_getElem, toNat_pred, Int.tdiv_eq_ediv_of_nonneg, cU]) | (refine XKd_v (am2s_cons am2_g am2s_nil) (specFastOf _) rfl ?_; simp (disch := omega) [wrap64, List.getElem?_eq_getElem, toNat_pred, Int.tdiv_eq_ediv_of_nonneg, cU]) | (refine XKd_p (specFastOf _) (by rfl) ?_ ?_; (focus (simp (disch := omega) [wrap64, List.getElem?_eq_getElem, toNat_pred, Int.tdiv_eq_ediv_of_nonneg, cU, take_map_n]; done)); simp (disch := omega) [wrap64, List.getElem?_eq_getElem, toNat_pred, Int.tdiv_eq_ediv_of_nonneg, cU]) | (refine ⟨fun _ => ?_, fun _ => ?_⟩) | (refine ⟨by omega, ?_⟩) | (intro _)
              all_goals (refine hK _ ?_; clear hK K)
              all_goals
                refine AW_cond rfl (fun hc10 => ?_) (fun hc10 => ?_)
                · try simp at hc10
                  all_goals
                    refine AW_x rfl rfl fun K hK => ?_
                    simp (disch := omega) [wrap64, List.getElem?_eq_getElem, toNat_pred, Int.tdiv_eq_ediv_of_nonneg, cU]
                    repeat' first | (exfalso; omega) | (refine ⟨fun _ => ?_, fun _ => ?_⟩) | (refine ⟨by omega, ?_⟩) | (intro _)
                    all_goals (refine hK _ ?_; clear hK K)
                    all_goals
                      refine AW_ret (end_x [] [] (by simp [List.range_succ, lk_cons, lk_nil, upd_app]) (by simp) ?_)
                      simp (disch := omega) [wrap64, List.getElem?_eq_getElem, toNat_pred, Int.tdiv_eq_ediv_of_nonneg, cU]
                      all_goals first | rfl | omega | trace_state
                · try simp at hc10
                  all_goals
                    refine AW_skip ?_
                    refine AW_id ?_
                    refine AW_x rfl rfl fun K hK => ?_
                    simp (disch := omega) [wrap64, List.getElem?_eq_getElem, toNat_pred, Int.tdiv_eq_ediv_of_nonneg, cU]
                    repeat' first | (exfalso; omega) | (refine ⟨fun _ => ?_, fun _ => ?_⟩) | (refine ⟨by omega, ?_⟩) | (intro _)
                    all_goals (refine hK _ ?_; clear hK K)
                    all_goals
                      refine AW_x rfl rfl fun K hK => ?_
                      simp (disch := omega) [wrap64, List.getElem?_eq_getElem, toNat_pred, Int.tdiv_eq_ediv_of_nonneg, cU]
                      repeat' first | (exfalso; omega) | (refine ⟨fun _ => ?_, fun _ => ?_⟩) | (refine ⟨by omega, ?_⟩) | (intro _)
                      all_goals (refine hK _ ?_; clear hK K)
                      all_goals
                        refine AW_seq ?_
                        refine AW_x rfl rfl fun K hK => ?_
                        simp (disch := omega) [wrap64, List.getElem?_eq_getElem, toNat_pred, Int.tdiv_eq_ediv_of_nonneg, cU]
                        repeat' first | (exfalso; omega) | (refine XKd_v (am2s_cons am2_g (am2s_cons am2_g (am2s_cons am2_g am2s_nil))) (implMeet _ _ _) rfl ?_; simp (disch := omega) [wrap64, List.getElem?_eq_getElem, toNat_pred, Int.tdiv_eq_ediv_of_nonneg, cU]) | (refine XKd_p (implMeet _ _ _) (by rfl) ?_ ?_; (focus (simp (disch := omega) [wrap64, List.getElem?_eq_getElem, toNat_pred, Int.tdiv_eq_ediv_of_nonneg, cU, take_map_n]; done)); simp (disch := omega) [wrap64, List.getElem?_eq_getElem, toNat_pred, Int.tdiv_eq_ediv_of_nonneg, cU]) | (refine XKd_v (am2s_cons am2_g (am2s_cons am2_g (am2s_cons am2_g am2s_nil))) (specMeet _ _ _) rfl ?_; simp (disch := omega) [wrap64, List.getElem?_eq_getElem, toNat_pred, Int.tdiv_eq_ediv_of_nonneg, cU]) | (refine XKd_p (specMeet _ _ _) (by rfl) ?_ ?_; (focus (simp (disch := omega) [wrap64, List.getElem?_eq_getElem, toNat_pred, Int.tdiv_eq_ediv_of_nonneg, cU, take_map_n]; done)); simp (disch := omega) [wrap64, List.getElem?_eq_getElem, toNat_pred, Int.tdiv_eq_ediv_of_nonneg, cU]) | (refine XKd_v (am2s_cons am2_g (am2s_cons am2_g am2s_nil)) (implTol _ _) rfl ?_; simp (disch := omega) [wrap64, List.getElem?_eq_getElem, toNat_pred, Int.tdiv_eq_ediv_of_nonneg, cU]) | (refine XKd_p (implTol _ _) (by rfl) ?_ ?_; (focus (simp (disch := omega) [wrap64, List.getElem?_eq_getElem, toNat_pred, Int.tdiv_eq_ediv_of_nonneg, cU, take_map_n]; done)); simp (disch := omega) [wrap64, List.getElem?_eq_getElem, toNat_pred, Int.tdiv_eq_ediv_of_nonneg, cU]) | (refine XKd_v (am2s_cons am2_g (am2s_cons am2_g am2s_nil)) (specTol _ _) rfl ?_; simp (disch := omega) [wrap64, List.getElem?_eq_getElem, toNat_pred, Int.tdiv_eq_ediv_of_nonneg, cU]) | (refine XKd_p (specTol _ _) (by rfl) ?_ ?_; (focus (simp (disch := omega) [wrap64, List.getElem?_eq_getElem, toNat_pred, Int.tdiv_eq_ediv_of_nonneg, cU, take_map_n]; done)); simp (disch := omega) [wrap64, List.getElem?_eq_getElem, toNat_pred, Int.tdiv_eq_ediv_of_nonneg, cU]) | (refine ⟨fun _ => ?_, fun _ => ?_⟩) | (refine ⟨by omega, ?_⟩) | (intro _)
                        all_goals (refine hK _ ?_; clear hK K)
                        all_goals
                          refine AW_cond rfl (fun hc11 => ?_) (fun hc11 => ?_)
                          · try simp at hc11
                            all_goals
                              refine AW_x rfl rfl fun K hK => ?_
                              simp (disch := omega) [wrap64, List.getElem?_eq_getElem, toNat_pred, Int.tdiv_eq_ediv_of_nonneg, cU]
                              repeat' first | (exfalso; omega) | (refine ⟨fun _ => ?_, fun _ => ?_⟩) | (refine ⟨by omega, ?_⟩) | (intro _)
                              all_goals (refine hK _ ?_; clear hK K)
                              all_goals
                                refine AW_ret (end_x [] [] (by simp [List.range_succ, lk_cons, lk_nil, upd_app]) (by simp) ?_)
                                simp (disch := omega) [wrap64, List.getElem?_eq_getElem, toNat_pred, Int.tdiv_eq_ediv_of_nonneg, cU]
                                all_goals first | rfl | omega | trace_state
                          · try simp at hc11
                            all_goals
                              refine AW_skip ?_
                              refine AW_id ?_
                              refine AW_seq ?_
                              refine AW_x rfl rfl fun K hK => ?_
                              simp (disch := omega) [wrap64, List.getElem?_eq_getElem, toNat_pred, Int.tdiv_eq_ediv_of_nonneg, cU]
                              repeat' first | (exfalso; omega) | (refine ⟨fun _ => ?_, fun _ => ?_⟩) | (refine ⟨by omega, ?_⟩) | (intro _)
                              all_goals (refine hK _ ?_; clear hK K)
                              all_goals
                                refine AW_cond rfl (fun hc12 => ?_) (fun hc12 => ?_)
                                · try simp at hc12
                                  all_goals
                                    refine AW_x rfl rfl fun K hK => ?_
                                    simp (disch := omega) [wrap64, List.getElem?_eq_getElem, toNat_pred, Int.tdiv_eq_ediv_of_nonneg, cU]
                                    repeat' first | (exfalso; omega) | (refine XKd_v (am2s_cons am2_g am2s_nil) (implSlowOf _) rfl ?_; simp (disch := omega) [wrap64, List.getElem?_eq_getElem, toNat_pred, Int.tdiv_eq_ediv_of_nonneg, cU]) | (refine XKd_p (implSlowOf _) (by rfl) ?_ ?_; (focus (simp (disch := omega) [wrap64, List.getElem?_eq_getElem, toNat_pred, Int.tdiv_eq_ediv_of_nonneg, cU, take_map_n]; done)); simp (disch := omega) [wrap64, List.getElem?_eq_getElem, toNat_pred, Int.tdiv_eq_ediv_of_nonneg, cU]) | (refine XKd_v (am2s_cons am2_g am2s_nil) (implFastOf _) rfl ?_; simp (disch := omega) [wrap64, List.getElem?_eq_getElem, toNat_pred, Int.tdiv_eq_ediv_of_nonneg, cU]) | (refine XKd_p (implFastOf _) (by rfl) ?_ ?_; (focus (simp (disch := omega) [wrap64, List.getElem?_eq_getElem, toNat_pred, Int.tdiv_eq_ediv_of_nonneg, cU, take_map_n]; done)); simp (disch := omega) [wrap64, List.getElem?_eq_getElem, toNat_pred, Int.tdiv_eq_ediv_of_nonneg, cU]) | (refine XKd_v (am2s_cons am2_g (am2s_cons am2_g am2s_nil)) (implTol _ _) rfl ?_; simp (disch := omega) [wrap64, List.getElem?_eq_getElem, toNat_pred, Int.tdiv_eq_ediv_of_nonneg, cU]) | (refine XKd_p (implTol _ _) (by rfl) ?_ ?_; (focus (simp (disch := omega) [wrap64, List.getElem?_eq_getElem, toNat_pred, Int.tdiv_eq_ediv_of_nonneg, cU, take_map_n]; done)); simp (disch := omega) [wrap64, List.getElem?_eq_getElem, toNat_pred, Int.tdiv_eq_ediv_of_nonneg, cU]) | (refine ⟨fun _ => ?_, fun _ => ?_⟩) | (refine ⟨by omega, ?_⟩) | (intro _)
                                    all_goals (refine hK _ ?_; clear hK K)
                                    all_goals
                                      refine AW_ret (end_x [] [] (by simp [List.range_succ, lk_cons, lk_nil, upd_app]) (by simp) ?_)
                                      simp (disch := omega) [wrap64, List.getElem?_eq_getElem, toNat_pred, Int.tdiv_eq_ediv_of_nonneg, cU]
                                      all_goals first | rfl | omega | trace_state
                                · try simp at hc12
                                  all_goals
                                    refine AW_skip ?_
                                    refine AW_id ?_
                                    refine AW_x rfl rfl fun K hK => ?_
                                    simp (disch := omega) [wrap64, List.getElem?_eq_getElem, toNat_pred, Int.tdiv_eq_ediv_of_nonneg, cU]
                                    repeat' first | (exfalso; omega) | (refine XKd_v (am2s_cons am2_g am2s_nil) (implSlowOf _) rfl ?_; simp (disch := omega) [wrap64, List.getElem?_eq_getElem, toNat_pred, Int.tdiv_eq_ediv_of_nonneg, cU]) | (refine XKd_p (implSlowOf _) (by rfl) ?_ ?_; (focus (simp (disch := omega) [wrap64, List.getElem?_eq_getElem, toNat_pred, Int.tdiv_eq_ediv_of_nonneg, cU, take_map_n]; done)); simp (disch := omega) [wrap64, List.getElem?_eq_getElem, toNat_pred, Int.tdiv_eq_ediv_of_nonneg, cU]) | (refine XKd_v (am2s_cons am2_g (am2s_cons am2_g (am2s_cons am2_g am2s_nil))) (implMeet _ _ _) rfl ?_; simp (disch := omega) [wrap64, List.getElem?_eq_getElem, toNat_pred, Int.tdiv_eq_ediv_of_nonneg, cU]) | (refine XKd_p (implMeet _ _ _) (by rfl) ?_ ?_; (focus (simp (disch := omega) [wrap64, List.getElem?_eq_getElem, toNat_pred, Int.tdiv_eq_ediv_of_nonneg, cU, take_map_n]; done)); simp (disch := omega) [wrap64, List.getElem?_eq_getElem, toNat_pred, Int.tdiv_eq_ediv_of_nonneg, cU]) | (refine XKd_v (am2s_cons am2_g am2s_nil) (implFastOf _) rfl ?_; simp (disch := omega) [wrap64, List.getElem?_eq_getElem, toNat_pred, Int.tdiv_eq_ediv_of_nonneg, cU]) | (refine XKd_p (implFastOf _) (by rfl) ?_ ?_; (focus (simp (disch := omega) [wrap64, List.getElem?_eq_getElem, toNat_pred, Int.tdiv_eq_ediv_of_nonneg, cU, take_map_n]; done)); simp (disch := omega) [wrap64, List.getElem?_eq_getElem, toNat_pred, Int.tdiv_eq_ediv_of_nonneg, cU]) | (refine XKd_v (am2s_cons am2_g (am2s_cons am2_g am2s_nil)) (implTol _ _) rfl ?_; simp (disch := omega) [wrap64, List.getElem?_eq_getElem, toNat_pred, Int.tdiv_eq_ediv_of_nonneg, cU]) | (refine XKd_p (implTol _ _) (by rfl) ?_ ?_; (focus (simp (disch := omega) [wrap64, List.getElem?_eq_getElem, toNat_pred, Int.tdiv_eq_ediv_of_nonneg, cU, take_map_n]; done)); simp (disch := omega) [wrap64, List.getElem?_eq_getElem, toNat_pred, Int.tdiv_eq_ediv_of_nonneg, cU]) | (refine ⟨fun _ => ?_, fun _ => ?_⟩) | (refine ⟨by omega, ?_⟩) | (intro _)
                                    all_goals (refine hK _ ?_; clear hK K)
                                    all_goals
                                      refine AW_ret (end_x [] [] (by simp [List.range_succ, lk_cons, lk_nil, upd_app]) (by simp) ?_)
                                      simp (disch := omega) [wrap64, List.getElem?_eq_getElem, toNat_pred, Int.tdiv_eq_ediv_of_nonneg, cU]
                                      all_goals first | rfl | omega | trace_state
theorem lawQuorumS (l : List Int) (hl : l.length ≤ 1048576) : XCall Try.prog 3 [.sl 1 (l.map cU)] [] (.g (.bool (true))) [] [] := by
  obtain ⟨a, b, c, hM⟩ := DrawMeet l hl
  obtain ⟨d, e, hT⟩ := DrawTolerates l hl
  have hc := meet_comm
  generalize hn : n23 l (cur0 l) = n at *
  have hb := fOf_bd n
  have hneg := fOf_neg n
  have hpos := fOf_pos n
  have hd : IntKind.i64.wrap ((slowOf n).tdiv 2) = (slowOf n).tdiv 2 := by have := slowOf_bd n; rw [Int.tdiv_eq_ediv_of_nonneg (by omega)]; exact wrap64 (by omega) (by omega)
  refine xcall_of_walk Try.func3 (by rfl) (by rfl) (by rw [Try.ntmps3]; exact Nat.le_of_ble_eq_true rfl) rfl (by simp) rfl rfl ?_
  rw [Try.ntmps3]
  refine AW_x0   ?_
  refine AW_k [(0, _)] ⟨rfl, trivial⟩ ?_
  refine AW_x rfl rfl fun K hK => ?_
  simp (disch := omega) [wrap64, List.getElem?_eq_getElem, toNat_pred, Int.tdiv_eq_ediv_of_nonneg, cU, hn, hc a c b, hd]
  repeat' first | (exfalso; omega) | (refine ⟨fun _ => ?_, fun _ => ?_⟩) | (refine ⟨by omega, ?_⟩) | (intro _)
  all_goals (refine hK _ ?_; clear hK K)
  all_goals
    refine AW_seq ?_
    refine AW_x rfl rfl fun K hK => ?_
    simp (disch := omega) [wrap64, List.getElem?_eq_getElem, toNat_pred, Int.tdiv_eq_ediv_of_nonneg, cU, hn, hc a c b, hd]
    repeat' first | (exfalso; omega) | (refine XKd_v (am2s_cons am2_sl am2s_nil) (big _ (by omega)) rfl ?_; simp (disch := omega) [wrap64, List.getElem?_eq_getElem, toNat_pred, Int.tdiv_eq_ediv_of_nonneg, cU, hn, hc a c b, hd]) | (refine XKd_p (big _ (by omega)) (by rfl) ?_ ?_; (focus (simp (disch := omega) [wrap64, List.getElem?_eq_getElem, toNat_pred, Int.tdiv_eq_ediv_of_nonneg, cU, hn, hc a c b, hd, take_map_n]; done)); simp (disch := omega) [wrap64, List.getElem?_eq_getElem, toNat_pred, Int.tdiv_eq_ediv_of_nonneg, cU, hn, hc a c b, hd]) | (refine ⟨fun _ => ?_, fun _ => ?_⟩) | (refine ⟨by omega, ?_⟩) | (intro _)
    all_goals (refine hK _ ?_; clear hK K)
    all_goals
      refine AW_cond rfl (fun hc13 => ?_) (fun hc13 => ?_)
      · try simp at hc13
        all_goals
          refine AW_x rfl rfl fun K hK => ?_
          simp (disch := omega) [wrap64, List.getElem?_eq_getElem, toNat_pred, Int.tdiv_eq_ediv_of_nonneg, cU, hn, hc a c b, hd]
          repeat' first | (exfalso; omega) | (refine ⟨fun _ => ?_, fun _ => ?_⟩) | (refine ⟨by omega, ?_⟩) | (intro _)
          all_goals (refine hK _ ?_; clear hK K)
          all_goals
            refine AW_ret (end_x [] [] (by simp [List.range_succ, lk_cons, lk_nil, upd_app]) (by simp) ?_)
            simp (disch := omega) [wrap64, List.getElem?_eq_getElem, toNat_pred, Int.tdiv_eq_ediv_of_nonneg, cU, hn, hc a c b, hd]
            all_goals (first | (simp_all; done) | (simp_all; omega) | (exfalso; omega) | trace_state)
      · try simp at hc13
        all_goals
          refine AW_skip ?_
          refine AW_id ?_
          refine AW_x rfl rfl fun K hK => ?_
          simp (disch := omega) [wrap64, List.getElem?_eq_getElem, toNat_pred, Int.tdiv_eq_ediv_of_nonneg, cU, hn, hc a c b, hd]
          repeat' first | (exfalso; omega) | (refine XKd_x [] false [] (DrawFOf l (by unfold Code; omega)) ?_ ?_ ?_; (focus (simp [List.range_succ, nmC]; done)); (focus (simp (disch := omega) [wrap64, List.getElem?_eq_getElem, toNat_pred, Int.tdiv_eq_ediv_of_nonneg, cU, hn, hc a c b, hd, take_map_n]; done)); simp (disch := omega) [wrap64, List.getElem?_eq_getElem, toNat_pred, Int.tdiv_eq_ediv_of_nonneg, cU, hn, hc a c b, hd]) | (refine ⟨fun _ => ?_, fun _ => ?_⟩) | (refine ⟨by omega, ?_⟩) | (intro _)
          all_goals (refine hK _ ?_; clear hK K)
          all_goals
            refine AW_x rfl rfl fun K hK => ?_
            simp (disch := omega) [wrap64, List.getElem?_eq_getElem, toNat_pred, Int.tdiv_eq_ediv_of_nonneg, cU, hn, hc a c b, hd]
            repeat' first | (exfalso; omega) | (refine XKd_v (am2s_cons am2_g am2s_nil) (implFOf _) rfl ?_; simp (disch := omega) [wrap64, List.getElem?_eq_getElem, toNat_pred, Int.tdiv_eq_ediv_of_nonneg, cU, hn, hc a c b, hd]) | (refine XKd_p (implFOf _) (by rfl) ?_ ?_; (focus (simp (disch := omega) [wrap64, List.getElem?_eq_getElem, toNat_pred, Int.tdiv_eq_ediv_of_nonneg, cU, hn, hc a c b, hd, take_map_n]; done)); simp (disch := omega) [wrap64, List.getElem?_eq_getElem, toNat_pred, Int.tdiv_eq_ediv_of_nonneg, cU, hn, hc a c b, hd]) | (refine ⟨fun _ => ?_, fun _ => ?_⟩) | (refine ⟨by omega, ?_⟩) | (intro _)
            all_goals (refine hK _ ?_; clear hK K)
            all_goals
              refine AW_seq ?_
              refine AW_x rfl rfl fun K hK => ?_
              simp (disch := omega) [wrap64, List.getElem?_eq_getElem, toNat_pred, Int.tdiv_eq_ediv_of_nonneg, cU, hn, hc a c b, hd]
              repeat' first | (exfalso; omega) | (refine XKd_v (am2s_cons am2_g am2s_nil) (specFOf _) rfl ?_; simp (disch := omega) [wrap64, List.getElem?_eq_getElem, toNat_pred, Int.tdiv_eq_ediv_of_nonneg, cU, hn, hc a c b, hd]) | (refine XKd_p (specFOf _) (by rfl) ?_ ?_; (focus (simp (disch := omega) [wrap64, List.getElem?_eq_getElem, toNat_pred, Int.tdiv_eq_ediv_of_nonneg, cU, hn, hc a c b, hd, take_map_n]; done)); simp (disch := omega) [wrap64, List.getElem?_eq_getElem, toNat_pred, Int.tdiv_eq_ediv_of_nonneg, cU, hn, hc a c b, hd]) | (refine XKd_v (am2s_cons am2_g am2s_nil) (implSlowOf _) rfl ?_; simp (disch := omega) [wrap64, List.getElem?_eq_getElem, toNat_pred, Int.tdiv_eq_ediv_of_nonneg, cU, hn, hc a c b, hd]) | (refine XKd_p (implSlowOf _) (by rfl) ?_ ?_; (focus (simp (disch := omega) [wrap64, List.getElem?_eq_getElem, toNat_pred, Int.tdiv_eq_ediv_of_nonneg, cU, hn, hc a c b, hd, take_map_n]; done)); simp (disch := omega) [wrap64, List.getElem?_eq_getElem, toNat_pred, Int.tdiv_eq_ediv_of_nonneg, cU, hn, hc a c b, hd]) | (refine XKd_v (am2s_cons am2_g am2s_nil) (specSlowOf _) rfl ?_; simp (disch := omega) [wrap64, List.getElem?_eq_getElem, toNat_pred, Int.tdiv_eq_ediv_of_nonneg, cU, hn, hc a c b, hd]) | (refine XKd_p (specSlowOf _) (by rfl) ?_ ?_; (focus (simp (disch := omega) [wrap64, List.getElem?_eq_getElem, toNat_pred, Int.tdiv_eq_ediv_of_nonneg, cU, hn, hc a c b, hd, take_map_n]; done)); simp (disch := omega) [wrap64, List.getElem?_eq_getElem, toNat_pred, Int.tdiv_eq_ediv_of_nonneg, cU, hn, hc a c b, hd]) | (refine XKd_v (am2s_cons am2_g am2s_nil) (implFastOf _) rfl ?_; simp (disch := omega) [wrap64, List.getElem?_eq_getElem, toNat_pred, Int.tdiv_eq_ediv_of_nonneg, cU, hn, hc a c b, hd]) | (refine XKd_p (implFastOf _) (by rfl) ?_ ?_; (focus (simp (disch := omega) [wrap64, List.getElem?_eq_getElem, toNat_pred, Int.tdiv_eq_ediv_of_nonneg, cU, hn, hc a c b, hd, take_map_n]; done)); simp (disch := omega) [wrap64, List.getElem?_eq_getElem, toNat_pred, Int.tdiv_eq_ediv_of_nonneg, cU, hn, hc a c b, hd]) | (refine XKd_v (am2s_cons am2_g am2s_nil) (specFastOf _) rfl ?_; simp (disch := omega) [wrap64, List.getElem?_eq_getElem, toNat_pred, Int.tdiv_eq_ediv_of_nonneg, cU, hn, hc a c b, hd]) | (refine XKd_p (specFastOf _) (by rfl) ?_ ?_; (focus (simp (disch := omega) [wrap64, List.getElem?_eq_getElem, toNat_pred, Int.tdiv_eq_ediv_of_nonneg, cU, hn, hc a c b, hd, take_map_n]; done)); simp (disch := omega) [wrap64, List.getElem?_eq_getElem, toNat_pred, Int.tdiv_eq_ediv_of_nonneg, cU, hn, hc a c b, hd]) | (refine ⟨fun _ => ?_, fun _ => ?_⟩) | (refine ⟨by omega, ?_⟩) | (intro _)
              all_goals (refine hK _ ?_; clear hK K)
              all_goals
                refine AW_cond rfl (fun hc14 => ?_) (fun hc14 => ?_)
                · try simp at hc14
                  all_goals
                    refine AW_x rfl rfl fun K hK => ?_
                    simp (disch := omega) [wrap64, List.getElem?_eq_getElem, toNat_pred, Int.tdiv_eq_ediv_of_nonneg, cU, hn, hc a c b, hd]
                    repeat' first | (exfalso; omega) | (refine ⟨fun _ => ?_, fun _ => ?_⟩) | (refine ⟨by omega, ?_⟩) | (intro _)
                    all_goals (refine hK _ ?_; clear hK K)
                    all_goals
                      refine AW_ret (end_x [] [] (by simp [List.range_succ, lk_cons, lk_nil, upd_app]) (by simp) ?_)
                      simp (disch := omega) [wrap64, List.getElem?_eq_getElem, toNat_pred, Int.tdiv_eq_ediv_of_nonneg, cU, hn, hc a c b, hd]
                      all_goals (first | (simp_all; done) | (simp_all; omega) | (exfalso; omega) | trace_state)
                · try simp at hc14
                  all_goals
                    refine AW_skip ?_
                    refine AW_id ?_
                    refine AW_x rfl rfl fun K hK => ?_
                    simp (disch := omega) [wrap64, List.getElem?_eq_getElem, toNat_pred, Int.tdiv_eq_ediv_of_nonneg, cU, hn, hc a c b, hd]
                    repeat' first | (exfalso; omega) | (refine XKd_x [] false [] (hM) ?_ ?_ ?_; (focus (simp [List.range_succ, nmC]; done)); (focus (simp (disch := omega) [wrap64, List.getElem?_eq_getElem, toNat_pred, Int.tdiv_eq_ediv_of_nonneg, cU, hn, hc a c b, hd, take_map_n]; done)); simp (disch := omega) [wrap64, List.getElem?_eq_getElem, toNat_pred, Int.tdiv_eq_ediv_of_nonneg, cU, hn, hc a c b, hd]) | (refine ⟨fun _ => ?_, fun _ => ?_⟩) | (refine ⟨by omega, ?_⟩) | (intro _)
                    all_goals (refine hK _ ?_; clear hK K)
                    all_goals
                      refine AW_x rfl rfl fun K hK => ?_
                      simp (disch := omega) [wrap64, List.getElem?_eq_getElem, toNat_pred, Int.tdiv_eq_ediv_of_nonneg, cU, hn, hc a c b, hd]
                      repeat' first | (exfalso; omega) | (refine XKd_x [] false [] (hT) ?_ ?_ ?_; (focus (simp [List.range_succ, nmC]; done)); (focus (simp (disch := omega) [wrap64, List.getElem?_eq_getElem, toNat_pred, Int.tdiv_eq_ediv_of_nonneg, cU, hn, hc a c b, hd, take_map_n]; done)); simp (disch := omega) [wrap64, List.getElem?_eq_getElem, toNat_pred, Int.tdiv_eq_ediv_of_nonneg, cU, hn, hc a c b, hd]) | (refine ⟨fun _ => ?_, fun _ => ?_⟩) | (refine ⟨by omega, ?_⟩) | (intro _)
                      all_goals (refine hK _ ?_; clear hK K)
                      all_goals
                        refine AW_seq ?_
                        refine AW_x rfl rfl fun K hK => ?_
                        simp (disch := omega) [wrap64, List.getElem?_eq_getElem, toNat_pred, Int.tdiv_eq_ediv_of_nonneg, cU, hn, hc a c b, hd]
                        repeat' first | (exfalso; omega) | (refine XKd_v (am2s_cons am2_g (am2s_cons am2_g (am2s_cons am2_g am2s_nil))) (implMeet _ _ _) rfl ?_; simp (disch := omega) [wrap64, List.getElem?_eq_getElem, toNat_pred, Int.tdiv_eq_ediv_of_nonneg, cU, hn, hc a c b, hd]) | (refine XKd_p (implMeet _ _ _) (by rfl) ?_ ?_; (focus (simp (disch := omega) [wrap64, List.getElem?_eq_getElem, toNat_pred, Int.tdiv_eq_ediv_of_nonneg, cU, hn, hc a c b, hd, take_map_n]; done)); simp (disch := omega) [wrap64, List.getElem?_eq_getElem, toNat_pred, Int.tdiv_eq_ediv_of_nonneg, cU, hn, hc a c b, hd]) | (refine XKd_v (am2s_cons am2_g (am2s_cons am2_g (am2s_cons am2_g am2s_nil))) (specMeet _ _ _) rfl ?_; simp (disch := omega) [wrap64, List.getElem?_eq_getElem, toNat_pred, Int.tdiv_eq_ediv_of_nonneg, cU, hn, hc a c b, hd]) | (refine XKd_p (specMeet _ _ _) (by rfl) ?_ ?_; (focus (simp (disch := omega) [wrap64, List.getElem?_eq_getElem, toNat_pred, Int.tdiv_eq_ediv_of_nonneg, cU, hn, hc a c b, hd, take_map_n]; done)); simp (disch := omega) [wrap64, List.getElem?_eq_getElem, toNat_pred, Int.tdiv_eq_ediv_of_nonneg, cU, hn, hc a c b, hd]) | (refine XKd_v (am2s_cons am2_g (am2s_cons am2_g am2s_nil)) (implTol _ _) rfl ?_; simp (disch := omega) [wrap64, List.getElem?_eq_getElem, toNat_pred, Int.tdiv_eq_ediv_of_nonneg, cU, hn, hc a c b, hd]) | (refine XKd_p (implTol _ _) (by rfl) ?_ ?_; (focus (simp (disch := omega) [wrap64, List.getElem?_eq_getElem, toNat_pred, Int.tdiv_eq_ediv_of_nonneg, cU, hn, hc a c b, hd, take_map_n]; done)); simp (disch := omega) [wrap64, List.getElem?_eq_getElem, toNat_pred, Int.tdiv_eq_ediv_of_nonneg, cU, hn, hc a c b, hd]) | (refine XKd_v (am2s_cons am2_g (am2s_cons am2_g am2s_nil)) (specTol _ _) rfl ?_; simp (disch := omega) [wrap64, List.getElem?_eq_getElem, toNat_pred, Int.tdiv_eq_ediv_of_nonneg, cU, hn, hc a c b, hd]) | (refine XKd_p (specTol _ _) (by rfl) ?_ ?_; (focus (simp (disch := omega) [wrap64, List.getElem?_eq_getElem, toNat_pred, Int.tdiv_eq_ediv_of_nonneg, cU, hn, hc a c b, hd, take_map_n]; done)); simp (disch := omega) [wrap64, List.getElem?_eq_getElem, toNat_pred, Int.tdiv_eq_ediv_of_nonneg, cU, hn, hc a c b, hd]) | (refine ⟨fun _ => ?_, fun _ => ?_⟩) | (refine ⟨by omega, ?_⟩) | (intro _)
                        all_goals (refine hK _ ?_; clear hK K)
                        all_goals
                          refine AW_cond rfl (fun hc15 => ?_) (fun hc15 => ?_)
                          · try simp at hc15
                            all_goals
                              refine AW_x rfl rfl fun K hK => ?_
                              simp (disch := omega) [wrap64, List.getElem?_eq_getElem, toNat_pred, Int.tdiv_eq_ediv_of_nonneg, cU, hn, hc a c b, hd]
                              repeat' first | (exfalso; omega) | (refine ⟨fun _ => ?_, fun _ => ?_⟩) | (refine ⟨by omega, ?_⟩) | (intro _)
                              all_goals (refine hK _ ?_; clear hK K)
                              all_goals
                                refine AW_ret (end_x [] [] (by simp [List.range_succ, lk_cons, lk_nil, upd_app]) (by simp) ?_)
                                simp (disch := omega) [wrap64, List.getElem?_eq_getElem, toNat_pred, Int.tdiv_eq_ediv_of_nonneg, cU, hn, hc a c b, hd]
                                all_goals (first | (simp_all; done) | (simp_all; omega) | (exfalso; omega) | trace_state)
                          · try simp at hc15
                            all_goals
                              refine AW_skip ?_
                              refine AW_id ?_
                              refine AW_seq ?_
                              refine AW_x rfl rfl fun K hK => ?_
                              simp (disch := omega) [wrap64, List.getElem?_eq_getElem, toNat_pred, Int.tdiv_eq_ediv_of_nonneg, cU, hn, hc a c b, hd]
                              repeat' first | (exfalso; omega) | (refine ⟨fun _ => ?_, fun _ => ?_⟩) | (refine ⟨by omega, ?_⟩) | (intro _)
                              all_goals (refine hK _ ?_; clear hK K)
                              all_goals
                                refine AW_cond rfl (fun hc16 => ?_) (fun hc16 => ?_)
                                · try simp at hc16
                                  all_goals
                                    refine AW_x rfl rfl fun K hK => ?_
                                    simp (disch := omega) [wrap64, List.getElem?_eq_getElem, toNat_pred, Int.tdiv_eq_ediv_of_nonneg, cU, hn, hc a c b, hd]
                                    repeat' first | (exfalso; omega) | (refine XKd_v (am2s_cons am2_g am2s_nil) (implSlowOf _) rfl ?_; simp (disch := omega) [wrap64, List.getElem?_eq_getElem, toNat_pred, Int.tdiv_eq_ediv_of_nonneg, cU, hn, hc a c b, hd]) | (refine XKd_p (implSlowOf _) (by rfl) ?_ ?_; (focus (simp (disch := omega) [wrap64, List.getElem?_eq_getElem, toNat_pred, Int.tdiv_eq_ediv_of_nonneg, cU, hn, hc a c b, hd, take_map_n]; done)); simp (disch := omega) [wrap64, List.getElem?_eq_getElem, toNat_pred, Int.tdiv_eq_ediv_of_nonneg, cU, hn, hc a c b, hd]) | (refine XKd_v (am2s_cons am2_g am2s_nil) (implFastOf _) rfl ?_; simp (disch := omega) [wrap64, List.getElem?_eq_getElem, toNat_pred, Int.tdiv_eq_ediv_of_nonneg, cU, hn, hc a c b, hd]) | (refine XKd_p (implFastOf _) (by rfl) ?_ ?_; (focus (simp (disch := omega) [wrap64, List.getElem?_eq_getElem, toNat_pred, Int.tdiv_eq_ediv_of_nonneg, cU, hn, hc a c b, hd, take_map_n]; done)); simp (disch := omega) [wrap64, List.getElem?_eq_getElem, toNat_pred, Int.tdiv_eq_ediv_of_nonneg, cU, hn, hc a c b, hd]) | (refine XKd_v (am2s_cons am2_g (am2s_cons am2_g am2s_nil)) (implTol _ _) rfl ?_; simp (disch := omega) [wrap64, List.getElem?_eq_getElem, toNat_pred, Int.tdiv_eq_ediv_of_nonneg, cU, hn, hc a c b, hd]) | (refine XKd_p (implTol _ _) (by rfl) ?_ ?_; (focus (simp (disch := omega) [wrap64, List.getElem?_eq_getElem, toNat_pred, Int.tdiv_eq_ediv_of_nonneg, cU, hn, hc a c b, hd, take_map_n]; done)); simp (disch := omega) [wrap64, List.getElem?_eq_getElem, toNat_pred, Int.tdiv_eq_ediv_of_nonneg, cU, hn, hc a c b, hd]) | (refine ⟨fun _ => ?_, fun _ => ?_⟩) | (refine ⟨by omega, ?_⟩) | (intro _)
                                    all_goals (refine hK _ ?_; clear hK K)
                                    all_goals
                                      refine AW_ret (end_x [] [] (by simp [List.range_succ, lk_cons, lk_nil, upd_app]) (by simp) ?_)
                                      simp (disch := omega) [wrap64, List.getElem?_eq_getElem, toNat_pred, Int.tdiv_eq_ediv_of_nonneg, cU, hn, hc a c b, hd]
                                      all_goals (first | (simp_all; done) | (simp_all; omega) | (exfalso; omega) | trace_state)
                                · try simp at hc16
                                  all_goals
                                    refine AW_skip ?_
                                    refine AW_id ?_
                                    refine AW_x rfl rfl fun K hK => ?_
                                    simp (disch := omega) [wrap64, List.getElem?_eq_getElem, toNat_pred, Int.tdiv_eq_ediv_of_nonneg, cU, hn, hc a c b, hd]
                                    repeat' first | (exfalso; omega) | (refine XKd_v (am2s_cons am2_g am2s_nil) (implSlowOf _) rfl ?_; simp (disch := omega) [wrap64, List.getElem?_eq_getElem, toNat_pred, Int.tdiv_eq_ediv_of_nonneg, cU, hn, hc a c b, hd]) | (refine XKd_p (implSlowOf _) (by rfl) ?_ ?_; (focus (simp (disch := omega) [wrap64, List.getElem?_eq_getElem, toNat_pred, Int.tdiv_eq_ediv_of_nonneg, cU, hn, hc a c b, hd, take_map_n]; done)); simp (disch := omega) [wrap64, List.getElem?_eq_getElem, toNat_pred, Int.tdiv_eq_ediv_of_nonneg, cU, hn, hc a c b, hd]) | (refine XKd_v (am2s_cons am2_g (am2s_cons am2_g (am2s_cons am2_g am2s_nil))) (implMeet _ _ _) rfl ?_; simp (disch := omega) [wrap64, List.getElem?_eq_getElem, toNat_pred, Int.tdiv_eq_ediv_of_nonneg, cU, hn, hc a c b, hd]) | (refine XKd_p (implMeet _ _ _) (by rfl) ?_ ?_; (focus (simp (disch := omega) [wrap64, List.getElem?_eq_getElem, toNat_pred, Int.tdiv_eq_ediv_of_nonneg, cU, hn, hc a c b, hd, take_map_n]; done)); simp (disch := omega) [wrap64, List.getElem?_eq_getElem, toNat_pred, Int.tdiv_eq_ediv_of_nonneg, cU, hn, hc a c b, hd]) | (refine XKd_v (am2s_cons am2_g am2s_nil) (implFastOf _) rfl ?_; simp (disch := omega) [wrap64, List.getElem?_eq_getElem, toNat_pred, Int.tdiv_eq_ediv_of_nonneg, cU, hn, hc a c b, hd]) | (refine XKd_p (implFastOf _) (by rfl) ?_ ?_; (focus (simp (disch := omega) [wrap64, List.getElem?_eq_getElem, toNat_pred, Int.tdiv_eq_ediv_of_nonneg, cU, hn, hc a c b, hd, take_map_n]; done)); simp (disch := omega) [wrap64, List.getElem?_eq_getElem, toNat_pred, Int.tdiv_eq_ediv_of_nonneg, cU, hn, hc a c b, hd]) | (refine XKd_v (am2s_cons am2_g (am2s_cons am2_g am2s_nil)) (implTol _ _) rfl ?_; simp (disch := omega) [wrap64, List.getElem?_eq_getElem, toNat_pred, Int.tdiv_eq_ediv_of_nonneg, cU, hn, hc a c b, hd]) | (refine XKd_p (implTol _ _) (by rfl) ?_ ?_; (focus (simp (disch := omega) [wrap64, List.getElem?_eq_getElem, toNat_pred, Int.tdiv_eq_ediv_of_nonneg, cU, hn, hc a c b, hd, take_map_n]; done)); simp (disch := omega) [wrap64, List.getElem?_eq_getElem, toNat_pred, Int.tdiv_eq_ediv_of_nonneg, cU, hn, hc a c b, hd]) | (refine ⟨fun _ => ?_, fun _ => ?_⟩) | (refine ⟨by omega, ?_⟩) | (intro _)
                                    all_goals (refine hK _ ?_; clear hK K)
                                    all_goals
                                      refine AW_ret (end_x [] [] (by simp [List.range_succ, lk_cons, lk_nil, upd_app]) (by simp) ?_)
                                      simp (disch := omega) [wrap64, List.getElem?_eq_getElem, toNat_pred, Int.tdiv_eq_ediv_of_nonneg, cU, hn, hc a c b, hd]
                                      all_goals (first | (simp_all; done) | (simp_all; omega) | (exfalso; omega) | trace_state)
theorem lawQuorum (l : List Int) (hw : wfS wfU8 l) : PCall Try.prog 3 [.sl 1 (l.map cU)] (.g (.bool (true))) := by
  have := hw.1
  refine pcall_scal ?_
  by_cases hl : l.length ≤ 1048576
  · exact lawQuorumS l hl
  · exact lawQuorumB l (by omega) hl
end Go.Proofs.Ytmcekkllkfccjaa.Vs
