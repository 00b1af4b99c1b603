import Derived.Test.YtmheohnbkaoipaaVs9
import Derived.Test.YtmheohnbkaoipaaSCT
open Go Go.Proofs Go.Proofs.Ytmheohnbkaoipaa.Vs
namespace Go.Proofs.Ytmheohnbkaoipaa.Vs
set_option linter.all false
set_option linter.unusedSimpArgs false
set_option linter.unusedVariables false
attribute [local simp] szR
theorem szStringS (xs : List (List UInt8)) (n : Int) (hn : 0 ≤ n ∧ n ≤ 1048576) (hw : (wfS wfL) xs) : PCall Try.prog 46 [.sl 1 (xs.map cS), (.g (.int .i64 (n)))] (.g (.int .i64 (szR n (szS lenZ xs)))) := by
  have hq := sumZ_nonneg lenZ_nonneg xs
  have hw1 := hw.1
  refine gcall_of_walk Try.func46 (by rfl) (by rfl) (by rw [Try.ntmps46]; exact Nat.le_of_ble_eq_true rfl) rfl (by decide) ?_
  rw [Try.ntmps46]
  refine AW_k [(0, _), (1, _)] ⟨rfl, rfl, trivial⟩ ?_
  refine AW_r rfl rfl fun K hK => ?_
  simp (disch := omega)
  repeat' first | (refine ⟨by omega, ?_⟩) | (intro _)
  refine hK _ ?_; clear hK K
  refine AW_r rfl rfl fun K hK => ?_
  simp (disch := omega)
  repeat' first | (refine ⟨by omega, ?_⟩) | (intro _)
  refine hK _ ?_; clear hK K
  refine AW_seq ?_
  refine AW_r rfl rfl fun K hK => ?_
  simp (disch := omega)
  repeat' first | (refine ⟨by omega, ?_⟩) | (intro _)
  refine hK _ ?_; clear hK K
  refine AW_cond rfl (fun hc1 => ?_) (fun hc1 => ?_)
  · try simp at hc1
    all_goals
     refine AW_r rfl rfl fun K hK => ?_
     simp (disch := omega)
     repeat' first | (exfalso; omega) | (refine ⟨fun _ => ?_, fun _ => ?_⟩) | (refine ⟨by omega, ?_⟩) | (intro _)
     all_goals (refine hK _ ?_; clear hK K)
     all_goals
      refine AW_ret (end_s ?_)
      simp (disch := omega) [szS]
      all_goals first | omega | (split <;> omega)
  try simp at hc1
  refine AW_skip ?_
  refine AW_id ?_
  refine AW_seq ?_
  refine AW_r rfl rfl fun K hK => ?_
  simp (disch := omega)
  repeat' first | (exfalso; omega) | (refine ⟨fun _ => ?_, fun _ => ?_⟩) | (refine ⟨by omega, ?_⟩) | (intro _)
  all_goals (refine hK _ ?_; clear hK K)
  all_goals
   refine AW_block ?_
   refine AW_loopS (fun mM sS => ∃ (i : Nat), mM = xs.length - i ∧ (i ≤ xs.length ∧ 0 ≤ n - xs.length - sumZ lenZ (xs.take i)) ∧ sS = { env := lkE [(0, .sl 1 (xs.map cS)), (1, (.g (.int .i64 (n - xs.length - sumZ lenZ (xs.take i))))), (5, (.g (.int .i64 ((i : Nat)))))], ob := formOb [] [] }) ?_ ?_
   · refine ⟨_, LeS.kp [(0, .sl 1 (xs.map cS)), (1, (.g (.int .i64 (n - xs.length - sumZ lenZ (xs.take (0)))))), (5, (.g (.int .i64 (((0) : Nat)))))] (by simp [KpE, upd_app, lkE_app, lk_cons, sumZ_nil]; try first | rfl | omega), _, 0, rfl, ?_, rfl⟩
     · simp [sumZ_nil]; omega
   · rintro mM sS ⟨i, rfl, ⟨hi, hn⟩, rfl⟩
     have hz := sumZ_nonneg lenZ_nonneg (xs.take i)
     have hz2 := sumZ_take_le lenZ_nonneg xs i
     refine AW_seq ?_
     refine AW_r rfl rfl fun K hK => ?_
     simp (disch := omega) [cS, lenZ]
     repeat' first | (refine ⟨by omega, ?_⟩) | (intro _)
     refine hK _ ?_; clear hK K
     refine AW_cond rfl (fun hc2 => ?_) (fun hc2 => ?_)
     · try simp at hc2
       all_goals
        have hl := sumZ_take (f := lenZ) xs i (by omega)
        have hwE : wfL xs[i] := hw.2 _ (List.getElem_mem _)
        have hwE2 : xs[i].length ≤ 9223372036854775807 := hwE
        simp only [lenZ] at hl
        have hz3 := sumZ_take_le lenZ_nonneg xs (i + 1)
        refine AW_skip ?_
        refine AW_id ?_
        refine AW_seq ?_
        refine AW_block ?_
        refine AW_r rfl rfl fun K hK => ?_
        simp (disch := omega) [cS, lenZ]
        repeat' first | (exfalso; omega) | (refine ⟨fun _ => ?_, fun _ => ?_⟩) | (refine ⟨by omega, ?_⟩) | (intro _)
        all_goals (refine hK _ ?_; clear hK K)
        all_goals
         refine AW_r rfl rfl fun K hK => ?_
         simp (disch := omega) [cS, lenZ]
         repeat' first | (refine ⟨by omega, ?_⟩) | (intro _)
         refine hK _ ?_; clear hK K
         refine AW_cond rfl (fun hc3 => ?_) (fun hc3 => ?_)
         · try simp at hc3
           all_goals
            refine AW_r rfl rfl fun K hK => ?_
            simp (disch := omega) [cS, lenZ]
            repeat' first | (exfalso; omega) | (refine ⟨fun _ => ?_, fun _ => ?_⟩) | (refine ⟨by omega, ?_⟩) | (intro _)
            all_goals (refine hK _ ?_; clear hK K)
            all_goals
             refine AW_ret (end_s ?_)
             simp (disch := omega) [cS, lenZ, szS]
             all_goals first | omega | (split <;> omega)
         try simp at hc3
         refine AW_skip ?_
         refine AW_id ?_
         refine AW_re rfl rfl fun K hK => ?_
         simp (disch := omega) [cS, lenZ]
         repeat' first | (exfalso; omega) | (refine ⟨fun _ => ?_, fun _ => ?_⟩) | (refine ⟨by omega, ?_⟩) | (intro _)
         all_goals (refine hK _ ?_; clear hK K)
         all_goals
          refine ⟨_, LeS.kp [(0, .sl 1 (xs.map cS)), (1, (.g (.int .i64 (n - xs.length - sumZ lenZ (xs.take (i + 1)))))), (5, (.g (.int .i64 (((i + 1) : Nat)))))] (by simp [KpE, upd_app, lkE_app, lk_cons, sumZ_nil]; try first | rfl | omega), _, ?_, i + 1, rfl, ?_, rfl⟩
          · omega
          · omega
     try simp at hc2
     have hi2 : i = xs.length := by omega
     subst hi2
     simp only [List.take_length] at *
     refine AW_exit ?_
     refine AW_id ?_
     refine AW_r rfl rfl fun K hK => ?_
     simp (disch := omega) [cS, lenZ]
     repeat' first | (exfalso; omega) | (refine ⟨fun _ => ?_, fun _ => ?_⟩) | (refine ⟨by omega, ?_⟩) | (intro _)
     all_goals (refine hK _ ?_; clear hK K)
     all_goals
      refine AW_ret (end_s ?_)
      simp (disch := omega) [cS, lenZ, szS]
      all_goals first | omega | (split <;> omega)
attribute [-simp] szR
theorem eqStringS (xs ys : List (List UInt8)) (hs : szS lenZ xs ≤ 1048576) : PCall Try.prog 23 [.sl 1 (xs.map cS), .sl 1 (ys.map cS)] (.g (.bool (eqB xs ys))) := by
  have hn : xs.length ≤ 1048576 := by have := sumZ_nonneg lenZ_nonneg xs; simp only [szS] at hs; omega
  refine gcall_of_walk Try.func23 (by rfl) (by rfl) (by rw [Try.ntmps23]; exact Nat.le_of_ble_eq_true rfl) rfl (by decide) ?_
  rw [Try.ntmps23]
  refine AW_k [(0, _), (1, _)] ⟨rfl, rfl, trivial⟩ ?_
  refine AW_r rfl rfl fun K hK => ?_
  simp (disch := omega)
  repeat' first | (refine ⟨by omega, ?_⟩) | (intro _)
  refine hK _ ?_; clear hK K
  refine AW_seq ?_
  refine AW_r rfl rfl fun K hK => ?_
  simp (disch := omega)
  repeat' first | (refine ⟨by omega, ?_⟩) | (intro _)
  refine hK _ ?_; clear hK K
  refine AW_cond rfl (fun hc5 => ?_) (fun hc5 => ?_)
  · try simp at hc5
    all_goals
     refine AW_r rfl rfl fun K hK => ?_
     simp (disch := omega)
     repeat' first | (exfalso; omega) | (refine ⟨fun _ => ?_, fun _ => ?_⟩) | (refine ⟨by omega, ?_⟩) | (intro _)
     all_goals (refine hK _ ?_; clear hK K)
     all_goals
      refine AW_ret (end_s ?_)
      simp (disch := omega)
      all_goals first | (exact eqB_of heq) | (refine eqB_ne fun heq => ?_; subst heq; simp_all [eqB_true, eqB_false, eqB_self]; done) | (refine (eqB_ne fun heq => ?_).symm; subst heq; simp_all [eqB_true, eqB_false, eqB_self]; done) | simp_all [eqB_self]
  try simp at hc5
  refine AW_skip ?_
  refine AW_id ?_
  refine AW_seq ?_
  refine AW_r rfl rfl fun K hK => ?_
  simp (disch := omega)
  repeat' first | (exfalso; omega) | (refine ⟨fun _ => ?_, fun _ => ?_⟩) | (refine ⟨by omega, ?_⟩) | (intro _)
  all_goals (refine hK _ ?_; clear hK K)
  all_goals
   refine AW_block ?_
   refine AW_loopS (fun mM sS => ∃ (i : Nat), mM = xs.length - i ∧ (i ≤ xs.length ∧ ∀ j, j < i → xs[j]? = ys[j]?) ∧ sS = { env := lkE [(0, .sl 1 (xs.map cS)), (1, .sl 1 (ys.map cS)), (5, (.g (.int .i64 ((i : Nat)))))], ob := formOb [] [] }) ?_ ?_
   · refine ⟨_, LeS.kp [(0, .sl 1 (xs.map cS)), (1, .sl 1 (ys.map cS)), (5, (.g (.int .i64 (((0) : Nat)))))] (by simp [KpE, upd_app, lkE_app, lk_cons]; try rfl), _, 0, rfl, ?_, rfl⟩
     · simp
   · rintro mM sS ⟨i, rfl, ⟨hi, hpre⟩, rfl⟩
     refine AW_seq ?_
     refine AW_r rfl rfl fun K hK => ?_
     simp (disch := omega) [cS]
     repeat' first | (refine ⟨by omega, ?_⟩) | (intro _)
     refine hK _ ?_; clear hK K
     refine AW_cond rfl (fun hc6 => ?_) (fun hc6 => ?_)
     · try simp at hc6
       all_goals
        have h7 : i < ys.length := by omega
        refine AW_skip ?_
        refine AW_id ?_
        refine AW_seq ?_
        refine AW_block ?_
        refine AW_q rfl mix (by kernel_rfl) rfl fun K hK => ?_
        simp (disch := omega) [cS]
        repeat' first | (exfalso; omega) | (refine ⟨fun _ => ?_, fun _ => ?_⟩) | (refine ⟨by omega, ?_⟩) | (intro _)
        all_goals (refine hK _ ?_; clear hK K)
        all_goals
         refine AW_cond rfl (fun hc7 => ?_) (fun hc7 => ?_)
         · try simp at hc7
           all_goals
            refine AW_r rfl rfl fun K hK => ?_
            simp (disch := omega) [cS]
            repeat' first | (exfalso; omega) | (refine ⟨fun _ => ?_, fun _ => ?_⟩) | (refine ⟨by omega, ?_⟩) | (intro _)
            all_goals (refine hK _ ?_; clear hK K)
            all_goals
             refine AW_ret (end_s ?_)
             simp (disch := omega) [cS]
             all_goals first | (exact eqB_of heq) | (refine eqB_ne fun heq => ?_; subst heq; simp_all [eqB_true, eqB_false, eqB_self]; done) | (refine (eqB_ne fun heq => ?_).symm; subst heq; simp_all [eqB_true, eqB_false, eqB_self]; done) | simp_all [eqB_self]
         try simp at hc7
         refine AW_skip ?_
         refine AW_id ?_
         refine AW_re rfl rfl fun K hK => ?_
         simp (disch := omega) [cS]
         repeat' first | (exfalso; omega) | (refine ⟨fun _ => ?_, fun _ => ?_⟩) | (refine ⟨by omega, ?_⟩) | (intro _)
         all_goals (refine hK _ ?_; clear hK K)
         all_goals
          refine ⟨_, LeS.kp [(0, .sl 1 (xs.map cS)), (1, .sl 1 (ys.map cS)), (5, (.g (.int .i64 (((i + 1) : Nat)))))] (by simp [KpE, upd_app, lkE_app, lk_cons]; try rfl), _, ?_, i + 1, rfl, ?_, rfl⟩
          · omega
          · refine ⟨by omega, fun j hj => ?_⟩
            by_cases hji : j = i
            · subst hji; simp_all [eqB_true, eqB_false]
            · exact hpre j (by omega)
     try simp at hc6
     have hi2 : i = xs.length := by omega
     subst hi2
     have heq : xs = ys := List.ext_getElem? fun j => by
       by_cases hj : j < xs.length
       · exact hpre j hj
       · rw [List.getElem?_eq_none (by omega), List.getElem?_eq_none (by omega)]
     refine AW_exit ?_
     refine AW_id ?_
     refine AW_r rfl rfl fun K hK => ?_
     simp (disch := omega) [cS]
     repeat' first | (exfalso; omega) | (refine ⟨fun _ => ?_, fun _ => ?_⟩) | (refine ⟨by omega, ?_⟩) | (intro _)
     all_goals (refine hK _ ?_; clear hK K)
     all_goals
      refine AW_ret (end_s ?_)
      simp (disch := omega) [cS]
      all_goals first | (exact eqB_of heq) | (refine eqB_ne fun heq => ?_; subst heq; simp_all [eqB_true, eqB_false, eqB_self]; done) | (refine (eqB_ne fun heq => ?_).symm; subst heq; simp_all [eqB_true, eqB_false, eqB_self]; done) | simp_all [eqB_self]
attribute [local simp] szR DtCSnap.cells
attribute [-simp] szR
theorem eqCSnap (u v : DtCSnap) (hs : DtCSnap.sz u ≤ 1048576) : PCall Try.prog 138 [.agg (DtCSnap.cells u), .agg (DtCSnap.cells v)] (.g (.bool (eqB u v))) := by
  simp only [DtCSnap.sz] at hs
  have z2 := (szS_nonneg lenZ_nonneg) u.fChunks
  have s0 : (u.fName.length : Int) ≤ 1048576 := by omega
  have s1 : (u.fTag.length : Int) ≤ 1048576 := by omega
  have s2 : szS lenZ u.fChunks ≤ 1048576 := by omega
  have he := DtCSnap.ext_iff u v
  refine gcall_of_walk Try.func138 (by rfl) (by rfl) (by rw [Try.ntmps138]; exact Nat.le_of_ble_eq_true rfl) rfl (by decide) ?_
  rw [Try.ntmps138]
  refine AW_k [(0, _), (1, _)] ⟨rfl, rfl, trivial⟩ ?_
  refine AW_r rfl rfl fun K hK => ?_
  simp
  repeat' first | (refine ⟨by omega, ?_⟩) | (intro _)
  refine hK _ ?_; clear hK K
  refine AW_seq ?_
  refine AW_r rfl rfl fun K hK => ?_
  simp
  repeat' first | (refine ⟨by omega, ?_⟩) | (intro _)
  refine hK _ ?_; clear hK K
  refine AW_cond rfl (fun hc11 => ?_) (fun hc11 => ?_)
  · try simp at hc11
    all_goals
     refine AW_r rfl rfl fun K hK => ?_
     simp
     repeat' first | (refine ⟨fun _ => ?_, fun _ => ?_⟩) | (refine ⟨by omega, ?_⟩) | (intro _)
     all_goals (refine hK _ ?_; clear hK K)
     all_goals
      refine AW_ret (end_s ?_)
      simp
      all_goals first | (refine eqB_of (he.mpr ?_); simp_all [eqB_true, eqB_false]; done) | (refine eqB_ne fun h => ?_; rw [he] at h; simp_all [eqB_true, eqB_false, eqB_self]; done) | (refine (eqB_of (he.mpr ?_)).symm; simp_all [eqB_true, eqB_false]; done) | (refine (eqB_ne fun h => ?_).symm; rw [he] at h; simp_all [eqB_true, eqB_false, eqB_self]; done)
  try simp at hc11
  refine AW_skip ?_
  refine AW_id ?_
  refine AW_seq ?_
  refine AW_r rfl rfl fun K hK => ?_
  simp
  repeat' first | (refine ⟨fun _ => ?_, fun _ => ?_⟩) | (refine ⟨by omega, ?_⟩) | (intro _)
  all_goals (refine hK _ ?_; clear hK K)
  all_goals
   refine AW_cond rfl (fun hc12 => ?_) (fun hc12 => ?_)
   · try simp at hc12
     all_goals
      refine AW_r rfl rfl fun K hK => ?_
      simp
      repeat' first | (refine ⟨fun _ => ?_, fun _ => ?_⟩) | (refine ⟨by omega, ?_⟩) | (intro _)
      all_goals (refine hK _ ?_; clear hK K)
      all_goals
       refine AW_ret (end_s ?_)
       simp
       all_goals first | (refine eqB_of (he.mpr ?_); simp_all [eqB_true, eqB_false]; done) | (refine eqB_ne fun h => ?_; rw [he] at h; simp_all [eqB_true, eqB_false, eqB_self]; done) | (refine (eqB_of (he.mpr ?_)).symm; simp_all [eqB_true, eqB_false]; done) | (refine (eqB_ne fun h => ?_).symm; rw [he] at h; simp_all [eqB_true, eqB_false, eqB_self]; done)
   try simp at hc12
   refine AW_skip ?_
   refine AW_id ?_
   refine AW_seq ?_
   refine AW_r rfl rfl fun K hK => ?_
   simp
   repeat' first | (refine CKd_v (am2s_cons am2_sl (am2s_cons am2_sl am2s_nil)) (eqStringS _ _ (by first | assumption | omega)) rfl ?_; simp) | (refine ⟨fun _ => ?_, fun _ => ?_⟩) | (refine ⟨by omega, ?_⟩) | (intro _)
   all_goals (refine hK _ ?_; clear hK K)
   all_goals
    refine AW_cond rfl (fun hc13 => ?_) (fun hc13 => ?_)
    · try simp at hc13
      all_goals
       refine AW_r rfl rfl fun K hK => ?_
       simp
       repeat' first | (refine ⟨fun _ => ?_, fun _ => ?_⟩) | (refine ⟨by omega, ?_⟩) | (intro _)
       all_goals (refine hK _ ?_; clear hK K)
       all_goals
        refine AW_ret (end_s ?_)
        simp
        all_goals first | (refine eqB_of (he.mpr ?_); simp_all [eqB_true, eqB_false]; done) | (refine eqB_ne fun h => ?_; rw [he] at h; simp_all [eqB_true, eqB_false, eqB_self]; done) | (refine (eqB_of (he.mpr ?_)).symm; simp_all [eqB_true, eqB_false]; done) | (refine (eqB_ne fun h => ?_).symm; rw [he] at h; simp_all [eqB_true, eqB_false, eqB_self]; done)
    try simp at hc13
    refine AW_skip ?_
    refine AW_id ?_
    refine AW_r rfl rfl fun K hK => ?_
    simp
    repeat' first | (refine ⟨fun _ => ?_, fun _ => ?_⟩) | (refine ⟨by omega, ?_⟩) | (intro _)
    all_goals (refine hK _ ?_; clear hK K)
    all_goals
     refine AW_ret (end_s ?_)
     simp
     all_goals first | (refine eqB_of (he.mpr ?_); simp_all [eqB_true, eqB_false]; done) | (refine eqB_ne fun h => ?_; rw [he] at h; simp_all [eqB_true, eqB_false, eqB_self]; done) | (refine (eqB_of (he.mpr ?_)).symm; simp_all [eqB_true, eqB_false]; done) | (refine (eqB_ne fun h => ?_).symm; rw [he] at h; simp_all [eqB_true, eqB_false, eqB_self]; done)
attribute [local simp] szR
attribute [-simp] DtCSnap.cells
attribute [-simp] szR
theorem eqCSnapS (xs ys : List DtCSnap) (hs : szS DtCSnap.sz xs ≤ 1048576) : PCall Try.prog 131 [.sl 3 (xs.map DtCSnap.cells), .sl 3 (ys.map DtCSnap.cells)] (.g (.bool (eqB xs ys))) := by
  have hn : xs.length ≤ 1048576 := by have := sumZ_nonneg DtCSnap.sz_nonneg xs; simp only [szS] at hs; omega
  refine gcall_of_walk Try.func131 (by rfl) (by rfl) (by rw [Try.ntmps131]; exact Nat.le_of_ble_eq_true rfl) rfl (by decide) ?_
  rw [Try.ntmps131]
  refine AW_k [(0, _), (1, _)] ⟨rfl, rfl, trivial⟩ ?_
  refine AW_r rfl rfl fun K hK => ?_
  simp (disch := omega)
  repeat' first | (refine ⟨by omega, ?_⟩) | (intro _)
  refine hK _ ?_; clear hK K
  refine AW_seq ?_
  refine AW_r rfl rfl fun K hK => ?_
  simp (disch := omega)
  repeat' first | (refine ⟨by omega, ?_⟩) | (intro _)
  refine hK _ ?_; clear hK K
  refine AW_cond rfl (fun hc18 => ?_) (fun hc18 => ?_)
  · try simp at hc18
    all_goals
     refine AW_r rfl rfl fun K hK => ?_
     simp (disch := omega)
     repeat' first | (exfalso; omega) | (refine ⟨fun _ => ?_, fun _ => ?_⟩) | (refine ⟨by omega, ?_⟩) | (intro _)
     all_goals (refine hK _ ?_; clear hK K)
     all_goals
      refine AW_ret (end_s ?_)
      simp (disch := omega)
      all_goals first | (exact eqB_of heq) | (refine eqB_ne fun heq => ?_; subst heq; simp_all [eqB_true, eqB_false, eqB_self]; done) | (refine (eqB_ne fun heq => ?_).symm; subst heq; simp_all [eqB_true, eqB_false, eqB_self]; done) | simp_all [eqB_self]
  try simp at hc18
  refine AW_skip ?_
  refine AW_id ?_
  refine AW_seq ?_
  refine AW_r rfl rfl fun K hK => ?_
  simp (disch := omega)
  repeat' first | (exfalso; omega) | (refine ⟨fun _ => ?_, fun _ => ?_⟩) | (refine ⟨by omega, ?_⟩) | (intro _)
  all_goals (refine hK _ ?_; clear hK K)
  all_goals
   refine AW_block ?_
   refine AW_loopS (fun mM sS => ∃ (i : Nat), mM = xs.length - i ∧ (i ≤ xs.length ∧ ∀ j, j < i → xs[j]? = ys[j]?) ∧ sS = { env := lkE [(0, .sl 3 (xs.map DtCSnap.cells)), (1, .sl 3 (ys.map DtCSnap.cells)), (5, (.g (.int .i64 ((i : Nat)))))], ob := formOb [] [] }) ?_ ?_
   · refine ⟨_, LeS.kp [(0, .sl 3 (xs.map DtCSnap.cells)), (1, .sl 3 (ys.map DtCSnap.cells)), (5, (.g (.int .i64 (((0) : Nat)))))] (by simp [KpE, upd_app, lkE_app, lk_cons]; try rfl), _, 0, rfl, ?_, rfl⟩
     · simp
   · rintro mM sS ⟨i, rfl, ⟨hi, hpre⟩, rfl⟩
     refine AW_seq ?_
     refine AW_r rfl rfl fun K hK => ?_
     simp (disch := omega) [DtCSnap.cells]
     repeat' first | (refine ⟨by omega, ?_⟩) | (intro _)
     refine hK _ ?_; clear hK K
     refine AW_cond rfl (fun hc19 => ?_) (fun hc19 => ?_)
     · try simp at hc19
       all_goals
        have h7 : i < ys.length := by omega
        have hsE : DtCSnap.sz xs[i] ≤ 1048576 := by have := sumZ_mem_le DtCSnap.sz_nonneg xs xs[i] (List.getElem_mem _); simp only [szS] at hs; omega
        refine AW_skip ?_
        refine AW_id ?_
        refine AW_seq ?_
        refine AW_block ?_
        refine AW_q rfl mix (by kernel_rfl) rfl fun K hK => ?_
        simp (disch := omega) [DtCSnap.cells]
        repeat' first | (exfalso; omega) | (refine CKd_v (am2s_cons (am2_agg rfl) (am2s_cons (am2_agg rfl) am2s_nil)) (eqCSnap _ _ (by first | assumption | omega)) rfl ?_; simp (disch := omega) [DtCSnap.cells]) | (refine ⟨fun _ => ?_, fun _ => ?_⟩) | (refine ⟨by omega, ?_⟩) | (intro _)
        all_goals (refine hK _ ?_; clear hK K)
        all_goals
         refine AW_cond rfl (fun hc20 => ?_) (fun hc20 => ?_)
         · try simp at hc20
           all_goals
            refine AW_r rfl rfl fun K hK => ?_
            simp (disch := omega) [DtCSnap.cells]
            repeat' first | (exfalso; omega) | (refine ⟨fun _ => ?_, fun _ => ?_⟩) | (refine ⟨by omega, ?_⟩) | (intro _)
            all_goals (refine hK _ ?_; clear hK K)
            all_goals
             refine AW_ret (end_s ?_)
             simp (disch := omega) [DtCSnap.cells]
             all_goals first | (exact eqB_of heq) | (refine eqB_ne fun heq => ?_; subst heq; simp_all [eqB_true, eqB_false, eqB_self]; done) | (refine (eqB_ne fun heq => ?_).symm; subst heq; simp_all [eqB_true, eqB_false, eqB_self]; done) | simp_all [eqB_self]
         try simp at hc20
         refine AW_skip ?_
         refine AW_id ?_
         refine AW_re rfl rfl fun K hK => ?_
         simp (disch := omega) [DtCSnap.cells]
         repeat' first | (exfalso; omega) | (refine ⟨fun _ => ?_, fun _ => ?_⟩) | (refine ⟨by omega, ?_⟩) | (intro _)
         all_goals (refine hK _ ?_; clear hK K)
         all_goals
          refine ⟨_, LeS.kp [(0, .sl 3 (xs.map DtCSnap.cells)), (1, .sl 3 (ys.map DtCSnap.cells)), (5, (.g (.int .i64 (((i + 1) : Nat)))))] (by simp [KpE, upd_app, lkE_app, lk_cons]; try rfl), _, ?_, i + 1, rfl, ?_, rfl⟩
          · omega
          · refine ⟨by omega, fun j hj => ?_⟩
            by_cases hji : j = i
            · subst hji; simp_all [eqB_true, eqB_false]
            · exact hpre j (by omega)
     try simp at hc19
     have hi2 : i = xs.length := by omega
     subst hi2
     have heq : xs = ys := List.ext_getElem? fun j => by
       by_cases hj : j < xs.length
       · exact hpre j hj
       · rw [List.getElem?_eq_none (by omega), List.getElem?_eq_none (by omega)]
     refine AW_exit ?_
     refine AW_id ?_
     refine AW_r rfl rfl fun K hK => ?_
     simp (disch := omega) [DtCSnap.cells]
     repeat' first | (exfalso; omega) | (refine ⟨fun _ => ?_, fun _ => ?_⟩) | (refine ⟨by omega, ?_⟩) | (intro _)
     all_goals (refine hK _ ?_; clear hK K)
     all_goals
      refine AW_ret (end_s ?_)
      simp (disch := omega) [DtCSnap.cells]
      all_goals first | (exact eqB_of heq) | (refine eqB_ne fun heq => ?_; subst heq; simp_all [eqB_true, eqB_false, eqB_self]; done) | (refine (eqB_ne fun heq => ?_).symm; subst heq; simp_all [eqB_true, eqB_false, eqB_self]; done) | simp_all [eqB_self]
attribute [local simp] szR DtCSet.cells
attribute [-simp] szR
theorem eqCSet (u v : DtCSet) (hs : DtCSet.sz u ≤ 1048576) : PCall Try.prog 107 [.agg (DtCSet.cells u), .agg (DtCSet.cells v)] (.g (.bool (eqB u v))) := by
  simp only [DtCSet.sz] at hs
  have z1 := (szS_nonneg DtCSnap.sz_nonneg) u.fSnaps
  have s0 : (u.fName.length : Int) ≤ 1048576 := by omega
  have s1 : szS DtCSnap.sz u.fSnaps ≤ 1048576 := by omega
  have he := DtCSet.ext_iff u v
  refine gcall_of_walk Try.func107 (by rfl) (by rfl) (by rw [Try.ntmps107]; exact Nat.le_of_ble_eq_true rfl) rfl (by decide) ?_
  rw [Try.ntmps107]
  refine AW_k [(0, _), (1, _)] ⟨rfl, rfl, trivial⟩ ?_
  refine AW_r rfl rfl fun K hK => ?_
  simp
  repeat' first | (refine ⟨by omega, ?_⟩) | (intro _)
  refine hK _ ?_; clear hK K
  refine AW_seq ?_
  refine AW_r rfl rfl fun K hK => ?_
  simp
  repeat' first | (refine ⟨by omega, ?_⟩) | (intro _)
  refine hK _ ?_; clear hK K
  refine AW_cond rfl (fun hc23 => ?_) (fun hc23 => ?_)
  · try simp at hc23
    all_goals
     refine AW_r rfl rfl fun K hK => ?_
     simp
     repeat' first | (refine ⟨fun _ => ?_, fun _ => ?_⟩) | (refine ⟨by omega, ?_⟩) | (intro _)
     all_goals (refine hK _ ?_; clear hK K)
     all_goals
      refine AW_ret (end_s ?_)
      simp
      all_goals first | (refine eqB_of (he.mpr ?_); simp_all [eqB_true, eqB_false]; done) | (refine eqB_ne fun h => ?_; rw [he] at h; simp_all [eqB_true, eqB_false, eqB_self]; done) | (refine (eqB_of (he.mpr ?_)).symm; simp_all [eqB_true, eqB_false]; done) | (refine (eqB_ne fun h => ?_).symm; rw [he] at h; simp_all [eqB_true, eqB_false, eqB_self]; done)
  try simp at hc23
  refine AW_skip ?_
  refine AW_id ?_
  refine AW_seq ?_
  refine AW_r rfl rfl fun K hK => ?_
  simp
  repeat' first | (refine CKd_v (am2s_cons am2_sl (am2s_cons am2_sl am2s_nil)) (eqCSnapS _ _ (by first | assumption | omega)) rfl ?_; simp) | (refine ⟨fun _ => ?_, fun _ => ?_⟩) | (refine ⟨by omega, ?_⟩) | (intro _)
  all_goals (refine hK _ ?_; clear hK K)
  all_goals
   refine AW_cond rfl (fun hc24 => ?_) (fun hc24 => ?_)
   · try simp at hc24
     all_goals
      refine AW_r rfl rfl fun K hK => ?_
      simp
      repeat' first | (refine ⟨fun _ => ?_, fun _ => ?_⟩) | (refine ⟨by omega, ?_⟩) | (intro _)
      all_goals (refine hK _ ?_; clear hK K)
      all_goals
       refine AW_ret (end_s ?_)
       simp
       all_goals first | (refine eqB_of (he.mpr ?_); simp_all [eqB_true, eqB_false]; done) | (refine eqB_ne fun h => ?_; rw [he] at h; simp_all [eqB_true, eqB_false, eqB_self]; done) | (refine (eqB_of (he.mpr ?_)).symm; simp_all [eqB_true, eqB_false]; done) | (refine (eqB_ne fun h => ?_).symm; rw [he] at h; simp_all [eqB_true, eqB_false, eqB_self]; done)
   try simp at hc24
   refine AW_skip ?_
   refine AW_id ?_
   refine AW_r rfl rfl fun K hK => ?_
   simp
   repeat' first | (refine ⟨fun _ => ?_, fun _ => ?_⟩) | (refine ⟨by omega, ?_⟩) | (intro _)
   all_goals (refine hK _ ?_; clear hK K)
   all_goals
    refine AW_ret (end_s ?_)
    simp
    all_goals first | (refine eqB_of (he.mpr ?_); simp_all [eqB_true, eqB_false]; done) | (refine eqB_ne fun h => ?_; rw [he] at h; simp_all [eqB_true, eqB_false, eqB_self]; done) | (refine (eqB_of (he.mpr ?_)).symm; simp_all [eqB_true, eqB_false]; done) | (refine (eqB_ne fun h => ?_).symm; rw [he] at h; simp_all [eqB_true, eqB_false, eqB_self]; done)
attribute [local simp] szR
attribute [-simp] DtCSet.cells
attribute [-simp] szR
theorem eqCSetS (xs ys : List DtCSet) (hs : szS DtCSet.sz xs ≤ 1048576) : PCall Try.prog 66 [.sl 2 (xs.map DtCSet.cells), .sl 2 (ys.map DtCSet.cells)] (.g (.bool (eqB xs ys))) := by
  have hn : xs.length ≤ 1048576 := by have := sumZ_nonneg DtCSet.sz_nonneg xs; simp only [szS] at hs; omega
  refine gcall_of_walk Try.func66 (by rfl) (by rfl) (by rw [Try.ntmps66]; exact Nat.le_of_ble_eq_true rfl) rfl (by decide) ?_
  rw [Try.ntmps66]
  refine AW_k [(0, _), (1, _)] ⟨rfl, rfl, trivial⟩ ?_
  refine AW_r rfl rfl fun K hK => ?_
  simp (disch := omega)
  repeat' first | (refine ⟨by omega, ?_⟩) | (intro _)
  refine hK _ ?_; clear hK K
  refine AW_seq ?_
  refine AW_r rfl rfl fun K hK => ?_
  simp (disch := omega)
  repeat' first | (refine ⟨by omega, ?_⟩) | (intro _)
  refine hK _ ?_; clear hK K
  refine AW_cond rfl (fun hc29 => ?_) (fun hc29 => ?_)
  · try simp at hc29
    all_goals
     refine AW_r rfl rfl fun K hK => ?_
     simp (disch := omega)
     repeat' first | (exfalso; omega) | (refine ⟨fun _ => ?_, fun _ => ?_⟩) | (refine ⟨by omega, ?_⟩) | (intro _)
     all_goals (refine hK _ ?_; clear hK K)
     all_goals
      refine AW_ret (end_s ?_)
      simp (disch := omega)
      all_goals first | (exact eqB_of heq) | (refine eqB_ne fun heq => ?_; subst heq; simp_all [eqB_true, eqB_false, eqB_self]; done) | (refine (eqB_ne fun heq => ?_).symm; subst heq; simp_all [eqB_true, eqB_false, eqB_self]; done) | simp_all [eqB_self]
  try simp at hc29
  refine AW_skip ?_
  refine AW_id ?_
  refine AW_seq ?_
  refine AW_r rfl rfl fun K hK => ?_
  simp (disch := omega)
  repeat' first | (exfalso; omega) | (refine ⟨fun _ => ?_, fun _ => ?_⟩) | (refine ⟨by omega, ?_⟩) | (intro _)
  all_goals (refine hK _ ?_; clear hK K)
  all_goals
   refine AW_block ?_
   refine AW_loopS (fun mM sS => ∃ (i : Nat), mM = xs.length - i ∧ (i ≤ xs.length ∧ ∀ j, j < i → xs[j]? = ys[j]?) ∧ sS = { env := lkE [(0, .sl 2 (xs.map DtCSet.cells)), (1, .sl 2 (ys.map DtCSet.cells)), (5, (.g (.int .i64 ((i : Nat)))))], ob := formOb [] [] }) ?_ ?_
   · refine ⟨_, LeS.kp [(0, .sl 2 (xs.map DtCSet.cells)), (1, .sl 2 (ys.map DtCSet.cells)), (5, (.g (.int .i64 (((0) : Nat)))))] (by simp [KpE, upd_app, lkE_app, lk_cons]; try rfl), _, 0, rfl, ?_, rfl⟩
     · simp
   · rintro mM sS ⟨i, rfl, ⟨hi, hpre⟩, rfl⟩
     refine AW_seq ?_
     refine AW_r rfl rfl fun K hK => ?_
     simp (disch := omega) [DtCSet.cells]
     repeat' first | (refine ⟨by omega, ?_⟩) | (intro _)
     refine hK _ ?_; clear hK K
     refine AW_cond rfl (fun hc30 => ?_) (fun hc30 => ?_)
     · try simp at hc30
       all_goals
        have h7 : i < ys.length := by omega
        have hsE : DtCSet.sz xs[i] ≤ 1048576 := by have := sumZ_mem_le DtCSet.sz_nonneg xs xs[i] (List.getElem_mem _); simp only [szS] at hs; omega
        refine AW_skip ?_
        refine AW_id ?_
        refine AW_seq ?_
        refine AW_block ?_
        refine AW_q rfl mix (by kernel_rfl) rfl fun K hK => ?_
        simp (disch := omega) [DtCSet.cells]
        repeat' first | (exfalso; omega) | (refine CKd_v (am2s_cons (am2_agg rfl) (am2s_cons (am2_agg rfl) am2s_nil)) (eqCSet _ _ (by first | assumption | omega)) rfl ?_; simp (disch := omega) [DtCSet.cells]) | (refine ⟨fun _ => ?_, fun _ => ?_⟩) | (refine ⟨by omega, ?_⟩) | (intro _)
        all_goals (refine hK _ ?_; clear hK K)
        all_goals
         refine AW_cond rfl (fun hc31 => ?_) (fun hc31 => ?_)
         · try simp at hc31
           all_goals
            refine AW_r rfl rfl fun K hK => ?_
            simp (disch := omega) [DtCSet.cells]
            repeat' first | (exfalso; omega) | (refine ⟨fun _ => ?_, fun _ => ?_⟩) | (refine ⟨by omega, ?_⟩) | (intro _)
            all_goals (refine hK _ ?_; clear hK K)
            all_goals
             refine AW_ret (end_s ?_)
             simp (disch := omega) [DtCSet.cells]
             all_goals first | (exact eqB_of heq) | (refine eqB_ne fun heq => ?_; subst heq; simp_all [eqB_true, eqB_false, eqB_self]; done) | (refine (eqB_ne fun heq => ?_).symm; subst heq; simp_all [eqB_true, eqB_false, eqB_self]; done) | simp_all [eqB_self]
         try simp at hc31
         refine AW_skip ?_
         refine AW_id ?_
         refine AW_re rfl rfl fun K hK => ?_
         simp (disch := omega) [DtCSet.cells]
         repeat' first | (exfalso; omega) | (refine ⟨fun _ => ?_, fun _ => ?_⟩) | (refine ⟨by omega, ?_⟩) | (intro _)
         all_goals (refine hK _ ?_; clear hK K)
         all_goals
          refine ⟨_, LeS.kp [(0, .sl 2 (xs.map DtCSet.cells)), (1, .sl 2 (ys.map DtCSet.cells)), (5, (.g (.int .i64 (((i + 1) : Nat)))))] (by simp [KpE, upd_app, lkE_app, lk_cons]; try rfl), _, ?_, i + 1, rfl, ?_, rfl⟩
          · omega
          · refine ⟨by omega, fun j hj => ?_⟩
            by_cases hji : j = i
            · subst hji; simp_all [eqB_true, eqB_false]
            · exact hpre j (by omega)
     try simp at hc30
     have hi2 : i = xs.length := by omega
     subst hi2
     have heq : xs = ys := List.ext_getElem? fun j => by
       by_cases hj : j < xs.length
       · exact hpre j hj
       · rw [List.getElem?_eq_none (by omega), List.getElem?_eq_none (by omega)]
     refine AW_exit ?_
     refine AW_id ?_
     refine AW_r rfl rfl fun K hK => ?_
     simp (disch := omega) [DtCSet.cells]
     repeat' first | (exfalso; omega) | (refine ⟨fun _ => ?_, fun _ => ?_⟩) | (refine ⟨by omega, ?_⟩) | (intro _)
     all_goals (refine hK _ ?_; clear hK K)
     all_goals
      refine AW_ret (end_s ?_)
      simp (disch := omega) [DtCSet.cells]
      all_goals first | (exact eqB_of heq) | (refine eqB_ne fun heq => ?_; subst heq; simp_all [eqB_true, eqB_false, eqB_self]; done) | (refine (eqB_ne fun heq => ?_).symm; subst heq; simp_all [eqB_true, eqB_false, eqB_self]; done) | simp_all [eqB_self]
attribute [local simp] szR DtCatalog.cells
attribute [-simp] szR
theorem eqCatalog (u v : DtCatalog) (hs : DtCatalog.sz u ≤ 1048576) : PCall Try.prog 14 [.agg (DtCatalog.cells u), .agg (DtCatalog.cells v)] (.g (.bool (eqB u v))) := by
  simp only [DtCatalog.sz] at hs
  have z0 := (szS_nonneg DtCSet.sz_nonneg) u.fSets
  have s0 : szS DtCSet.sz u.fSets ≤ 1048576 := by omega
  have he := DtCatalog.ext_iff u v
  refine gcall_of_walk Try.func14 (by rfl) (by rfl) (by rw [Try.ntmps14]; exact Nat.le_of_ble_eq_true rfl) rfl (by decide) ?_
  rw [Try.ntmps14]
  refine AW_k [(0, _), (1, _)] ⟨rfl, rfl, trivial⟩ ?_
  refine AW_r rfl rfl fun K hK => ?_
  simp
  repeat' first | (refine ⟨by omega, ?_⟩) | (intro _)
  refine hK _ ?_; clear hK K
  refine AW_seq ?_
  refine AW_r rfl rfl fun K hK => ?_
  simp
  repeat' first | (refine CKd_v (am2s_cons am2_sl (am2s_cons am2_sl am2s_nil)) (eqCSetS _ _ (by first | assumption | omega)) rfl ?_; simp) | (refine ⟨by omega, ?_⟩) | (intro _)
  refine hK _ ?_; clear hK K
  refine AW_cond rfl (fun hc33 => ?_) (fun hc33 => ?_)
  · try simp at hc33
    all_goals
     refine AW_r rfl rfl fun K hK => ?_
     simp
     repeat' first | (refine ⟨fun _ => ?_, fun _ => ?_⟩) | (refine ⟨by omega, ?_⟩) | (intro _)
     all_goals (refine hK _ ?_; clear hK K)
     all_goals
      refine AW_ret (end_s ?_)
      simp
      all_goals first | (refine eqB_of (he.mpr ?_); simp_all [eqB_true, eqB_false]; done) | (refine eqB_ne fun h => ?_; rw [he] at h; simp_all [eqB_true, eqB_false, eqB_self]; done) | (refine (eqB_of (he.mpr ?_)).symm; simp_all [eqB_true, eqB_false]; done) | (refine (eqB_ne fun h => ?_).symm; rw [he] at h; simp_all [eqB_true, eqB_false, eqB_self]; done)
  try simp at hc33
  refine AW_skip ?_
  refine AW_id ?_
  refine AW_r rfl rfl fun K hK => ?_
  simp
  repeat' first | (refine ⟨fun _ => ?_, fun _ => ?_⟩) | (refine ⟨by omega, ?_⟩) | (intro _)
  all_goals (refine hK _ ?_; clear hK K)
  all_goals
   refine AW_ret (end_s ?_)
   simp
   all_goals first | (refine eqB_of (he.mpr ?_); simp_all [eqB_true, eqB_false]; done) | (refine eqB_ne fun h => ?_; rw [he] at h; simp_all [eqB_true, eqB_false, eqB_self]; done) | (refine (eqB_of (he.mpr ?_)).symm; simp_all [eqB_true, eqB_false]; done) | (refine (eqB_ne fun h => ?_).symm; rw [he] at h; simp_all [eqB_true, eqB_false, eqB_self]; done)
attribute [local simp] szR DtCmd.cells
attribute [-simp] DtCatalog.cells
theorem szCmd (u : DtCmd) (n : Int) (hn : 0 ≤ n ∧ n ≤ 1048576) (hw : DtCmd.wf u) : PCall Try.prog 9 [.agg (DtCmd.cells u), (.g (.int .i64 (n)))] (.g (.int .i64 (szR n (DtCmd.sz u)))) := by
  have ⟨w0, w1, w2, w3, w4, w5, w6, w7⟩ := hw
  have w32 : u.fSet.length ≤ 9223372036854775807 := w3
  have w42 : u.fName.length ≤ 9223372036854775807 := w4
  have w52 : u.fTag.length ≤ 9223372036854775807 := w5
  have w72 := w7.1
  have z7 := (szS_nonneg lenZ_nonneg) u.fChunks
  refine gcall_of_walk Try.func9 (by rfl) (by rfl) (by rw [Try.ntmps9]; exact Nat.le_of_ble_eq_true rfl) rfl (by decide) ?_
  rw [Try.ntmps9]
  refine AW_k [(0, _), (1, _)] ⟨rfl, rfl, trivial⟩ ?_
  refine AW_r rfl rfl fun K hK => ?_
  simp (disch := omega)
  repeat' first | (refine ⟨by omega, ?_⟩) | (intro _)
  refine hK _ ?_; clear hK K
  refine AW_r rfl rfl fun K hK => ?_
  simp (disch := omega)
  repeat' first | (refine ⟨by omega, ?_⟩) | (intro _)
  refine hK _ ?_; clear hK K
  refine AW_seq ?_
  refine AW_r rfl rfl fun K hK => ?_
  simp (disch := omega)
  repeat' first | (refine ⟨by omega, ?_⟩) | (intro _)
  refine hK _ ?_; clear hK K
  refine AW_cond rfl (fun hc34 => ?_) (fun hc34 => ?_)
  · try simp at hc34
    all_goals
     refine AW_r rfl rfl fun K hK => ?_
     simp (disch := omega)
     repeat' first | (exfalso; omega) | (refine ⟨fun _ => ?_, fun _ => ?_⟩) | (refine ⟨by omega, ?_⟩) | (intro _)
     all_goals (refine hK _ ?_; clear hK K)
     all_goals
      refine AW_ret (end_s ?_)
      simp (disch := omega) [DtCmd.sz]
      all_goals first | omega | (simp_all; done) | (split <;> omega) | (split <;> simp_all <;> omega) | (simp_all [szR]; omega)
  try simp at hc34
  refine AW_skip ?_
  refine AW_id ?_
  refine AW_r rfl rfl fun K hK => ?_
  simp (disch := omega)
  repeat' first | (exfalso; omega) | (refine ⟨fun _ => ?_, fun _ => ?_⟩) | (refine ⟨by omega, ?_⟩) | (intro _)
  all_goals (refine hK _ ?_; clear hK K)
  all_goals
   refine AW_seq ?_
   refine AW_r rfl rfl fun K hK => ?_
   simp (disch := omega)
   repeat' first | (refine ⟨by omega, ?_⟩) | (intro _)
   refine hK _ ?_; clear hK K
   refine AW_cond rfl (fun hc35 => ?_) (fun hc35 => ?_)
   · try simp at hc35
     all_goals
      refine AW_r rfl rfl fun K hK => ?_
      simp (disch := omega)
      repeat' first | (exfalso; omega) | (refine ⟨fun _ => ?_, fun _ => ?_⟩) | (refine ⟨by omega, ?_⟩) | (intro _)
      all_goals (refine hK _ ?_; clear hK K)
      all_goals
       refine AW_ret (end_s ?_)
       simp (disch := omega) [DtCmd.sz]
       all_goals first | omega | (simp_all; done) | (split <;> omega) | (split <;> simp_all <;> omega) | (simp_all [szR]; omega)
   try simp at hc35
   refine AW_skip ?_
   refine AW_id ?_
   refine AW_r rfl rfl fun K hK => ?_
   simp (disch := omega)
   repeat' first | (exfalso; omega) | (refine ⟨fun _ => ?_, fun _ => ?_⟩) | (refine ⟨by omega, ?_⟩) | (intro _)
   all_goals (refine hK _ ?_; clear hK K)
   all_goals
    refine AW_seq ?_
    refine AW_r rfl rfl fun K hK => ?_
    simp (disch := omega)
    repeat' first | (refine ⟨by omega, ?_⟩) | (intro _)
    refine hK _ ?_; clear hK K
    refine AW_cond rfl (fun hc36 => ?_) (fun hc36 => ?_)
    · try simp at hc36
      all_goals
       refine AW_r rfl rfl fun K hK => ?_
       simp (disch := omega)
       repeat' first | (exfalso; omega) | (refine ⟨fun _ => ?_, fun _ => ?_⟩) | (refine ⟨by omega, ?_⟩) | (intro _)
       all_goals (refine hK _ ?_; clear hK K)
       all_goals
        refine AW_ret (end_s ?_)
        simp (disch := omega) [DtCmd.sz]
        all_goals first | omega | (simp_all; done) | (split <;> omega) | (split <;> simp_all <;> omega) | (simp_all [szR]; omega)
    try simp at hc36
    refine AW_skip ?_
    refine AW_id ?_
    refine AW_r rfl rfl fun K hK => ?_
    simp (disch := omega)
    repeat' first | (exfalso; omega) | (refine CKd_v (am2s_cons am2_sl (am2s_cons am2_g am2s_nil)) (szStringS _ _ (by omega) (by assumption)) rfl ?_; simp (disch := omega)) | (refine ⟨fun _ => ?_, fun _ => ?_⟩) | (refine ⟨by omega, ?_⟩) | (intro _)
    all_goals (refine hK _ ?_; clear hK K)
    all_goals
     refine AW_seq ?_
     refine AW_r rfl rfl fun K hK => ?_
     simp (disch := omega)
     repeat' first | (refine ⟨by omega, ?_⟩) | (intro _)
     refine hK _ ?_; clear hK K
     refine AW_cond rfl (fun hc37 => ?_) (fun hc37 => ?_)
     · try simp at hc37
       all_goals
        refine AW_r rfl rfl fun K hK => ?_
        simp (disch := omega)
        repeat' first | (exfalso; omega) | (refine ⟨fun _ => ?_, fun _ => ?_⟩) | (refine ⟨by omega, ?_⟩) | (intro _)
        all_goals (refine hK _ ?_; clear hK K)
        all_goals
         refine AW_ret (end_s ?_)
         simp (disch := omega) [DtCmd.sz]
         all_goals first | omega | (simp_all; done) | (split <;> omega) | (split <;> simp_all <;> omega) | (simp_all [szR]; omega)
     try simp at hc37
     refine AW_skip ?_
     refine AW_id ?_
     refine AW_r rfl rfl fun K hK => ?_
     simp (disch := omega)
     repeat' first | (exfalso; omega) | (refine ⟨fun _ => ?_, fun _ => ?_⟩) | (refine ⟨by omega, ?_⟩) | (intro _)
     all_goals (refine hK _ ?_; clear hK K)
     all_goals
      refine AW_ret (end_s ?_)
      simp (disch := omega) [DtCmd.sz]
      all_goals first | omega | (simp_all; done) | (split <;> omega) | (split <;> simp_all <;> omega) | (simp_all [szR]; omega)
attribute [-simp] szR
theorem eqCmd (u v : DtCmd) (hs : DtCmd.sz u ≤ 1048576) : PCall Try.prog 15 [.agg (DtCmd.cells u), .agg (DtCmd.cells v)] (.g (.bool (eqB u v))) := by
  simp only [DtCmd.sz] at hs
  have z7 := (szS_nonneg lenZ_nonneg) u.fChunks
  have s3 : (u.fSet.length : Int) ≤ 1048576 := by omega
  have s4 : (u.fName.length : Int) ≤ 1048576 := by omega
  have s5 : (u.fTag.length : Int) ≤ 1048576 := by omega
  have s7 : szS lenZ u.fChunks ≤ 1048576 := by omega
  have he := DtCmd.ext_iff u v
  refine gcall_of_walk Try.func15 (by rfl) (by rfl) (by rw [Try.ntmps15]; exact Nat.le_of_ble_eq_true rfl) rfl (by decide) ?_
  rw [Try.ntmps15]
  refine AW_k [(0, _), (1, _)] ⟨rfl, rfl, trivial⟩ ?_
  refine AW_r rfl rfl fun K hK => ?_
  simp
  repeat' first | (refine ⟨by omega, ?_⟩) | (intro _)
  refine hK _ ?_; clear hK K
  refine AW_seq ?_
  refine AW_r rfl rfl fun K hK => ?_
  simp
  repeat' first | (refine ⟨by omega, ?_⟩) | (intro _)
  refine hK _ ?_; clear hK K
  refine AW_cond rfl (fun hc38 => ?_) (fun hc38 => ?_)
  · try simp at hc38
    all_goals
     refine AW_r rfl rfl fun K hK => ?_
     simp
     repeat' first | (refine ⟨fun _ => ?_, fun _ => ?_⟩) | (refine ⟨by omega, ?_⟩) | (intro _)
     all_goals (refine hK _ ?_; clear hK K)
     all_goals
      refine AW_ret (end_s ?_)
      simp
      all_goals first | (refine eqB_of (he.mpr ?_); simp_all [eqB_true, eqB_false]; done) | (refine eqB_ne fun h => ?_; rw [he] at h; simp_all [eqB_true, eqB_false, eqB_self]; done) | (refine (eqB_of (he.mpr ?_)).symm; simp_all [eqB_true, eqB_false]; done) | (refine (eqB_ne fun h => ?_).symm; rw [he] at h; simp_all [eqB_true, eqB_false, eqB_self]; done)
  try simp at hc38
  refine AW_skip ?_
  refine AW_id ?_
  refine AW_seq ?_
  refine AW_r rfl rfl fun K hK => ?_
  simp
  repeat' first | (refine ⟨fun _ => ?_, fun _ => ?_⟩) | (refine ⟨by omega, ?_⟩) | (intro _)
  all_goals (refine hK _ ?_; clear hK K)
  all_goals
   refine AW_cond rfl (fun hc39 => ?_) (fun hc39 => ?_)
   · try simp at hc39
     all_goals
      refine AW_r rfl rfl fun K hK => ?_
      simp
      repeat' first | (refine ⟨fun _ => ?_, fun _ => ?_⟩) | (refine ⟨by omega, ?_⟩) | (intro _)
      all_goals (refine hK _ ?_; clear hK K)
      all_goals
       refine AW_ret (end_s ?_)
       simp
       all_goals first | (refine eqB_of (he.mpr ?_); simp_all [eqB_true, eqB_false]; done) | (refine eqB_ne fun h => ?_; rw [he] at h; simp_all [eqB_true, eqB_false, eqB_self]; done) | (refine (eqB_of (he.mpr ?_)).symm; simp_all [eqB_true, eqB_false]; done) | (refine (eqB_ne fun h => ?_).symm; rw [he] at h; simp_all [eqB_true, eqB_false, eqB_self]; done)
   try simp at hc39
   refine AW_skip ?_
   refine AW_id ?_
   refine AW_seq ?_
   refine AW_r rfl rfl fun K hK => ?_
   simp
   repeat' first | (refine ⟨fun _ => ?_, fun _ => ?_⟩) | (refine ⟨by omega, ?_⟩) | (intro _)
   all_goals (refine hK _ ?_; clear hK K)
   all_goals
    refine AW_cond rfl (fun hc40 => ?_) (fun hc40 => ?_)
    · try simp at hc40
      all_goals
       refine AW_r rfl rfl fun K hK => ?_
       simp
       repeat' first | (refine ⟨fun _ => ?_, fun _ => ?_⟩) | (refine ⟨by omega, ?_⟩) | (intro _)
       all_goals (refine hK _ ?_; clear hK K)
       all_goals
        refine AW_ret (end_s ?_)
        simp
        all_goals first | (refine eqB_of (he.mpr ?_); simp_all [eqB_true, eqB_false]; done) | (refine eqB_ne fun h => ?_; rw [he] at h; simp_all [eqB_true, eqB_false, eqB_self]; done) | (refine (eqB_of (he.mpr ?_)).symm; simp_all [eqB_true, eqB_false]; done) | (refine (eqB_ne fun h => ?_).symm; rw [he] at h; simp_all [eqB_true, eqB_false, eqB_self]; done)
    try simp at hc40
    refine AW_skip ?_
    refine AW_id ?_
    refine AW_seq ?_
    refine AW_r rfl rfl fun K hK => ?_
    simp
    repeat' first | (refine ⟨fun _ => ?_, fun _ => ?_⟩) | (refine ⟨by omega, ?_⟩) | (intro _)
    all_goals (refine hK _ ?_; clear hK K)
    all_goals
     refine AW_cond rfl (fun hc41 => ?_) (fun hc41 => ?_)
     · try simp at hc41
       all_goals
        refine AW_r rfl rfl fun K hK => ?_
        simp
        repeat' first | (refine ⟨fun _ => ?_, fun _ => ?_⟩) | (refine ⟨by omega, ?_⟩) | (intro _)
        all_goals (refine hK _ ?_; clear hK K)
        all_goals
         refine AW_ret (end_s ?_)
         simp
         all_goals first | (refine eqB_of (he.mpr ?_); simp_all [eqB_true, eqB_false]; done) | (refine eqB_ne fun h => ?_; rw [he] at h; simp_all [eqB_true, eqB_false, eqB_self]; done) | (refine (eqB_of (he.mpr ?_)).symm; simp_all [eqB_true, eqB_false]; done) | (refine (eqB_ne fun h => ?_).symm; rw [he] at h; simp_all [eqB_true, eqB_false, eqB_self]; done)
     try simp at hc41
     refine AW_skip ?_
     refine AW_id ?_
     refine AW_seq ?_
     refine AW_r rfl rfl fun K hK => ?_
     simp
     repeat' first | (refine ⟨fun _ => ?_, fun _ => ?_⟩) | (refine ⟨by omega, ?_⟩) | (intro _)
     all_goals (refine hK _ ?_; clear hK K)
     all_goals
      refine AW_cond rfl (fun hc42 => ?_) (fun hc42 => ?_)
      · try simp at hc42
        all_goals
         refine AW_r rfl rfl fun K hK => ?_
         simp
         repeat' first | (refine ⟨fun _ => ?_, fun _ => ?_⟩) | (refine ⟨by omega, ?_⟩) | (intro _)
         all_goals (refine hK _ ?_; clear hK K)
         all_goals
          refine AW_ret (end_s ?_)
          simp
          all_goals first | (refine eqB_of (he.mpr ?_); simp_all [eqB_true, eqB_false]; done) | (refine eqB_ne fun h => ?_; rw [he] at h; simp_all [eqB_true, eqB_false, eqB_self]; done) | (refine (eqB_of (he.mpr ?_)).symm; simp_all [eqB_true, eqB_false]; done) | (refine (eqB_ne fun h => ?_).symm; rw [he] at h; simp_all [eqB_true, eqB_false, eqB_self]; done)
      try simp at hc42
      refine AW_skip ?_
      refine AW_id ?_
      refine AW_seq ?_
      refine AW_r rfl rfl fun K hK => ?_
      simp
      repeat' first | (refine ⟨fun _ => ?_, fun _ => ?_⟩) | (refine ⟨by omega, ?_⟩) | (intro _)
      all_goals (refine hK _ ?_; clear hK K)
      all_goals
       refine AW_cond rfl (fun hc43 => ?_) (fun hc43 => ?_)
       · try simp at hc43
         all_goals
          refine AW_r rfl rfl fun K hK => ?_
          simp
          repeat' first | (refine ⟨fun _ => ?_, fun _ => ?_⟩) | (refine ⟨by omega, ?_⟩) | (intro _)
          all_goals (refine hK _ ?_; clear hK K)
          all_goals
           refine AW_ret (end_s ?_)
           simp
           all_goals first | (refine eqB_of (he.mpr ?_); simp_all [eqB_true, eqB_false]; done) | (refine eqB_ne fun h => ?_; rw [he] at h; simp_all [eqB_true, eqB_false, eqB_self]; done) | (refine (eqB_of (he.mpr ?_)).symm; simp_all [eqB_true, eqB_false]; done) | (refine (eqB_ne fun h => ?_).symm; rw [he] at h; simp_all [eqB_true, eqB_false, eqB_self]; done)
       try simp at hc43
       refine AW_skip ?_
       refine AW_id ?_
       refine AW_seq ?_
       refine AW_r rfl rfl fun K hK => ?_
       simp
       repeat' first | (refine ⟨fun _ => ?_, fun _ => ?_⟩) | (refine ⟨by omega, ?_⟩) | (intro _)
       all_goals (refine hK _ ?_; clear hK K)
       all_goals
        refine AW_cond rfl (fun hc44 => ?_) (fun hc44 => ?_)
        · try simp at hc44
          all_goals
           refine AW_r rfl rfl fun K hK => ?_
           simp
           repeat' first | (refine ⟨fun _ => ?_, fun _ => ?_⟩) | (refine ⟨by omega, ?_⟩) | (intro _)
           all_goals (refine hK _ ?_; clear hK K)
           all_goals
            refine AW_ret (end_s ?_)
            simp
            all_goals first | (refine eqB_of (he.mpr ?_); simp_all [eqB_true, eqB_false]; done) | (refine eqB_ne fun h => ?_; rw [he] at h; simp_all [eqB_true, eqB_false, eqB_self]; done) | (refine (eqB_of (he.mpr ?_)).symm; simp_all [eqB_true, eqB_false]; done) | (refine (eqB_ne fun h => ?_).symm; rw [he] at h; simp_all [eqB_true, eqB_false, eqB_self]; done)
        try simp at hc44
        refine AW_skip ?_
        refine AW_id ?_
        refine AW_seq ?_
        refine AW_r rfl rfl fun K hK => ?_
        simp
        repeat' first | (refine CKd_v (am2s_cons am2_sl (am2s_cons am2_sl am2s_nil)) (eqStringS _ _ (by first | assumption | omega)) rfl ?_; simp) | (refine ⟨fun _ => ?_, fun _ => ?_⟩) | (refine ⟨by omega, ?_⟩) | (intro _)
        all_goals (refine hK _ ?_; clear hK K)
        all_goals
         refine AW_cond rfl (fun hc45 => ?_) (fun hc45 => ?_)
         · try simp at hc45
           all_goals
            refine AW_r rfl rfl fun K hK => ?_
            simp
            repeat' first | (refine ⟨fun _ => ?_, fun _ => ?_⟩) | (refine ⟨by omega, ?_⟩) | (intro _)
            all_goals (refine hK _ ?_; clear hK K)
            all_goals
             refine AW_ret (end_s ?_)
             simp
             all_goals first | (refine eqB_of (he.mpr ?_); simp_all [eqB_true, eqB_false]; done) | (refine eqB_ne fun h => ?_; rw [he] at h; simp_all [eqB_true, eqB_false, eqB_self]; done) | (refine (eqB_of (he.mpr ?_)).symm; simp_all [eqB_true, eqB_false]; done) | (refine (eqB_ne fun h => ?_).symm; rw [he] at h; simp_all [eqB_true, eqB_false, eqB_self]; done)
         try simp at hc45
         refine AW_skip ?_
         refine AW_id ?_
         refine AW_r rfl rfl fun K hK => ?_
         simp
         repeat' first | (refine ⟨fun _ => ?_, fun _ => ?_⟩) | (refine ⟨by omega, ?_⟩) | (intro _)
         all_goals (refine hK _ ?_; clear hK K)
         all_goals
          refine AW_ret (end_s ?_)
          simp
          all_goals first | (refine eqB_of (he.mpr ?_); simp_all [eqB_true, eqB_false]; done) | (refine eqB_ne fun h => ?_; rw [he] at h; simp_all [eqB_true, eqB_false, eqB_self]; done) | (refine (eqB_of (he.mpr ?_)).symm; simp_all [eqB_true, eqB_false]; done) | (refine (eqB_ne fun h => ?_).symm; rw [he] at h; simp_all [eqB_true, eqB_false, eqB_self]; done)
attribute [local simp] szR
attribute [-simp] DtCmd.cells
theorem szCmdS (xs : List DtCmd) (n : Int) (hn : 0 ≤ n ∧ n ≤ 1048576) (hw : (wfS DtCmd.wf) xs) : PCall Try.prog 19 [.sl 8 (xs.map DtCmd.cells), (.g (.int .i64 (n)))] (.g (.int .i64 (szR n (szS DtCmd.sz xs)))) := by
  have hq := sumZ_nonneg DtCmd.sz_nonneg xs
  have hw1 := hw.1
  refine gcall_of_walk Try.func19 (by rfl) (by rfl) (by rw [Try.ntmps19]; exact Nat.le_of_ble_eq_true rfl) rfl (by decide) ?_
  rw [Try.ntmps19]
  refine AW_k [(0, _), (1, _)] ⟨rfl, rfl, trivial⟩ ?_
  refine AW_r rfl rfl fun K hK => ?_
  simp (disch := omega)
  repeat' first | (refine ⟨by omega, ?_⟩) | (intro _)
  refine hK _ ?_; clear hK K
  refine AW_r rfl rfl fun K hK => ?_
  simp (disch := omega)
  repeat' first | (refine ⟨by omega, ?_⟩) | (intro _)
  refine hK _ ?_; clear hK K
  refine AW_seq ?_
  refine AW_r rfl rfl fun K hK => ?_
  simp (disch := omega)
  repeat' first | (refine ⟨by omega, ?_⟩) | (intro _)
  refine hK _ ?_; clear hK K
  refine AW_cond rfl (fun hc46 => ?_) (fun hc46 => ?_)
  · try simp at hc46
    all_goals
     refine AW_r rfl rfl fun K hK => ?_
     simp (disch := omega)
     repeat' first | (exfalso; omega) | (refine ⟨fun _ => ?_, fun _ => ?_⟩) | (refine ⟨by omega, ?_⟩) | (intro _)
     all_goals (refine hK _ ?_; clear hK K)
     all_goals
      refine AW_ret (end_s ?_)
      simp (disch := omega) [szS]
      all_goals first | omega | (split <;> omega)
  try simp at hc46
  refine AW_skip ?_
  refine AW_id ?_
  refine AW_seq ?_
  refine AW_r rfl rfl fun K hK => ?_
  simp (disch := omega)
  repeat' first | (exfalso; omega) | (refine ⟨fun _ => ?_, fun _ => ?_⟩) | (refine ⟨by omega, ?_⟩) | (intro _)
  all_goals (refine hK _ ?_; clear hK K)
  all_goals
   refine AW_block ?_
   refine AW_loopS (fun mM sS => ∃ (i : Nat), mM = xs.length - i ∧ (i ≤ xs.length ∧ 0 ≤ n - xs.length - sumZ DtCmd.sz (xs.take i)) ∧ sS = { env := lkE [(0, .sl 8 (xs.map DtCmd.cells)), (1, (.g (.int .i64 (n - xs.length - sumZ DtCmd.sz (xs.take i))))), (5, (.g (.int .i64 ((i : Nat)))))], ob := formOb [] [] }) ?_ ?_
   · refine ⟨_, LeS.kp [(0, .sl 8 (xs.map DtCmd.cells)), (1, (.g (.int .i64 (n - xs.length - sumZ DtCmd.sz (xs.take (0)))))), (5, (.g (.int .i64 (((0) : Nat)))))] (by simp [KpE, upd_app, lkE_app, lk_cons, sumZ_nil]; try first | rfl | omega), _, 0, rfl, ?_, rfl⟩
     · simp [sumZ_nil]; omega
   · rintro mM sS ⟨i, rfl, ⟨hi, hn⟩, rfl⟩
     have hz := sumZ_nonneg DtCmd.sz_nonneg (xs.take i)
     have hz2 := sumZ_take_le DtCmd.sz_nonneg xs i
     refine AW_seq ?_
     refine AW_r rfl rfl fun K hK => ?_
     simp (disch := omega) [DtCmd.cells]
     repeat' first | (refine ⟨by omega, ?_⟩) | (intro _)
     refine hK _ ?_; clear hK K
     refine AW_cond rfl (fun hc47 => ?_) (fun hc47 => ?_)
     · try simp at hc47
       all_goals
        have hl := sumZ_take (f := DtCmd.sz) xs i (by omega)
        have hwE : DtCmd.wf xs[i] := hw.2 _ (List.getElem_mem _)
        have hz3 := sumZ_take_le DtCmd.sz_nonneg xs (i + 1)
        have hzE := DtCmd.sz_nonneg xs[i]
        have hszR : szR (n - xs.length - sumZ DtCmd.sz (xs.take i)) (DtCmd.sz xs[i]) = n - xs.length - sumZ DtCmd.sz (xs.take (i + 1)) ∨ (szR (n - xs.length - sumZ DtCmd.sz (xs.take i)) (DtCmd.sz xs[i]) = -1 ∧ n - xs.length - sumZ DtCmd.sz (xs.take (i + 1)) < 0) := by unfold szR; split <;> omega
        refine AW_skip ?_
        refine AW_id ?_
        refine AW_seq ?_
        refine AW_block ?_
        refine AW_r rfl rfl fun K hK => ?_
        simp (disch := omega) [DtCmd.cells]
        repeat' first | (exfalso; omega) | (refine CKd_v (am2s_cons (am2_agg rfl) (am2s_cons am2_g am2s_nil)) (szCmd _ _ (by omega) (by first | exact hwE | exact hw)) rfl ?_; simp (disch := omega) [DtCmd.cells]) | (refine ⟨fun _ => ?_, fun _ => ?_⟩) | (refine ⟨by omega, ?_⟩) | (intro _)
        all_goals (refine hK _ ?_; clear hK K)
        all_goals
         refine AW_r rfl rfl fun K hK => ?_
         simp (disch := omega) [DtCmd.cells]
         repeat' first | (refine ⟨by omega, ?_⟩) | (intro _)
         refine hK _ ?_; clear hK K
         refine AW_cond rfl (fun hc48 => ?_) (fun hc48 => ?_)
         · try simp at hc48
           all_goals
            refine AW_r rfl rfl fun K hK => ?_
            simp (disch := omega) [DtCmd.cells]
            repeat' first | (exfalso; omega) | (refine ⟨fun _ => ?_, fun _ => ?_⟩) | (refine ⟨by omega, ?_⟩) | (intro _)
            all_goals (refine hK _ ?_; clear hK K)
            all_goals
             refine AW_ret (end_s ?_)
             simp (disch := omega) [DtCmd.cells, szS]
             all_goals first | omega | (split <;> omega)
         try simp at hc48
         refine AW_skip ?_
         refine AW_id ?_
         refine AW_re rfl rfl fun K hK => ?_
         simp (disch := omega) [DtCmd.cells]
         repeat' first | (exfalso; omega) | (refine ⟨fun _ => ?_, fun _ => ?_⟩) | (refine ⟨by omega, ?_⟩) | (intro _)
         all_goals (refine hK _ ?_; clear hK K)
         all_goals
          refine ⟨_, LeS.kp [(0, .sl 8 (xs.map DtCmd.cells)), (1, (.g (.int .i64 (n - xs.length - sumZ DtCmd.sz (xs.take (i + 1)))))), (5, (.g (.int .i64 (((i + 1) : Nat)))))] (by simp [KpE, upd_app, lkE_app, lk_cons, sumZ_nil]; try first | rfl | omega), _, ?_, i + 1, rfl, ?_, rfl⟩
          · omega
          · omega
     try simp at hc47
     have hi2 : i = xs.length := by omega
     subst hi2
     simp only [List.take_length] at *
     refine AW_exit ?_
     refine AW_id ?_
     refine AW_r rfl rfl fun K hK => ?_
     simp (disch := omega) [DtCmd.cells]
     repeat' first | (exfalso; omega) | (refine ⟨fun _ => ?_, fun _ => ?_⟩) | (refine ⟨by omega, ?_⟩) | (intro _)
     all_goals (refine hK _ ?_; clear hK K)
     all_goals
      refine AW_ret (end_s ?_)
      simp (disch := omega) [DtCmd.cells, szS]
      all_goals first | omega | (split <;> omega)
attribute [-simp] szR
theorem eqCmdS (xs ys : List DtCmd) (hs : szS DtCmd.sz xs ≤ 1048576) : PCall Try.prog 24 [.sl 8 (xs.map DtCmd.cells), .sl 8 (ys.map DtCmd.cells)] (.g (.bool (eqB xs ys))) := by
  have hn : xs.length ≤ 1048576 := by have := sumZ_nonneg DtCmd.sz_nonneg xs; simp only [szS] at hs; omega
  refine gcall_of_walk Try.func24 (by rfl) (by rfl) (by rw [Try.ntmps24]; exact Nat.le_of_ble_eq_true rfl) rfl (by decide) ?_
  rw [Try.ntmps24]
  refine AW_k [(0, _), (1, _)] ⟨rfl, rfl, trivial⟩ ?_
  refine AW_r rfl rfl fun K hK => ?_
  simp (disch := omega)
  repeat' first | (refine ⟨by omega, ?_⟩) | (intro _)
  refine hK _ ?_; clear hK K
  refine AW_seq ?_
  refine AW_r rfl rfl fun K hK => ?_
  simp (disch := omega)
  repeat' first | (refine ⟨by omega, ?_⟩) | (intro _)
  refine hK _ ?_; clear hK K
  refine AW_cond rfl (fun hc50 => ?_) (fun hc50 => ?_)
  · try simp at hc50
    all_goals
     refine AW_r rfl rfl fun K hK => ?_
     simp (disch := omega)
     repeat' first | (exfalso; omega) | (refine ⟨fun _ => ?_, fun _ => ?_⟩) | (refine ⟨by omega, ?_⟩) | (intro _)
     all_goals (refine hK _ ?_; clear hK K)
     all_goals
      refine AW_ret (end_s ?_)
      simp (disch := omega)
      all_goals first | (exact eqB_of heq) | (refine eqB_ne fun heq => ?_; subst heq; simp_all [eqB_true, eqB_false, eqB_self]; done) | (refine (eqB_ne fun heq => ?_).symm; subst heq; simp_all [eqB_true, eqB_false, eqB_self]; done) | simp_all [eqB_self]
  try simp at hc50
  refine AW_skip ?_
  refine AW_id ?_
  refine AW_seq ?_
  refine AW_r rfl rfl fun K hK => ?_
  simp (disch := omega)
  repeat' first | (exfalso; omega) | (refine ⟨fun _ => ?_, fun _ => ?_⟩) | (refine ⟨by omega, ?_⟩) | (intro _)
  all_goals (refine hK _ ?_; clear hK K)
  all_goals
   refine AW_block ?_
   refine AW_loopS (fun mM sS => ∃ (i : Nat), mM = xs.length - i ∧ (i ≤ xs.length ∧ ∀ j, j < i → xs[j]? = ys[j]?) ∧ sS = { env := lkE [(0, .sl 8 (xs.map DtCmd.cells)), (1, .sl 8 (ys.map DtCmd.cells)), (5, (.g (.int .i64 ((i : Nat)))))], ob := formOb [] [] }) ?_ ?_
   · refine ⟨_, LeS.kp [(0, .sl 8 (xs.map DtCmd.cells)), (1, .sl 8 (ys.map DtCmd.cells)), (5, (.g (.int .i64 (((0) : Nat)))))] (by simp [KpE, upd_app, lkE_app, lk_cons]; try rfl), _, 0, rfl, ?_, rfl⟩
     · simp
   · rintro mM sS ⟨i, rfl, ⟨hi, hpre⟩, rfl⟩
     refine AW_seq ?_
     refine AW_r rfl rfl fun K hK => ?_
     simp (disch := omega) [DtCmd.cells]
     repeat' first | (refine ⟨by omega, ?_⟩) | (intro _)
     refine hK _ ?_; clear hK K
     refine AW_cond rfl (fun hc51 => ?_) (fun hc51 => ?_)
     · try simp at hc51
       all_goals
        have h7 : i < ys.length := by omega
        have hsE : DtCmd.sz xs[i] ≤ 1048576 := by have := sumZ_mem_le DtCmd.sz_nonneg xs xs[i] (List.getElem_mem _); simp only [szS] at hs; omega
        refine AW_skip ?_
        refine AW_id ?_
        refine AW_seq ?_
        refine AW_block ?_
        refine AW_q rfl mix (by kernel_rfl) rfl fun K hK => ?_
        simp (disch := omega) [DtCmd.cells]
        repeat' first | (exfalso; omega) | (refine CKd_v (am2s_cons (am2_agg rfl) (am2s_cons (am2_agg rfl) am2s_nil)) (eqCmd _ _ (by first | assumption | omega)) rfl ?_; simp (disch := omega) [DtCmd.cells]) | (refine ⟨fun _ => ?_, fun _ => ?_⟩) | (refine ⟨by omega, ?_⟩) | (intro _)
        all_goals (refine hK _ ?_; clear hK K)
        all_goals
         refine AW_cond rfl (fun hc52 => ?_) (fun hc52 => ?_)
         · try simp at hc52
           all_goals
            refine AW_r rfl rfl fun K hK => ?_
            simp (disch := omega) [DtCmd.cells]
            repeat' first | (exfalso; omega) | (refine ⟨fun _ => ?_, fun _ => ?_⟩) | (refine ⟨by omega, ?_⟩) | (intro _)
            all_goals (refine hK _ ?_; clear hK K)
            all_goals
             refine AW_ret (end_s ?_)
             simp (disch := omega) [DtCmd.cells]
             all_goals first | (exact eqB_of heq) | (refine eqB_ne fun heq => ?_; subst heq; simp_all [eqB_true, eqB_false, eqB_self]; done) | (refine (eqB_ne fun heq => ?_).symm; subst heq; simp_all [eqB_true, eqB_false, eqB_self]; done) | simp_all [eqB_self]
         try simp at hc52
         refine AW_skip ?_
         refine AW_id ?_
         refine AW_re rfl rfl fun K hK => ?_
         simp (disch := omega) [DtCmd.cells]
         repeat' first | (exfalso; omega) | (refine ⟨fun _ => ?_, fun _ => ?_⟩) | (refine ⟨by omega, ?_⟩) | (intro _)
         all_goals (refine hK _ ?_; clear hK K)
         all_goals
          refine ⟨_, LeS.kp [(0, .sl 8 (xs.map DtCmd.cells)), (1, .sl 8 (ys.map DtCmd.cells)), (5, (.g (.int .i64 (((i + 1) : Nat)))))] (by simp [KpE, upd_app, lkE_app, lk_cons]; try rfl), _, ?_, i + 1, rfl, ?_, rfl⟩
          · omega
          · refine ⟨by omega, fun j hj => ?_⟩
            by_cases hji : j = i
            · subst hji; simp_all [eqB_true, eqB_false]
            · exact hpre j (by omega)
     try simp at hc51
     have hi2 : i = xs.length := by omega
     subst hi2
     have heq : xs = ys := List.ext_getElem? fun j => by
       by_cases hj : j < xs.length
       · exact hpre j hj
       · rw [List.getElem?_eq_none (by omega), List.getElem?_eq_none (by omega)]
     refine AW_exit ?_
     refine AW_id ?_
     refine AW_r rfl rfl fun K hK => ?_
     simp (disch := omega) [DtCmd.cells]
     repeat' first | (exfalso; omega) | (refine ⟨fun _ => ?_, fun _ => ?_⟩) | (refine ⟨by omega, ?_⟩) | (intro _)
     all_goals (refine hK _ ?_; clear hK K)
     all_goals
      refine AW_ret (end_s ?_)
      simp (disch := omega) [DtCmd.cells]
      all_goals first | (exact eqB_of heq) | (refine eqB_ne fun heq => ?_; subst heq; simp_all [eqB_true, eqB_false, eqB_self]; done) | (refine (eqB_ne fun heq => ?_).symm; subst heq; simp_all [eqB_true, eqB_false, eqB_self]; done) | simp_all [eqB_self]
attribute [local simp] DtSaid.cells
attribute [-simp] DtSaid.cells
attribute [local simp] DtState.cells
attribute [local simp] DtCatalog.cells
attribute [local simp] szR DtCall.cells
attribute [-simp] DtState.cells DtCatalog.cells
attribute [-simp] szR
attribute [local simp] DtCmd.cells
attribute [-simp] DtCmd.cells
attribute [local simp] DtCmd.cells
attribute [local simp] szR
attribute [-simp] DtCall.cells DtCmd.cells
attribute [-simp] szR
end Go.Proofs.Ytmheohnbkaoipaa.Vs
