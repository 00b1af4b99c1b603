import Derived.Test.YtfbmhgiokfpgiaaGreatVs9
import Derived.Test.YtfbmhgiokfpgiaaGreatSCT
open Go Go.Proofs Go.Proofs.YtfbmhgiokfpgiaaGreat.Vs
namespace Go.Proofs.YtfbmhgiokfpgiaaGreat.Vs
set_option linter.all false
set_option linter.unusedSimpArgs false
set_option linter.unusedVariables false
theorem toId (u : DtId) : PCall Tryz.prog 29 [.agg (DtId.cells u)] (.agg (DtId.cells u)) := by
 refine zbz Tryz.func29 (by rfl) (by rfl) (by rw [Tryz.ntmps29]; exact Nat.le_of_ble_eq_true rfl) rfl (by decide) ?_
 rw [Tryz.ntmps29]
 refine AW_k [(0, _)] ⟨rfl, trivial⟩ ?_
 refine AW_r rfl rfl fun K hK => ?_
 simp [DtId.cells]
 repeat' first | (refine ⟨by omega, ?_⟩) | (intro _)
 refine hK _ ?_; clear hK K
 refine AW_r rfl rfl fun K hK => ?_
 simp [DtId.cells]
 repeat' first | (refine ⟨by omega, ?_⟩) | (intro _)
 refine hK _ ?_; clear hK K
 refine AW_r rfl rfl fun K hK => ?_
 simp [DtId.cells]
 repeat' first | (refine ⟨by omega, ?_⟩) | (intro _)
 refine hK _ ?_; clear hK K
 refine AW_r rfl rfl fun K hK => ?_
 simp [DtId.cells]
 repeat' first | (refine ⟨by omega, ?_⟩) | (intro _)
 refine hK _ ?_; clear hK K
 refine AW_r rfl rfl fun K hK => ?_
 simp [DtId.cells]
 repeat' first | (refine ⟨by omega, ?_⟩) | (intro _)
 refine hK _ ?_; clear hK K
 refine zby (zcd ?_)
 simp [DtId.cells]
 all_goals first | omega | (simp_all; done) | (simp [List.take_of_length_le]; done) | ((try simp_all); (try simp (disch := omega) only [zbd, Int.tdiv_eq_ediv_of_nonneg, Int.tmod_eq_emod_of_nonneg, and_true, true_and]); done) | ((try simp_all); (try simp (disch := omega) only [zbd, Int.tdiv_eq_ediv_of_nonneg, Int.tmod_eq_emod_of_nonneg, and_true, true_and] at *); omega)
theorem eqId (u v : DtId) : PCall Tryz.prog 36 [.agg (DtId.cells u), .agg (DtId.cells v)] (.g (.bool (eqB u v))) := by
 have he := DtId.ext_iff u v
 refine zbz Tryz.func36 (by rfl) (by rfl) (by rw [Tryz.ntmps36]; exact Nat.le_of_ble_eq_true rfl) rfl (by decide) ?_
 rw [Tryz.ntmps36]
 refine AW_k [(0, _), (1, _)] ⟨rfl, rfl, trivial⟩ ?_
 refine AW_r rfl rfl fun K hK => ?_
 simp [DtId.cells]
 repeat' first | (refine ⟨by omega, ?_⟩) | (intro _)
 refine hK _ ?_; clear hK K
 refine zbr ?_
 refine AW_r rfl rfl fun K hK => ?_
 simp [DtId.cells]
 repeat' first | (refine ⟨by omega, ?_⟩) | (intro _)
 refine hK _ ?_; clear hK K
 refine zbu rfl (fun hc1 => ?_) (fun hc1 => ?_)
 ·try simp at hc1
  all_goals
   refine AW_r rfl rfl fun K hK => ?_
   simp [DtId.cells]
   repeat' first | (refine ⟨fun _ => ?_, fun _ => ?_⟩) | (refine ⟨by omega, ?_⟩) | (intro _)
   all_goals (refine hK _ ?_; clear hK K)
   all_goals
    refine zby (zcd ?_)
    simp [DtId.cells]
    all_goals first | (refine zcl (he.mpr ?_); simp_all [zbg, zbf]; done) | (refine zci fun h => ?_; rw [he] at h; simp_all [zbg, zbf, zb6]; done) | (refine (zcl (he.mpr ?_)).symm; simp_all [zbg, zbf]; done) | (refine (zci fun h => ?_).symm; rw [he] at h; simp_all [zbg, zbf, zb6]; done)
 try simp at hc1
 refine zbv ?_
 refine zb4 ?_
 refine zbr ?_
 refine AW_r rfl rfl fun K hK => ?_
 simp [DtId.cells]
 repeat' first | (refine ⟨fun _ => ?_, fun _ => ?_⟩) | (refine ⟨by omega, ?_⟩) | (intro _)
 all_goals (refine hK _ ?_; clear hK K)
 all_goals
  refine zbu rfl (fun hc2 => ?_) (fun hc2 => ?_)
  ·try simp at hc2
   all_goals
    refine AW_r rfl rfl fun K hK => ?_
    simp [DtId.cells]
    repeat' first | (refine ⟨fun _ => ?_, fun _ => ?_⟩) | (refine ⟨by omega, ?_⟩) | (intro _)
    all_goals (refine hK _ ?_; clear hK K)
    all_goals
     refine zby (zcd ?_)
     simp [DtId.cells]
     all_goals first | (refine zcl (he.mpr ?_); simp_all [zbg, zbf]; done) | (refine zci fun h => ?_; rw [he] at h; simp_all [zbg, zbf, zb6]; done) | (refine (zcl (he.mpr ?_)).symm; simp_all [zbg, zbf]; done) | (refine (zci fun h => ?_).symm; rw [he] at h; simp_all [zbg, zbf, zb6]; done)
  try simp at hc2
  refine zbv ?_
  refine zb4 ?_
  refine AW_r rfl rfl fun K hK => ?_
  simp [DtId.cells]
  repeat' first | (refine ⟨fun _ => ?_, fun _ => ?_⟩) | (refine ⟨by omega, ?_⟩) | (intro _)
  all_goals (refine hK _ ?_; clear hK K)
  all_goals
   refine zby (zcd ?_)
   simp [DtId.cells]
   all_goals first | (refine zcl (he.mpr ?_); simp_all [zbg, zbf]; done) | (refine zci fun h => ?_; rw [he] at h; simp_all [zbg, zbf, zb6]; done) | (refine (zcl (he.mpr ?_)).symm; simp_all [zbg, zbf]; done) | (refine (zci fun h => ?_).symm; rw [he] at h; simp_all [zbg, zbf, zb6]; done)
theorem szStringS (xs : List (List UInt8)) (n : Int) (hn : 0 ≤ n ∧ n ≤ 1048576) (hw : (wfS wfL) xs) : PCall Tryz.prog 38 [.sl 1 (xs.map cS), (.g (.int .i64 (n)))] (.g (.int .i64 (szR n (szS lenZ xs)))) := by
 have hq := zct zcp xs
 have hw1 := hw.1
 refine zbz Tryz.func38 (by rfl) (by rfl) (by rw [Tryz.ntmps38]; exact Nat.le_of_ble_eq_true rfl) rfl (by decide) ?_
 rw [Tryz.ntmps38]
 refine AW_k [(0, _), (1, _)] ⟨rfl, rfl, trivial⟩ ?_
 refine AW_r rfl rfl fun K hK => ?_
 simp (disch := omega) [zbd, gE, tP, szR]
 repeat' first | (refine ⟨by omega, ?_⟩) | (intro _)
 refine hK _ ?_; clear hK K
 refine AW_r rfl rfl fun K hK => ?_
 simp (disch := omega) [zbd, gE, tP, szR]
 repeat' first | (refine ⟨by omega, ?_⟩) | (intro _)
 refine hK _ ?_; clear hK K
 refine zbr ?_
 refine AW_r rfl rfl fun K hK => ?_
 simp (disch := omega) [zbd, gE, tP, szR]
 repeat' first | (refine ⟨by omega, ?_⟩) | (intro _)
 refine hK _ ?_; clear hK K
 refine zbu rfl (fun hc3 => ?_) (fun hc3 => ?_)
 ·try simp at hc3
  all_goals
   refine AW_r rfl rfl fun K hK => ?_
   simp (disch := omega) [zbd, gE, tP, szR]
   repeat' first | (exfalso; omega) | (refine ⟨fun _ => ?_, fun _ => ?_⟩) | (refine ⟨by omega, ?_⟩) | (intro _)
   all_goals (refine hK _ ?_; clear hK K)
   all_goals
    refine zby (zcd ?_)
    simp (disch := omega) [zbd, gE, tP, szR, szS]
    all_goals first | omega | (split <;> omega)
 try simp at hc3
 refine zbv ?_
 refine zb4 ?_
 refine zbr ?_
 refine AW_r rfl rfl fun K hK => ?_
 simp (disch := omega) [zbd, gE, tP, szR]
 repeat' first | (exfalso; omega) | (refine ⟨fun _ => ?_, fun _ => ?_⟩) | (refine ⟨by omega, ?_⟩) | (intro _)
 all_goals (refine hK _ ?_; clear hK K)
 all_goals
  refine zb0 ?_
  refine zcf (fun mM sS => ∃ (i : Nat), mM = xs.length - i ∧ (i ≤ xs.length ∧ 0 ≤ n - xs.length - sumZ lenZ (xs.take i)) ∧ sS = { env := lkE [(0, .sl 1 (xs.map cS)), (1, (.g (.int .i64 (n - xs.length - sumZ lenZ (xs.take i))))), (5, (.g (.int .i64 ((i : Nat)))))], ob := formOb [] [] }) ?_ ?_
  ·refine ⟨_, LeS.kp [(0, .sl 1 (xs.map cS)), (1, (.g (.int .i64 (n - xs.length - sumZ lenZ (xs.take (0)))))), (5, (.g (.int .i64 (((0) : Nat)))))] (by simp [KpE, zbl, zb5, zbi, zdy]; try first | rfl | omega), _, 0, rfl, ?_, rfl⟩
   ·simp [zdy]; omega
  ·rintro mM sS ⟨i, rfl, ⟨hi, hn⟩, rfl⟩
   have hz := zct zcp (xs.take i)
   have hz2 := zgb zcp xs i
   refine zbr ?_
   refine AW_r rfl rfl fun K hK => ?_
   simp (disch := omega) [zbd, gE, tP, szR, cS, lenZ]
   repeat' first | (refine ⟨by omega, ?_⟩) | (intro _)
   refine hK _ ?_; clear hK K
   refine zbu rfl (fun hc4 => ?_) (fun hc4 => ?_)
   ·try simp at hc4
    all_goals
     have hl := zrm (f := lenZ) xs i (by omega)
     have hwE : wfL xs[i] := hw.2 _ (List.getElem_mem _)
     have hwE2 : xs[i].length ≤ 9223372036854775807 := hwE
     simp only [lenZ] at hl
     have hz3 := zgb zcp xs (i + 1)
     refine zbv ?_
     refine zb4 ?_
     refine zbr ?_
     refine zb0 ?_
     refine AW_r rfl rfl fun K hK => ?_
     simp (disch := omega) [zbd, gE, tP, szR, cS, lenZ]
     repeat' first | (exfalso; omega) | (refine ⟨fun _ => ?_, fun _ => ?_⟩) | (refine ⟨by omega, ?_⟩) | (intro _)
     all_goals (refine hK _ ?_; clear hK K)
     all_goals
      refine AW_r rfl rfl fun K hK => ?_
      simp (disch := omega) [zbd, gE, tP, szR, cS, lenZ]
      repeat' first | (refine ⟨by omega, ?_⟩) | (intro _)
      refine hK _ ?_; clear hK K
      refine zbu rfl (fun hc5 => ?_) (fun hc5 => ?_)
      ·try simp at hc5
       all_goals
        refine AW_r rfl rfl fun K hK => ?_
        simp (disch := omega) [zbd, gE, tP, szR, cS, lenZ]
        repeat' first | (exfalso; omega) | (refine ⟨fun _ => ?_, fun _ => ?_⟩) | (refine ⟨by omega, ?_⟩) | (intro _)
        all_goals (refine hK _ ?_; clear hK K)
        all_goals
         refine zby (zcd ?_)
         simp (disch := omega) [zbd, gE, tP, szR, cS, lenZ, szS]
         all_goals first | omega | (split <;> omega)
      try simp at hc5
      refine zbv ?_
      refine zb4 ?_
      refine zdi rfl rfl fun K hK => ?_
      simp (disch := omega) [zbd, gE, tP, szR, cS, lenZ]
      repeat' first | (exfalso; omega) | (refine ⟨fun _ => ?_, fun _ => ?_⟩) | (refine ⟨by omega, ?_⟩) | (intro _)
      all_goals (refine hK _ ?_; clear hK K)
      all_goals
       refine ⟨_, LeS.kp [(0, .sl 1 (xs.map cS)), (1, (.g (.int .i64 (n - xs.length - sumZ lenZ (xs.take (i + 1)))))), (5, (.g (.int .i64 (((i + 1) : Nat)))))] (by simp [KpE, zbl, zb5, zbi, zdy]; try first | rfl | omega), _, ?_, i + 1, rfl, ?_, rfl⟩
       ·omega
       ·omega
   try simp at hc4
   have hi2 : i = xs.length := by omega
   subst hi2
   simp only [List.take_length] at *
   refine zch ?_
   refine zb4 ?_
   refine AW_r rfl rfl fun K hK => ?_
   simp (disch := omega) [zbd, gE, tP, szR, cS, lenZ]
   repeat' first | (exfalso; omega) | (refine ⟨fun _ => ?_, fun _ => ?_⟩) | (refine ⟨by omega, ?_⟩) | (intro _)
   all_goals (refine hK _ ?_; clear hK K)
   all_goals
    refine zby (zcd ?_)
    simp (disch := omega) [zbd, gE, tP, szR, cS, lenZ, szS]
    all_goals first | omega | (split <;> omega)
theorem eqStringS (xs ys : List (List UInt8)) (hs : szS lenZ xs ≤ 1048576) : PCall Tryz.prog 35 [.sl 1 (xs.map cS), .sl 1 (ys.map cS)] (.g (.bool (eqB xs ys))) := by
 have hn : xs.length ≤ 1048576 := by have := zct zcp xs; simp only [szS] at hs; omega
 refine zbz Tryz.func35 (by rfl) (by rfl) (by rw [Tryz.ntmps35]; exact Nat.le_of_ble_eq_true rfl) rfl (by decide) ?_
 rw [Tryz.ntmps35]
 refine AW_k [(0, _), (1, _)] ⟨rfl, rfl, trivial⟩ ?_
 refine AW_r rfl rfl fun K hK => ?_
 simp (disch := omega) [zbd, gE, tP]
 repeat' first | (refine ⟨by omega, ?_⟩) | (intro _)
 refine hK _ ?_; clear hK K
 refine zbr ?_
 refine AW_r rfl rfl fun K hK => ?_
 simp (disch := omega) [zbd, gE, tP]
 repeat' first | (refine ⟨by omega, ?_⟩) | (intro _)
 refine hK _ ?_; clear hK K
 refine zbu rfl (fun hc7 => ?_) (fun hc7 => ?_)
 ·try simp at hc7
  all_goals
   refine AW_r rfl rfl fun K hK => ?_
   simp (disch := omega) [zbd, gE, tP]
   repeat' first | (exfalso; omega) | (refine ⟨fun _ => ?_, fun _ => ?_⟩) | (refine ⟨by omega, ?_⟩) | (intro _)
   all_goals (refine hK _ ?_; clear hK K)
   all_goals
    refine zby (zcd ?_)
    simp (disch := omega) [zbd, gE, tP]
    all_goals first | (exact zcl heq) | (refine zci fun heq => ?_; subst heq; simp_all [zbg, zbf, zb6]; done) | (refine (zci fun heq => ?_).symm; subst heq; simp_all [zbg, zbf, zb6]; done) | simp_all [zb6]
 try simp at hc7
 refine zbv ?_
 refine zb4 ?_
 refine zbr ?_
 refine AW_r rfl rfl fun K hK => ?_
 simp (disch := omega) [zbd, gE, tP]
 repeat' first | (exfalso; omega) | (refine ⟨fun _ => ?_, fun _ => ?_⟩) | (refine ⟨by omega, ?_⟩) | (intro _)
 all_goals (refine hK _ ?_; clear hK K)
 all_goals
  refine zb0 ?_
  refine zcf (fun mM sS => ∃ (i : Nat), mM = xs.length - i ∧ (i ≤ xs.length ∧ ∀ j, j < i → xs[j]? = ys[j]?) ∧ sS = { env := lkE [(0, .sl 1 (xs.map cS)), (1, .sl 1 (ys.map cS)), (5, (.g (.int .i64 ((i : Nat)))))], ob := formOb [] [] }) ?_ ?_
  ·refine ⟨_, LeS.kp [(0, .sl 1 (xs.map cS)), (1, .sl 1 (ys.map cS)), (5, (.g (.int .i64 (((0) : Nat)))))] (by simp [KpE, zbl, zb5, zbi]; try rfl), _, 0, rfl, ?_, rfl⟩
   ·simp
  ·rintro mM sS ⟨i, rfl, ⟨hi, hpre⟩, rfl⟩
   refine zbr ?_
   refine AW_r rfl rfl fun K hK => ?_
   simp (disch := omega) [zbd, gE, tP, cS]
   repeat' first | (refine ⟨by omega, ?_⟩) | (intro _)
   refine hK _ ?_; clear hK K
   refine zbu rfl (fun hc8 => ?_) (fun hc8 => ?_)
   ·try simp at hc8
    all_goals
     have h7 : i < ys.length := by omega
     refine zbv ?_
     refine zb4 ?_
     refine zbr ?_
     refine zb0 ?_
     refine AW_q rfl mix (by kernel_rfl) rfl fun K hK => ?_
     simp (disch := omega) [zbd, gE, tP, cS]
     repeat' first | (exfalso; omega) | (refine ⟨fun _ => ?_, fun _ => ?_⟩) | (refine ⟨by omega, ?_⟩) | (intro _)
     all_goals (refine hK _ ?_; clear hK K)
     all_goals
      refine zbu rfl (fun hc9 => ?_) (fun hc9 => ?_)
      ·try simp at hc9
       all_goals
        refine AW_r rfl rfl fun K hK => ?_
        simp (disch := omega) [zbd, gE, tP, cS]
        repeat' first | (exfalso; omega) | (refine ⟨fun _ => ?_, fun _ => ?_⟩) | (refine ⟨by omega, ?_⟩) | (intro _)
        all_goals (refine hK _ ?_; clear hK K)
        all_goals
         refine zby (zcd ?_)
         simp (disch := omega) [zbd, gE, tP, cS]
         all_goals first | (exact zcl heq) | (refine zci fun heq => ?_; subst heq; simp_all [zbg, zbf, zb6]; done) | (refine (zci fun heq => ?_).symm; subst heq; simp_all [zbg, zbf, zb6]; done) | simp_all [zb6]
      try simp at hc9
      refine zbv ?_
      refine zb4 ?_
      refine zdi rfl rfl fun K hK => ?_
      simp (disch := omega) [zbd, gE, tP, cS]
      repeat' first | (exfalso; omega) | (refine ⟨fun _ => ?_, fun _ => ?_⟩) | (refine ⟨by omega, ?_⟩) | (intro _)
      all_goals (refine hK _ ?_; clear hK K)
      all_goals
       refine ⟨_, LeS.kp [(0, .sl 1 (xs.map cS)), (1, .sl 1 (ys.map cS)), (5, (.g (.int .i64 (((i + 1) : Nat)))))] (by simp [KpE, zbl, zb5, zbi]; try rfl), _, ?_, i + 1, rfl, ?_, rfl⟩
       ·omega
       ·refine ⟨by omega, fun j hj => ?_⟩
        by_cases hji : j = i
        ·subst hji; simp_all [zbg, zbf]
        ·exact hpre j (by omega)
   try simp at hc8
   have hi2 : i = xs.length := by omega
   subst hi2
   have heq : xs = ys := List.ext_getElem? fun j => by
    by_cases hj : j < xs.length
    ·exact hpre j hj
    ·rw [List.getElem?_eq_none (by omega), List.getElem?_eq_none (by omega)]
   refine zch ?_
   refine zb4 ?_
   refine AW_r rfl rfl fun K hK => ?_
   simp (disch := omega) [zbd, gE, tP, cS]
   repeat' first | (exfalso; omega) | (refine ⟨fun _ => ?_, fun _ => ?_⟩) | (refine ⟨by omega, ?_⟩) | (intro _)
   all_goals (refine hK _ ?_; clear hK K)
   all_goals
    refine zby (zcd ?_)
    simp (disch := omega) [zbd, gE, tP, cS]
    all_goals first | (exact zcl heq) | (refine zci fun heq => ?_; subst heq; simp_all [zbg, zbf, zb6]; done) | (refine (zci fun heq => ?_).symm; subst heq; simp_all [zbg, zbf, zb6]; done) | simp_all [zb6]
theorem szCmd (u : DtCmd) (n : Int) (hn : 0 ≤ n ∧ n ≤ 1048576) (hw : DtCmd.wf u) : PCall Tryz.prog 25 [.agg (DtCmd.cells u), (.g (.int .i64 (n)))] (.g (.int .i64 (szR n (DtCmd.sz u)))) := by
 have ⟨w0, w1, w2, w3, w4, w5, w6, w7⟩ := hw
 have w32 : u.fSet.length ≤ 9223372036854775807 := w3
 have w42 : u.fName.length ≤ 9223372036854775807 := w4
 have w52 : u.fTag.length ≤ 9223372036854775807 := w5
 have w72 := w7.1
 have z7 := (zgn zcp) u.fChunks
 refine zbz Tryz.func25 (by rfl) (by rfl) (by rw [Tryz.ntmps25]; exact Nat.le_of_ble_eq_true rfl) rfl (by decide) ?_
 rw [Tryz.ntmps25]
 refine AW_k [(0, _), (1, _)] ⟨rfl, rfl, trivial⟩ ?_
 refine AW_r rfl rfl fun K hK => ?_
 simp (disch := omega) [zbd, gE, tP, szR, DtCmd.cells]
 repeat' first | (refine ⟨by omega, ?_⟩) | (intro _)
 refine hK _ ?_; clear hK K
 refine AW_r rfl rfl fun K hK => ?_
 simp (disch := omega) [zbd, gE, tP, szR, DtCmd.cells]
 repeat' first | (refine ⟨by omega, ?_⟩) | (intro _)
 refine hK _ ?_; clear hK K
 refine zbr ?_
 refine AW_r rfl rfl fun K hK => ?_
 simp (disch := omega) [zbd, gE, tP, szR, DtCmd.cells]
 repeat' first | (refine ⟨by omega, ?_⟩) | (intro _)
 refine hK _ ?_; clear hK K
 refine zbu rfl (fun hc10 => ?_) (fun hc10 => ?_)
 ·try simp at hc10
  all_goals
   refine AW_r rfl rfl fun K hK => ?_
   simp (disch := omega) [zbd, gE, tP, szR, DtCmd.cells]
   repeat' first | (exfalso; omega) | (refine ⟨fun _ => ?_, fun _ => ?_⟩) | (refine ⟨by omega, ?_⟩) | (intro _)
   all_goals (refine hK _ ?_; clear hK K)
   all_goals
    refine zby (zcd ?_)
    simp (disch := omega) [zbd, gE, tP, szR, DtCmd.cells, DtCmd.sz]
    all_goals first | omega | (simp_all; done) | (split <;> omega) | (split <;> simp_all <;> omega) | (simp_all [szR]; omega)
 try simp at hc10
 refine zbv ?_
 refine zb4 ?_
 refine AW_r rfl rfl fun K hK => ?_
 simp (disch := omega) [zbd, gE, tP, szR, DtCmd.cells]
 repeat' first | (exfalso; omega) | (refine ⟨fun _ => ?_, fun _ => ?_⟩) | (refine ⟨by omega, ?_⟩) | (intro _)
 all_goals (refine hK _ ?_; clear hK K)
 all_goals
  refine zbr ?_
  refine AW_r rfl rfl fun K hK => ?_
  simp (disch := omega) [zbd, gE, tP, szR, DtCmd.cells]
  repeat' first | (refine ⟨by omega, ?_⟩) | (intro _)
  refine hK _ ?_; clear hK K
  refine zbu rfl (fun hc11 => ?_) (fun hc11 => ?_)
  ·try simp at hc11
   all_goals
    refine AW_r rfl rfl fun K hK => ?_
    simp (disch := omega) [zbd, gE, tP, szR, DtCmd.cells]
    repeat' first | (exfalso; omega) | (refine ⟨fun _ => ?_, fun _ => ?_⟩) | (refine ⟨by omega, ?_⟩) | (intro _)
    all_goals (refine hK _ ?_; clear hK K)
    all_goals
     refine zby (zcd ?_)
     simp (disch := omega) [zbd, gE, tP, szR, DtCmd.cells, DtCmd.sz]
     all_goals first | omega | (simp_all; done) | (split <;> omega) | (split <;> simp_all <;> omega) | (simp_all [szR]; omega)
  try simp at hc11
  refine zbv ?_
  refine zb4 ?_
  refine AW_r rfl rfl fun K hK => ?_
  simp (disch := omega) [zbd, gE, tP, szR, DtCmd.cells]
  repeat' first | (exfalso; omega) | (refine ⟨fun _ => ?_, fun _ => ?_⟩) | (refine ⟨by omega, ?_⟩) | (intro _)
  all_goals (refine hK _ ?_; clear hK K)
  all_goals
   refine zbr ?_
   refine AW_r rfl rfl fun K hK => ?_
   simp (disch := omega) [zbd, gE, tP, szR, DtCmd.cells]
   repeat' first | (refine ⟨by omega, ?_⟩) | (intro _)
   refine hK _ ?_; clear hK K
   refine zbu rfl (fun hc12 => ?_) (fun hc12 => ?_)
   ·try simp at hc12
    all_goals
     refine AW_r rfl rfl fun K hK => ?_
     simp (disch := omega) [zbd, gE, tP, szR, DtCmd.cells]
     repeat' first | (exfalso; omega) | (refine ⟨fun _ => ?_, fun _ => ?_⟩) | (refine ⟨by omega, ?_⟩) | (intro _)
     all_goals (refine hK _ ?_; clear hK K)
     all_goals
      refine zby (zcd ?_)
      simp (disch := omega) [zbd, gE, tP, szR, DtCmd.cells, DtCmd.sz]
      all_goals first | omega | (simp_all; done) | (split <;> omega) | (split <;> simp_all <;> omega) | (simp_all [szR]; omega)
   try simp at hc12
   refine zbv ?_
   refine zb4 ?_
   refine AW_r rfl rfl fun K hK => ?_
   simp (disch := omega) [zbd, gE, tP, szR, DtCmd.cells]
   repeat' first | (exfalso; omega) | (refine zco (zbh zce (zbh zcx zbs)) (szStringS _ _ (by omega) (by assumption)) rfl ?_; simp (disch := omega) [zbd, gE, tP, szR, DtCmd.cells]) | (refine ⟨fun _ => ?_, fun _ => ?_⟩) | (refine ⟨by omega, ?_⟩) | (intro _)
   all_goals (refine hK _ ?_; clear hK K)
   all_goals
    refine zbr ?_
    refine AW_r rfl rfl fun K hK => ?_
    simp (disch := omega) [zbd, gE, tP, szR, DtCmd.cells]
    repeat' first | (refine ⟨by omega, ?_⟩) | (intro _)
    refine hK _ ?_; clear hK K
    refine zbu rfl (fun hc13 => ?_) (fun hc13 => ?_)
    ·try simp at hc13
     all_goals
      refine AW_r rfl rfl fun K hK => ?_
      simp (disch := omega) [zbd, gE, tP, szR, DtCmd.cells]
      repeat' first | (exfalso; omega) | (refine ⟨fun _ => ?_, fun _ => ?_⟩) | (refine ⟨by omega, ?_⟩) | (intro _)
      all_goals (refine hK _ ?_; clear hK K)
      all_goals
       refine zby (zcd ?_)
       simp (disch := omega) [zbd, gE, tP, szR, DtCmd.cells, DtCmd.sz]
       all_goals first | omega | (simp_all; done) | (split <;> omega) | (split <;> simp_all <;> omega) | (simp_all [szR]; omega)
    try simp at hc13
    refine zbv ?_
    refine zb4 ?_
    refine AW_r rfl rfl fun K hK => ?_
    simp (disch := omega) [zbd, gE, tP, szR, DtCmd.cells]
    repeat' first | (exfalso; omega) | (refine ⟨fun _ => ?_, fun _ => ?_⟩) | (refine ⟨by omega, ?_⟩) | (intro _)
    all_goals (refine hK _ ?_; clear hK K)
    all_goals
     refine zby (zcd ?_)
     simp (disch := omega) [zbd, gE, tP, szR, DtCmd.cells, DtCmd.sz]
     all_goals first | omega | (simp_all; done) | (split <;> omega) | (split <;> simp_all <;> omega) | (simp_all [szR]; omega)
theorem eqCmd (u v : DtCmd) (hs : DtCmd.sz u ≤ 1048576) : PCall Tryz.prog 19 [.agg (DtCmd.cells u), .agg (DtCmd.cells v)] (.g (.bool (eqB u v))) := by
 simp only [DtCmd.sz] at hs
 have z7 := (zgn zcp) u.fChunks
 have s3 : (u.fSet.length : Int) ≤ 1048576 := by omega
 have s4 : (u.fName.length : Int) ≤ 1048576 := by omega
 have s5 : (u.fTag.length : Int) ≤ 1048576 := by omega
 have s7 : szS lenZ u.fChunks ≤ 1048576 := by omega
 have he := DtCmd.ext_iff u v
 refine zbz Tryz.func19 (by rfl) (by rfl) (by rw [Tryz.ntmps19]; exact Nat.le_of_ble_eq_true rfl) rfl (by decide) ?_
 rw [Tryz.ntmps19]
 refine AW_k [(0, _), (1, _)] ⟨rfl, rfl, trivial⟩ ?_
 refine AW_r rfl rfl fun K hK => ?_
 simp [DtCmd.cells]
 repeat' first | (refine ⟨by omega, ?_⟩) | (intro _)
 refine hK _ ?_; clear hK K
 refine zbr ?_
 refine AW_r rfl rfl fun K hK => ?_
 simp [DtCmd.cells]
 repeat' first | (refine ⟨by omega, ?_⟩) | (intro _)
 refine hK _ ?_; clear hK K
 refine zbu rfl (fun hc14 => ?_) (fun hc14 => ?_)
 ·try simp at hc14
  all_goals
   refine AW_r rfl rfl fun K hK => ?_
   simp [DtCmd.cells]
   repeat' first | (refine ⟨fun _ => ?_, fun _ => ?_⟩) | (refine ⟨by omega, ?_⟩) | (intro _)
   all_goals (refine hK _ ?_; clear hK K)
   all_goals
    refine zby (zcd ?_)
    simp [DtCmd.cells]
    all_goals first | (refine zcl (he.mpr ?_); simp_all [zbg, zbf]; done) | (refine zci fun h => ?_; rw [he] at h; simp_all [zbg, zbf, zb6]; done) | (refine (zcl (he.mpr ?_)).symm; simp_all [zbg, zbf]; done) | (refine (zci fun h => ?_).symm; rw [he] at h; simp_all [zbg, zbf, zb6]; done)
 try simp at hc14
 refine zbv ?_
 refine zb4 ?_
 refine zbr ?_
 refine AW_r rfl rfl fun K hK => ?_
 simp [DtCmd.cells]
 repeat' first | (refine ⟨fun _ => ?_, fun _ => ?_⟩) | (refine ⟨by omega, ?_⟩) | (intro _)
 all_goals (refine hK _ ?_; clear hK K)
 all_goals
  refine zbu rfl (fun hc15 => ?_) (fun hc15 => ?_)
  ·try simp at hc15
   all_goals
    refine AW_r rfl rfl fun K hK => ?_
    simp [DtCmd.cells]
    repeat' first | (refine ⟨fun _ => ?_, fun _ => ?_⟩) | (refine ⟨by omega, ?_⟩) | (intro _)
    all_goals (refine hK _ ?_; clear hK K)
    all_goals
     refine zby (zcd ?_)
     simp [DtCmd.cells]
     all_goals first | (refine zcl (he.mpr ?_); simp_all [zbg, zbf]; done) | (refine zci fun h => ?_; rw [he] at h; simp_all [zbg, zbf, zb6]; done) | (refine (zcl (he.mpr ?_)).symm; simp_all [zbg, zbf]; done) | (refine (zci fun h => ?_).symm; rw [he] at h; simp_all [zbg, zbf, zb6]; done)
  try simp at hc15
  refine zbv ?_
  refine zb4 ?_
  refine zbr ?_
  refine AW_r rfl rfl fun K hK => ?_
  simp [DtCmd.cells]
  repeat' first | (refine ⟨fun _ => ?_, fun _ => ?_⟩) | (refine ⟨by omega, ?_⟩) | (intro _)
  all_goals (refine hK _ ?_; clear hK K)
  all_goals
   refine zbu rfl (fun hc16 => ?_) (fun hc16 => ?_)
   ·try simp at hc16
    all_goals
     refine AW_r rfl rfl fun K hK => ?_
     simp [DtCmd.cells]
     repeat' first | (refine ⟨fun _ => ?_, fun _ => ?_⟩) | (refine ⟨by omega, ?_⟩) | (intro _)
     all_goals (refine hK _ ?_; clear hK K)
     all_goals
      refine zby (zcd ?_)
      simp [DtCmd.cells]
      all_goals first | (refine zcl (he.mpr ?_); simp_all [zbg, zbf]; done) | (refine zci fun h => ?_; rw [he] at h; simp_all [zbg, zbf, zb6]; done) | (refine (zcl (he.mpr ?_)).symm; simp_all [zbg, zbf]; done) | (refine (zci fun h => ?_).symm; rw [he] at h; simp_all [zbg, zbf, zb6]; done)
   try simp at hc16
   refine zbv ?_
   refine zb4 ?_
   refine zbr ?_
   refine AW_r rfl rfl fun K hK => ?_
   simp [DtCmd.cells]
   repeat' first | (refine ⟨fun _ => ?_, fun _ => ?_⟩) | (refine ⟨by omega, ?_⟩) | (intro _)
   all_goals (refine hK _ ?_; clear hK K)
   all_goals
    refine zbu rfl (fun hc17 => ?_) (fun hc17 => ?_)
    ·try simp at hc17
     all_goals
      refine AW_r rfl rfl fun K hK => ?_
      simp [DtCmd.cells]
      repeat' first | (refine ⟨fun _ => ?_, fun _ => ?_⟩) | (refine ⟨by omega, ?_⟩) | (intro _)
      all_goals (refine hK _ ?_; clear hK K)
      all_goals
       refine zby (zcd ?_)
       simp [DtCmd.cells]
       all_goals first | (refine zcl (he.mpr ?_); simp_all [zbg, zbf]; done) | (refine zci fun h => ?_; rw [he] at h; simp_all [zbg, zbf, zb6]; done) | (refine (zcl (he.mpr ?_)).symm; simp_all [zbg, zbf]; done) | (refine (zci fun h => ?_).symm; rw [he] at h; simp_all [zbg, zbf, zb6]; done)
    try simp at hc17
    refine zbv ?_
    refine zb4 ?_
    refine zbr ?_
    refine AW_r rfl rfl fun K hK => ?_
    simp [DtCmd.cells]
    repeat' first | (refine ⟨fun _ => ?_, fun _ => ?_⟩) | (refine ⟨by omega, ?_⟩) | (intro _)
    all_goals (refine hK _ ?_; clear hK K)
    all_goals
     refine zbu rfl (fun hc18 => ?_) (fun hc18 => ?_)
     ·try simp at hc18
      all_goals
       refine AW_r rfl rfl fun K hK => ?_
       simp [DtCmd.cells]
       repeat' first | (refine ⟨fun _ => ?_, fun _ => ?_⟩) | (refine ⟨by omega, ?_⟩) | (intro _)
       all_goals (refine hK _ ?_; clear hK K)
       all_goals
        refine zby (zcd ?_)
        simp [DtCmd.cells]
        all_goals first | (refine zcl (he.mpr ?_); simp_all [zbg, zbf]; done) | (refine zci fun h => ?_; rw [he] at h; simp_all [zbg, zbf, zb6]; done) | (refine (zcl (he.mpr ?_)).symm; simp_all [zbg, zbf]; done) | (refine (zci fun h => ?_).symm; rw [he] at h; simp_all [zbg, zbf, zb6]; done)
     try simp at hc18
     refine zbv ?_
     refine zb4 ?_
     refine zbr ?_
     refine AW_r rfl rfl fun K hK => ?_
     simp [DtCmd.cells]
     repeat' first | (refine ⟨fun _ => ?_, fun _ => ?_⟩) | (refine ⟨by omega, ?_⟩) | (intro _)
     all_goals (refine hK _ ?_; clear hK K)
     all_goals
      refine zbu rfl (fun hc19 => ?_) (fun hc19 => ?_)
      ·try simp at hc19
       all_goals
        refine AW_r rfl rfl fun K hK => ?_
        simp [DtCmd.cells]
        repeat' first | (refine ⟨fun _ => ?_, fun _ => ?_⟩) | (refine ⟨by omega, ?_⟩) | (intro _)
        all_goals (refine hK _ ?_; clear hK K)
        all_goals
         refine zby (zcd ?_)
         simp [DtCmd.cells]
         all_goals first | (refine zcl (he.mpr ?_); simp_all [zbg, zbf]; done) | (refine zci fun h => ?_; rw [he] at h; simp_all [zbg, zbf, zb6]; done) | (refine (zcl (he.mpr ?_)).symm; simp_all [zbg, zbf]; done) | (refine (zci fun h => ?_).symm; rw [he] at h; simp_all [zbg, zbf, zb6]; done)
      try simp at hc19
      refine zbv ?_
      refine zb4 ?_
      refine zbr ?_
      refine AW_r rfl rfl fun K hK => ?_
      simp [DtCmd.cells]
      repeat' first | (refine ⟨fun _ => ?_, fun _ => ?_⟩) | (refine ⟨by omega, ?_⟩) | (intro _)
      all_goals (refine hK _ ?_; clear hK K)
      all_goals
       refine zbu rfl (fun hc20 => ?_) (fun hc20 => ?_)
       ·try simp at hc20
        all_goals
         refine AW_r rfl rfl fun K hK => ?_
         simp [DtCmd.cells]
         repeat' first | (refine ⟨fun _ => ?_, fun _ => ?_⟩) | (refine ⟨by omega, ?_⟩) | (intro _)
         all_goals (refine hK _ ?_; clear hK K)
         all_goals
          refine zby (zcd ?_)
          simp [DtCmd.cells]
          all_goals first | (refine zcl (he.mpr ?_); simp_all [zbg, zbf]; done) | (refine zci fun h => ?_; rw [he] at h; simp_all [zbg, zbf, zb6]; done) | (refine (zcl (he.mpr ?_)).symm; simp_all [zbg, zbf]; done) | (refine (zci fun h => ?_).symm; rw [he] at h; simp_all [zbg, zbf, zb6]; done)
       try simp at hc20
       refine zbv ?_
       refine zb4 ?_
       refine zbr ?_
       refine AW_r rfl rfl fun K hK => ?_
       simp [DtCmd.cells]
       repeat' first | (refine zco (zbh zce (zbh zce zbs)) (eqStringS _ _ (by first | assumption | omega)) rfl ?_; simp [DtCmd.cells]) | (refine ⟨fun _ => ?_, fun _ => ?_⟩) | (refine ⟨by omega, ?_⟩) | (intro _)
       all_goals (refine hK _ ?_; clear hK K)
       all_goals
        refine zbu rfl (fun hc21 => ?_) (fun hc21 => ?_)
        ·try simp at hc21
         all_goals
          refine AW_r rfl rfl fun K hK => ?_
          simp [DtCmd.cells]
          repeat' first | (refine ⟨fun _ => ?_, fun _ => ?_⟩) | (refine ⟨by omega, ?_⟩) | (intro _)
          all_goals (refine hK _ ?_; clear hK K)
          all_goals
           refine zby (zcd ?_)
           simp [DtCmd.cells]
           all_goals first | (refine zcl (he.mpr ?_); simp_all [zbg, zbf]; done) | (refine zci fun h => ?_; rw [he] at h; simp_all [zbg, zbf, zb6]; done) | (refine (zcl (he.mpr ?_)).symm; simp_all [zbg, zbf]; done) | (refine (zci fun h => ?_).symm; rw [he] at h; simp_all [zbg, zbf, zb6]; done)
        try simp at hc21
        refine zbv ?_
        refine zb4 ?_
        refine AW_r rfl rfl fun K hK => ?_
        simp [DtCmd.cells]
        repeat' first | (refine ⟨fun _ => ?_, fun _ => ?_⟩) | (refine ⟨by omega, ?_⟩) | (intro _)
        all_goals (refine hK _ ?_; clear hK K)
        all_goals
         refine zby (zcd ?_)
         simp [DtCmd.cells]
         all_goals first | (refine zcl (he.mpr ?_); simp_all [zbg, zbf]; done) | (refine zci fun h => ?_; rw [he] at h; simp_all [zbg, zbf, zb6]; done) | (refine (zcl (he.mpr ?_)).symm; simp_all [zbg, zbf]; done) | (refine (zci fun h => ?_).symm; rw [he] at h; simp_all [zbg, zbf, zb6]; done)
theorem szIdS (xs : List DtId) (n : Int) (hn : 0 ≤ n ∧ n ≤ 1048576) (hw : (wfS DtId.wf) xs) : PCall Tryz.prog 26 [.sl 2 (xs.map DtId.cells), (.g (.int .i64 (n)))] (.g (.int .i64 (szR n xs.length))) := by
 have hw1 := hw.1
 refine zbz Tryz.func26 (by rfl) (by rfl) (by rw [Tryz.ntmps26]; exact Nat.le_of_ble_eq_true rfl) rfl (by decide) ?_
 rw [Tryz.ntmps26]
 refine AW_k [(0, _), (1, _)] ⟨rfl, rfl, trivial⟩ ?_
 refine AW_r rfl rfl fun K hK => ?_
 simp (disch := omega) [zbd, gE, tP, szR]
 repeat' first | (refine ⟨by omega, ?_⟩) | (intro _)
 refine hK _ ?_; clear hK K
 refine AW_r rfl rfl fun K hK => ?_
 simp (disch := omega) [zbd, gE, tP, szR]
 repeat' first | (refine ⟨by omega, ?_⟩) | (intro _)
 refine hK _ ?_; clear hK K
 refine zbr ?_
 refine AW_r rfl rfl fun K hK => ?_
 simp (disch := omega) [zbd, gE, tP, szR]
 repeat' first | (refine ⟨by omega, ?_⟩) | (intro _)
 refine hK _ ?_; clear hK K
 refine zbu rfl (fun hc22 => ?_) (fun hc22 => ?_)
 ·try simp at hc22
  all_goals
   refine AW_r rfl rfl fun K hK => ?_
   simp (disch := omega) [zbd, gE, tP, szR]
   repeat' first | (exfalso; omega) | (refine ⟨fun _ => ?_, fun _ => ?_⟩) | (refine ⟨by omega, ?_⟩) | (intro _)
   all_goals (refine hK _ ?_; clear hK K)
   all_goals
    refine zby (zcd ?_)
    simp (disch := omega) [zbd, gE, tP, szR]
    all_goals first | omega | (simp_all; done) | (simp [List.take_of_length_le]; done) | ((try simp_all); (try simp (disch := omega) only [zbd, Int.tdiv_eq_ediv_of_nonneg, Int.tmod_eq_emod_of_nonneg, and_true, true_and]); done) | ((try simp_all); (try simp (disch := omega) only [zbd, Int.tdiv_eq_ediv_of_nonneg, Int.tmod_eq_emod_of_nonneg, and_true, true_and] at *); omega)
 try simp at hc22
 refine zbv ?_
 refine zb4 ?_
 refine AW_r rfl rfl fun K hK => ?_
 simp (disch := omega) [zbd, gE, tP, szR]
 repeat' first | (exfalso; omega) | (refine ⟨fun _ => ?_, fun _ => ?_⟩) | (refine ⟨by omega, ?_⟩) | (intro _)
 all_goals (refine hK _ ?_; clear hK K)
 all_goals
  refine zby (zcd ?_)
  simp (disch := omega) [zbd, gE, tP, szR]
  all_goals first | omega | (simp_all; done) | (simp [List.take_of_length_le]; done) | ((try simp_all); (try simp (disch := omega) only [zbd, Int.tdiv_eq_ediv_of_nonneg, Int.tmod_eq_emod_of_nonneg, and_true, true_and]); done) | ((try simp_all); (try simp (disch := omega) only [zbd, Int.tdiv_eq_ediv_of_nonneg, Int.tmod_eq_emod_of_nonneg, and_true, true_and] at *); omega)
theorem eqIdS (xs ys : List DtId) (hs : (xs.length : Int) ≤ 1048576) : PCall Tryz.prog 37 [.sl 2 (xs.map DtId.cells), .sl 2 (ys.map DtId.cells)] (.g (.bool (eqB xs ys))) := by
 have hn : xs.length ≤ 1048576 := by omega
 refine zbz Tryz.func37 (by rfl) (by rfl) (by rw [Tryz.ntmps37]; exact Nat.le_of_ble_eq_true rfl) rfl (by decide) ?_
 rw [Tryz.ntmps37]
 refine AW_k [(0, _), (1, _)] ⟨rfl, rfl, trivial⟩ ?_
 refine AW_r rfl rfl fun K hK => ?_
 simp (disch := omega) [zbd, gE, tP]
 repeat' first | (refine ⟨by omega, ?_⟩) | (intro _)
 refine hK _ ?_; clear hK K
 refine zbr ?_
 refine AW_r rfl rfl fun K hK => ?_
 simp (disch := omega) [zbd, gE, tP]
 repeat' first | (refine ⟨by omega, ?_⟩) | (intro _)
 refine hK _ ?_; clear hK K
 refine zbu rfl (fun hc24 => ?_) (fun hc24 => ?_)
 ·try simp at hc24
  all_goals
   refine AW_r rfl rfl fun K hK => ?_
   simp (disch := omega) [zbd, gE, tP]
   repeat' first | (exfalso; omega) | (refine ⟨fun _ => ?_, fun _ => ?_⟩) | (refine ⟨by omega, ?_⟩) | (intro _)
   all_goals (refine hK _ ?_; clear hK K)
   all_goals
    refine zby (zcd ?_)
    simp (disch := omega) [zbd, gE, tP]
    all_goals first | (exact zcl heq) | (refine zci fun heq => ?_; subst heq; simp_all [zbg, zbf, zb6]; done) | (refine (zci fun heq => ?_).symm; subst heq; simp_all [zbg, zbf, zb6]; done) | simp_all [zb6]
 try simp at hc24
 refine zbv ?_
 refine zb4 ?_
 refine zbr ?_
 refine AW_r rfl rfl fun K hK => ?_
 simp (disch := omega) [zbd, gE, tP]
 repeat' first | (exfalso; omega) | (refine ⟨fun _ => ?_, fun _ => ?_⟩) | (refine ⟨by omega, ?_⟩) | (intro _)
 all_goals (refine hK _ ?_; clear hK K)
 all_goals
  refine zb0 ?_
  refine zcf (fun mM sS => ∃ (i : Nat), mM = xs.length - i ∧ (i ≤ xs.length ∧ ∀ j, j < i → xs[j]? = ys[j]?) ∧ sS = { env := lkE [(0, .sl 2 (xs.map DtId.cells)), (1, .sl 2 (ys.map DtId.cells)), (5, (.g (.int .i64 ((i : Nat)))))], ob := formOb [] [] }) ?_ ?_
  ·refine ⟨_, LeS.kp [(0, .sl 2 (xs.map DtId.cells)), (1, .sl 2 (ys.map DtId.cells)), (5, (.g (.int .i64 (((0) : Nat)))))] (by simp [KpE, zbl, zb5, zbi]; try rfl), _, 0, rfl, ?_, rfl⟩
   ·simp
  ·rintro mM sS ⟨i, rfl, ⟨hi, hpre⟩, rfl⟩
   refine zbr ?_
   refine AW_r rfl rfl fun K hK => ?_
   simp (disch := omega) [zbd, gE, tP, DtId.cells]
   repeat' first | (refine ⟨by omega, ?_⟩) | (intro _)
   refine hK _ ?_; clear hK K
   refine zbu rfl (fun hc25 => ?_) (fun hc25 => ?_)
   ·try simp at hc25
    all_goals
     have h7 : i < ys.length := by omega
     refine zbv ?_
     refine zb4 ?_
     refine zbr ?_
     refine zb0 ?_
     refine AW_q rfl mix (by kernel_rfl) rfl fun K hK => ?_
     simp (disch := omega) [zbd, gE, tP, DtId.cells]
     repeat' first | (exfalso; omega) | (refine zco (zbh (zcb rfl) (zbh (zcb rfl) zbs)) (eqId _ _) rfl ?_; simp (disch := omega) [zbd, gE, tP, DtId.cells]) | (refine ⟨fun _ => ?_, fun _ => ?_⟩) | (refine ⟨by omega, ?_⟩) | (intro _)
     all_goals (refine hK _ ?_; clear hK K)
     all_goals
      refine zbu rfl (fun hc26 => ?_) (fun hc26 => ?_)
      ·try simp at hc26
       all_goals
        refine AW_r rfl rfl fun K hK => ?_
        simp (disch := omega) [zbd, gE, tP, DtId.cells]
        repeat' first | (exfalso; omega) | (refine ⟨fun _ => ?_, fun _ => ?_⟩) | (refine ⟨by omega, ?_⟩) | (intro _)
        all_goals (refine hK _ ?_; clear hK K)
        all_goals
         refine zby (zcd ?_)
         simp (disch := omega) [zbd, gE, tP, DtId.cells]
         all_goals first | (exact zcl heq) | (refine zci fun heq => ?_; subst heq; simp_all [zbg, zbf, zb6]; done) | (refine (zci fun heq => ?_).symm; subst heq; simp_all [zbg, zbf, zb6]; done) | simp_all [zb6]
      try simp at hc26
      refine zbv ?_
      refine zb4 ?_
      refine zdi rfl rfl fun K hK => ?_
      simp (disch := omega) [zbd, gE, tP, DtId.cells]
      repeat' first | (exfalso; omega) | (refine ⟨fun _ => ?_, fun _ => ?_⟩) | (refine ⟨by omega, ?_⟩) | (intro _)
      all_goals (refine hK _ ?_; clear hK K)
      all_goals
       refine ⟨_, LeS.kp [(0, .sl 2 (xs.map DtId.cells)), (1, .sl 2 (ys.map DtId.cells)), (5, (.g (.int .i64 (((i + 1) : Nat)))))] (by simp [KpE, zbl, zb5, zbi]; try rfl), _, ?_, i + 1, rfl, ?_, rfl⟩
       ·omega
       ·refine ⟨by omega, fun j hj => ?_⟩
        by_cases hji : j = i
        ·subst hji; simp_all [zbg, zbf]
        ·exact hpre j (by omega)
   try simp at hc25
   have hi2 : i = xs.length := by omega
   subst hi2
   have heq : xs = ys := List.ext_getElem? fun j => by
    by_cases hj : j < xs.length
    ·exact hpre j hj
    ·rw [List.getElem?_eq_none (by omega), List.getElem?_eq_none (by omega)]
   refine zch ?_
   refine zb4 ?_
   refine AW_r rfl rfl fun K hK => ?_
   simp (disch := omega) [zbd, gE, tP, DtId.cells]
   repeat' first | (exfalso; omega) | (refine ⟨fun _ => ?_, fun _ => ?_⟩) | (refine ⟨by omega, ?_⟩) | (intro _)
   all_goals (refine hK _ ?_; clear hK K)
   all_goals
    refine zby (zcd ?_)
    simp (disch := omega) [zbd, gE, tP, DtId.cells]
    all_goals first | (exact zcl heq) | (refine zci fun heq => ?_; subst heq; simp_all [zbg, zbf, zb6]; done) | (refine (zci fun heq => ?_).symm; subst heq; simp_all [zbg, zbf, zb6]; done) | simp_all [zb6]
theorem szInst (u : DtInst) (n : Int) (hn : 0 ≤ n ∧ n ≤ 1048576) (hw : DtInst.wf u) : PCall Tryz.prog 13 [.agg (DtInst.cells u), (.g (.int .i64 (n)))] (.g (.int .i64 (szR n (DtInst.sz u)))) := by
 have ⟨w0, w1, w2, w3, w4, w5, w6, w7⟩ := hw
 have z4 := DtCmd.sz_nonneg u.fCmd
 have w62 := w6.1
 refine zbz Tryz.func13 (by rfl) (by rfl) (by rw [Tryz.ntmps13]; exact Nat.le_of_ble_eq_true rfl) rfl (by decide) ?_
 rw [Tryz.ntmps13]
 refine AW_k [(0, _), (1, _)] ⟨rfl, rfl, trivial⟩ ?_
 refine AW_r rfl rfl fun K hK => ?_
 simp (disch := omega) [zbd, gE, tP, szR, DtInst.cells]
 repeat' first | (refine ⟨by omega, ?_⟩) | (intro _)
 refine hK _ ?_; clear hK K
 refine AW_r rfl rfl fun K hK => ?_
 simp (disch := omega) [zbd, gE, tP, szR, DtInst.cells]
 repeat' first | (exfalso; omega) | (refine zco (zbh (zcb rfl) (zbh zcx zbs)) (szCmd _ _ (by omega) (by assumption)) rfl ?_; simp (disch := omega) [zbd, gE, tP, szR, DtInst.cells]) | (refine ⟨by omega, ?_⟩) | (intro _)
 refine hK _ ?_; clear hK K
 refine zbr ?_
 refine AW_r rfl rfl fun K hK => ?_
 simp (disch := omega) [zbd, gE, tP, szR, DtInst.cells]
 repeat' first | (refine ⟨by omega, ?_⟩) | (intro _)
 refine hK _ ?_; clear hK K
 refine zbu rfl (fun hc27 => ?_) (fun hc27 => ?_)
 ·try simp at hc27
  all_goals
   refine AW_r rfl rfl fun K hK => ?_
   simp (disch := omega) [zbd, gE, tP, szR, DtInst.cells]
   repeat' first | (exfalso; omega) | (refine ⟨fun _ => ?_, fun _ => ?_⟩) | (refine ⟨by omega, ?_⟩) | (intro _)
   all_goals (refine hK _ ?_; clear hK K)
   all_goals
    refine zby (zcd ?_)
    simp (disch := omega) [zbd, gE, tP, szR, DtInst.cells, DtInst.sz]
    all_goals first | omega | (simp_all; done) | (split <;> omega) | (split <;> simp_all <;> omega) | (simp_all [szR]; omega)
 try simp at hc27
 refine zbv ?_
 refine zb4 ?_
 refine AW_r rfl rfl fun K hK => ?_
 simp (disch := omega) [zbd, gE, tP, szR, DtInst.cells]
 repeat' first | (exfalso; omega) | (refine zco (zbh zce (zbh zcx zbs)) (szIdS _ _ (by omega) (by assumption)) rfl ?_; simp (disch := omega) [zbd, gE, tP, szR, DtInst.cells]) | (refine ⟨fun _ => ?_, fun _ => ?_⟩) | (refine ⟨by omega, ?_⟩) | (intro _)
 all_goals (refine hK _ ?_; clear hK K)
 all_goals
  refine zbr ?_
  refine AW_r rfl rfl fun K hK => ?_
  simp (disch := omega) [zbd, gE, tP, szR, DtInst.cells]
  repeat' first | (refine ⟨by omega, ?_⟩) | (intro _)
  refine hK _ ?_; clear hK K
  refine zbu rfl (fun hc28 => ?_) (fun hc28 => ?_)
  ·try simp at hc28
   all_goals
    refine AW_r rfl rfl fun K hK => ?_
    simp (disch := omega) [zbd, gE, tP, szR, DtInst.cells]
    repeat' first | (exfalso; omega) | (refine ⟨fun _ => ?_, fun _ => ?_⟩) | (refine ⟨by omega, ?_⟩) | (intro _)
    all_goals (refine hK _ ?_; clear hK K)
    all_goals
     refine zby (zcd ?_)
     simp (disch := omega) [zbd, gE, tP, szR, DtInst.cells, DtInst.sz]
     all_goals first | omega | (simp_all; done) | (split <;> omega) | (split <;> simp_all <;> omega) | (simp_all [szR]; omega)
  try simp at hc28
  refine zbv ?_
  refine zb4 ?_
  refine AW_r rfl rfl fun K hK => ?_
  simp (disch := omega) [zbd, gE, tP, szR, DtInst.cells]
  repeat' first | (exfalso; omega) | (refine ⟨fun _ => ?_, fun _ => ?_⟩) | (refine ⟨by omega, ?_⟩) | (intro _)
  all_goals (refine hK _ ?_; clear hK K)
  all_goals
   refine zby (zcd ?_)
   simp (disch := omega) [zbd, gE, tP, szR, DtInst.cells, DtInst.sz]
   all_goals first | omega | (simp_all; done) | (split <;> omega) | (split <;> simp_all <;> omega) | (simp_all [szR]; omega)
theorem eqInst (u v : DtInst) (hs : DtInst.sz u ≤ 1048576) : PCall Tryz.prog 20 [.agg (DtInst.cells u), .agg (DtInst.cells v)] (.g (.bool (eqB u v))) := by
 simp only [DtInst.sz] at hs
 have z4 := DtCmd.sz_nonneg u.fCmd
 have s4 : DtCmd.sz u.fCmd ≤ 1048576 := by omega
 have s6 : (u.fDeps.length : Int) ≤ 1048576 := by omega
 have he := DtInst.ext_iff u v
 refine zbz Tryz.func20 (by rfl) (by rfl) (by rw [Tryz.ntmps20]; exact Nat.le_of_ble_eq_true rfl) rfl (by decide) ?_
 rw [Tryz.ntmps20]
 refine AW_k [(0, _), (1, _)] ⟨rfl, rfl, trivial⟩ ?_
 refine AW_r rfl rfl fun K hK => ?_
 simp [DtInst.cells, DtId.cells, DtCmd.cells]
 repeat' first | (refine ⟨by omega, ?_⟩) | (intro _)
 refine hK _ ?_; clear hK K
 refine zbr ?_
 refine AW_r rfl rfl fun K hK => ?_
 simp [DtInst.cells, DtId.cells, DtCmd.cells]
 repeat' first | (refine zco (zbh (zcb rfl) (zbh (zcb rfl) zbs)) (eqId _ _) rfl ?_; simp [DtInst.cells, DtId.cells, DtCmd.cells]) | (refine ⟨by omega, ?_⟩) | (intro _)
 refine hK _ ?_; clear hK K
 refine zbu rfl (fun hc29 => ?_) (fun hc29 => ?_)
 ·try simp at hc29
  all_goals
   refine AW_r rfl rfl fun K hK => ?_
   simp [DtInst.cells, DtId.cells, DtCmd.cells]
   repeat' first | (refine ⟨fun _ => ?_, fun _ => ?_⟩) | (refine ⟨by omega, ?_⟩) | (intro _)
   all_goals (refine hK _ ?_; clear hK K)
   all_goals
    refine zby (zcd ?_)
    simp [DtInst.cells, DtId.cells, DtCmd.cells]
    all_goals first | (refine zcl (he.mpr ?_); simp_all [zbg, zbf]; done) | (refine zci fun h => ?_; rw [he] at h; simp_all [zbg, zbf, zb6]; done) | (refine (zcl (he.mpr ?_)).symm; simp_all [zbg, zbf]; done) | (refine (zci fun h => ?_).symm; rw [he] at h; simp_all [zbg, zbf, zb6]; done)
 try simp at hc29
 refine zbv ?_
 refine zb4 ?_
 refine zbr ?_
 refine AW_r rfl rfl fun K hK => ?_
 simp [DtInst.cells, DtId.cells, DtCmd.cells]
 repeat' first | (refine ⟨fun _ => ?_, fun _ => ?_⟩) | (refine ⟨by omega, ?_⟩) | (intro _)
 all_goals (refine hK _ ?_; clear hK K)
 all_goals
  refine zbu rfl (fun hc30 => ?_) (fun hc30 => ?_)
  ·try simp at hc30
   all_goals
    refine AW_r rfl rfl fun K hK => ?_
    simp [DtInst.cells, DtId.cells, DtCmd.cells]
    repeat' first | (refine ⟨fun _ => ?_, fun _ => ?_⟩) | (refine ⟨by omega, ?_⟩) | (intro _)
    all_goals (refine hK _ ?_; clear hK K)
    all_goals
     refine zby (zcd ?_)
     simp [DtInst.cells, DtId.cells, DtCmd.cells]
     all_goals first | (refine zcl (he.mpr ?_); simp_all [zbg, zbf]; done) | (refine zci fun h => ?_; rw [he] at h; simp_all [zbg, zbf, zb6]; done) | (refine (zcl (he.mpr ?_)).symm; simp_all [zbg, zbf]; done) | (refine (zci fun h => ?_).symm; rw [he] at h; simp_all [zbg, zbf, zb6]; done)
  try simp at hc30
  refine zbv ?_
  refine zb4 ?_
  refine zbr ?_
  refine AW_r rfl rfl fun K hK => ?_
  simp [DtInst.cells, DtId.cells, DtCmd.cells]
  repeat' first | (refine ⟨fun _ => ?_, fun _ => ?_⟩) | (refine ⟨by omega, ?_⟩) | (intro _)
  all_goals (refine hK _ ?_; clear hK K)
  all_goals
   refine zbu rfl (fun hc31 => ?_) (fun hc31 => ?_)
   ·try simp at hc31
    all_goals
     refine AW_r rfl rfl fun K hK => ?_
     simp [DtInst.cells, DtId.cells, DtCmd.cells]
     repeat' first | (refine ⟨fun _ => ?_, fun _ => ?_⟩) | (refine ⟨by omega, ?_⟩) | (intro _)
     all_goals (refine hK _ ?_; clear hK K)
     all_goals
      refine zby (zcd ?_)
      simp [DtInst.cells, DtId.cells, DtCmd.cells]
      all_goals first | (refine zcl (he.mpr ?_); simp_all [zbg, zbf]; done) | (refine zci fun h => ?_; rw [he] at h; simp_all [zbg, zbf, zb6]; done) | (refine (zcl (he.mpr ?_)).symm; simp_all [zbg, zbf]; done) | (refine (zci fun h => ?_).symm; rw [he] at h; simp_all [zbg, zbf, zb6]; done)
   try simp at hc31
   refine zbv ?_
   refine zb4 ?_
   refine zbr ?_
   refine AW_r rfl rfl fun K hK => ?_
   simp [DtInst.cells, DtId.cells, DtCmd.cells]
   repeat' first | (refine ⟨fun _ => ?_, fun _ => ?_⟩) | (refine ⟨by omega, ?_⟩) | (intro _)
   all_goals (refine hK _ ?_; clear hK K)
   all_goals
    refine zbu rfl (fun hc32 => ?_) (fun hc32 => ?_)
    ·try simp at hc32
     all_goals
      refine AW_r rfl rfl fun K hK => ?_
      simp [DtInst.cells, DtId.cells, DtCmd.cells]
      repeat' first | (refine ⟨fun _ => ?_, fun _ => ?_⟩) | (refine ⟨by omega, ?_⟩) | (intro _)
      all_goals (refine hK _ ?_; clear hK K)
      all_goals
       refine zby (zcd ?_)
       simp [DtInst.cells, DtId.cells, DtCmd.cells]
       all_goals first | (refine zcl (he.mpr ?_); simp_all [zbg, zbf]; done) | (refine zci fun h => ?_; rw [he] at h; simp_all [zbg, zbf, zb6]; done) | (refine (zcl (he.mpr ?_)).symm; simp_all [zbg, zbf]; done) | (refine (zci fun h => ?_).symm; rw [he] at h; simp_all [zbg, zbf, zb6]; done)
    try simp at hc32
    refine zbv ?_
    refine zb4 ?_
    refine zbr ?_
    refine AW_r rfl rfl fun K hK => ?_
    simp [DtInst.cells, DtId.cells, DtCmd.cells]
    repeat' first | (refine zco (zbh (zcb rfl) (zbh (zcb rfl) zbs)) (eqCmd _ _ (by first | assumption | omega)) rfl ?_; simp [DtInst.cells, DtId.cells, DtCmd.cells]) | (refine ⟨fun _ => ?_, fun _ => ?_⟩) | (refine ⟨by omega, ?_⟩) | (intro _)
    all_goals (refine hK _ ?_; clear hK K)
    all_goals
     refine zbu rfl (fun hc33 => ?_) (fun hc33 => ?_)
     ·try simp at hc33
      all_goals
       refine AW_r rfl rfl fun K hK => ?_
       simp [DtInst.cells, DtId.cells, DtCmd.cells]
       repeat' first | (refine ⟨fun _ => ?_, fun _ => ?_⟩) | (refine ⟨by omega, ?_⟩) | (intro _)
       all_goals (refine hK _ ?_; clear hK K)
       all_goals
        refine zby (zcd ?_)
        simp [DtInst.cells, DtId.cells, DtCmd.cells]
        all_goals first | (refine zcl (he.mpr ?_); simp_all [zbg, zbf]; done) | (refine zci fun h => ?_; rw [he] at h; simp_all [zbg, zbf, zb6]; done) | (refine (zcl (he.mpr ?_)).symm; simp_all [zbg, zbf]; done) | (refine (zci fun h => ?_).symm; rw [he] at h; simp_all [zbg, zbf, zb6]; done)
     try simp at hc33
     refine zbv ?_
     refine zb4 ?_
     refine zbr ?_
     refine AW_r rfl rfl fun K hK => ?_
     simp [DtInst.cells, DtId.cells, DtCmd.cells]
     repeat' first | (refine ⟨fun _ => ?_, fun _ => ?_⟩) | (refine ⟨by omega, ?_⟩) | (intro _)
     all_goals (refine hK _ ?_; clear hK K)
     all_goals
      refine zbu rfl (fun hc34 => ?_) (fun hc34 => ?_)
      ·try simp at hc34
       all_goals
        refine AW_r rfl rfl fun K hK => ?_
        simp [DtInst.cells, DtId.cells, DtCmd.cells]
        repeat' first | (refine ⟨fun _ => ?_, fun _ => ?_⟩) | (refine ⟨by omega, ?_⟩) | (intro _)
        all_goals (refine hK _ ?_; clear hK K)
        all_goals
         refine zby (zcd ?_)
         simp [DtInst.cells, DtId.cells, DtCmd.cells]
         all_goals first | (refine zcl (he.mpr ?_); simp_all [zbg, zbf]; done) | (refine zci fun h => ?_; rw [he] at h; simp_all [zbg, zbf, zb6]; done) | (refine (zcl (he.mpr ?_)).symm; simp_all [zbg, zbf]; done) | (refine (zci fun h => ?_).symm; rw [he] at h; simp_all [zbg, zbf, zb6]; done)
      try simp at hc34
      refine zbv ?_
      refine zb4 ?_
      refine zbr ?_
      refine AW_r rfl rfl fun K hK => ?_
      simp [DtInst.cells, DtId.cells, DtCmd.cells]
      repeat' first | (refine zco (zbh zce (zbh zce zbs)) (eqIdS _ _ (by first | assumption | omega)) rfl ?_; simp [DtInst.cells, DtId.cells, DtCmd.cells]) | (refine ⟨fun _ => ?_, fun _ => ?_⟩) | (refine ⟨by omega, ?_⟩) | (intro _)
      all_goals (refine hK _ ?_; clear hK K)
      all_goals
       refine zbu rfl (fun hc35 => ?_) (fun hc35 => ?_)
       ·try simp at hc35
        all_goals
         refine AW_r rfl rfl fun K hK => ?_
         simp [DtInst.cells, DtId.cells, DtCmd.cells]
         repeat' first | (refine ⟨fun _ => ?_, fun _ => ?_⟩) | (refine ⟨by omega, ?_⟩) | (intro _)
         all_goals (refine hK _ ?_; clear hK K)
         all_goals
          refine zby (zcd ?_)
          simp [DtInst.cells, DtId.cells, DtCmd.cells]
          all_goals first | (refine zcl (he.mpr ?_); simp_all [zbg, zbf]; done) | (refine zci fun h => ?_; rw [he] at h; simp_all [zbg, zbf, zb6]; done) | (refine (zcl (he.mpr ?_)).symm; simp_all [zbg, zbf]; done) | (refine (zci fun h => ?_).symm; rw [he] at h; simp_all [zbg, zbf, zb6]; done)
       try simp at hc35
       refine zbv ?_
       refine zb4 ?_
       refine zbr ?_
       refine AW_r rfl rfl fun K hK => ?_
       simp [DtInst.cells, DtId.cells, DtCmd.cells]
       repeat' first | (refine ⟨fun _ => ?_, fun _ => ?_⟩) | (refine ⟨by omega, ?_⟩) | (intro _)
       all_goals (refine hK _ ?_; clear hK K)
       all_goals
        refine zbu rfl (fun hc36 => ?_) (fun hc36 => ?_)
        ·try simp at hc36
         all_goals
          refine AW_r rfl rfl fun K hK => ?_
          simp [DtInst.cells, DtId.cells, DtCmd.cells]
          repeat' first | (refine ⟨fun _ => ?_, fun _ => ?_⟩) | (refine ⟨by omega, ?_⟩) | (intro _)
          all_goals (refine hK _ ?_; clear hK K)
          all_goals
           refine zby (zcd ?_)
           simp [DtInst.cells, DtId.cells, DtCmd.cells]
           all_goals first | (refine zcl (he.mpr ?_); simp_all [zbg, zbf]; done) | (refine zci fun h => ?_; rw [he] at h; simp_all [zbg, zbf, zb6]; done) | (refine (zcl (he.mpr ?_)).symm; simp_all [zbg, zbf]; done) | (refine (zci fun h => ?_).symm; rw [he] at h; simp_all [zbg, zbf, zb6]; done)
        try simp at hc36
        refine zbv ?_
        refine zb4 ?_
        refine AW_r rfl rfl fun K hK => ?_
        simp [DtInst.cells, DtId.cells, DtCmd.cells]
        repeat' first | (refine ⟨fun _ => ?_, fun _ => ?_⟩) | (refine ⟨by omega, ?_⟩) | (intro _)
        all_goals (refine hK _ ?_; clear hK K)
        all_goals
         refine zby (zcd ?_)
         simp [DtInst.cells, DtId.cells, DtCmd.cells]
         all_goals first | (refine zcl (he.mpr ?_); simp_all [zbg, zbf]; done) | (refine zci fun h => ?_; rw [he] at h; simp_all [zbg, zbf, zb6]; done) | (refine (zcl (he.mpr ?_)).symm; simp_all [zbg, zbf]; done) | (refine (zci fun h => ?_).symm; rw [he] at h; simp_all [zbg, zbf, zb6]; done)
theorem zp2 (xs : List DtInst) (n : Int) (hn : 0 ≤ n ∧ n ≤ 1048576) (hw : (wfS DtInst.wf) xs) : PCall Tryz.prog 4 [.sl 16 (xs.map DtInst.cells), (.g (.int .i64 (n)))] (.g (.int .i64 (szR n (szS DtInst.sz xs)))) := by
 have hq := zct DtInst.sz_nonneg xs
 have hw1 := hw.1
 refine zbz Tryz.func4 (by rfl) (by rfl) (by rw [Tryz.ntmps4]; exact Nat.le_of_ble_eq_true rfl) rfl (by decide) ?_
 rw [Tryz.ntmps4]
 refine AW_k [(0, _), (1, _)] ⟨rfl, rfl, trivial⟩ ?_
 refine AW_r rfl rfl fun K hK => ?_
 simp (disch := omega) [zbd, gE, tP, szR]
 repeat' first | (refine ⟨by omega, ?_⟩) | (intro _)
 refine hK _ ?_; clear hK K
 refine AW_r rfl rfl fun K hK => ?_
 simp (disch := omega) [zbd, gE, tP, szR]
 repeat' first | (refine ⟨by omega, ?_⟩) | (intro _)
 refine hK _ ?_; clear hK K
 refine zbr ?_
 refine AW_r rfl rfl fun K hK => ?_
 simp (disch := omega) [zbd, gE, tP, szR]
 repeat' first | (refine ⟨by omega, ?_⟩) | (intro _)
 refine hK _ ?_; clear hK K
 refine zbu rfl (fun hc37 => ?_) (fun hc37 => ?_)
 ·try simp at hc37
  all_goals
   refine AW_r rfl rfl fun K hK => ?_
   simp (disch := omega) [zbd, gE, tP, szR]
   repeat' first | (exfalso; omega) | (refine ⟨fun _ => ?_, fun _ => ?_⟩) | (refine ⟨by omega, ?_⟩) | (intro _)
   all_goals (refine hK _ ?_; clear hK K)
   all_goals
    refine zby (zcd ?_)
    simp (disch := omega) [zbd, gE, tP, szR, szS]
    all_goals first | omega | (split <;> omega)
 try simp at hc37
 refine zbv ?_
 refine zb4 ?_
 refine zbr ?_
 refine AW_r rfl rfl fun K hK => ?_
 simp (disch := omega) [zbd, gE, tP, szR]
 repeat' first | (exfalso; omega) | (refine ⟨fun _ => ?_, fun _ => ?_⟩) | (refine ⟨by omega, ?_⟩) | (intro _)
 all_goals (refine hK _ ?_; clear hK K)
 all_goals
  refine zb0 ?_
  refine zcf (fun mM sS => ∃ (i : Nat), mM = xs.length - i ∧ (i ≤ xs.length ∧ 0 ≤ n - xs.length - sumZ DtInst.sz (xs.take i)) ∧ sS = { env := lkE [(0, .sl 16 (xs.map DtInst.cells)), (1, (.g (.int .i64 (n - xs.length - sumZ DtInst.sz (xs.take i))))), (5, (.g (.int .i64 ((i : Nat)))))], ob := formOb [] [] }) ?_ ?_
  ·refine ⟨_, LeS.kp [(0, .sl 16 (xs.map DtInst.cells)), (1, (.g (.int .i64 (n - xs.length - sumZ DtInst.sz (xs.take (0)))))), (5, (.g (.int .i64 (((0) : Nat)))))] (by simp [KpE, zbl, zb5, zbi, zdy]; try first | rfl | omega), _, 0, rfl, ?_, rfl⟩
   ·simp [zdy]; omega
  ·rintro mM sS ⟨i, rfl, ⟨hi, hn⟩, rfl⟩
   have hz := zct DtInst.sz_nonneg (xs.take i)
   have hz2 := zgb DtInst.sz_nonneg xs i
   refine zbr ?_
   refine AW_r rfl rfl fun K hK => ?_
   simp (disch := omega) [zbd, gE, tP, szR, DtInst.cells]
   repeat' first | (refine ⟨by omega, ?_⟩) | (intro _)
   refine hK _ ?_; clear hK K
   refine zbu rfl (fun hc38 => ?_) (fun hc38 => ?_)
   ·try simp at hc38
    all_goals
     have hl := zrm (f := DtInst.sz) xs i (by omega)
     have hwE : DtInst.wf xs[i] := hw.2 _ (List.getElem_mem _)
     have hz3 := zgb DtInst.sz_nonneg xs (i + 1)
     have hzE := DtInst.sz_nonneg xs[i]
     have hszR : szR (n - xs.length - sumZ DtInst.sz (xs.take i)) (DtInst.sz xs[i]) = n - xs.length - sumZ DtInst.sz (xs.take (i + 1)) ∨ (szR (n - xs.length - sumZ DtInst.sz (xs.take i)) (DtInst.sz xs[i]) = -1 ∧ n - xs.length - sumZ DtInst.sz (xs.take (i + 1)) < 0) := by unfold szR; split <;> omega
     refine zbv ?_
     refine zb4 ?_
     refine zbr ?_
     refine zb0 ?_
     refine AW_r rfl rfl fun K hK => ?_
     simp (disch := omega) [zbd, gE, tP, szR, DtInst.cells]
     repeat' first | (exfalso; omega) | (refine zco (zbh (zcb rfl) (zbh zcx zbs)) (szInst _ _ (by omega) (by first | exact hwE | exact hw)) rfl ?_; simp (disch := omega) [zbd, gE, tP, szR, DtInst.cells]) | (refine ⟨fun _ => ?_, fun _ => ?_⟩) | (refine ⟨by omega, ?_⟩) | (intro _)
     all_goals (refine hK _ ?_; clear hK K)
     all_goals
      refine AW_r rfl rfl fun K hK => ?_
      simp (disch := omega) [zbd, gE, tP, szR, DtInst.cells]
      repeat' first | (refine ⟨by omega, ?_⟩) | (intro _)
      refine hK _ ?_; clear hK K
      refine zbu rfl (fun hc39 => ?_) (fun hc39 => ?_)
      ·try simp at hc39
       all_goals
        refine AW_r rfl rfl fun K hK => ?_
        simp (disch := omega) [zbd, gE, tP, szR, DtInst.cells]
        repeat' first | (exfalso; omega) | (refine ⟨fun _ => ?_, fun _ => ?_⟩) | (refine ⟨by omega, ?_⟩) | (intro _)
        all_goals (refine hK _ ?_; clear hK K)
        all_goals
         refine zby (zcd ?_)
         simp (disch := omega) [zbd, gE, tP, szR, DtInst.cells, szS]
         all_goals first | omega | (split <;> omega)
      try simp at hc39
      refine zbv ?_
      refine zb4 ?_
      refine zdi rfl rfl fun K hK => ?_
      simp (disch := omega) [zbd, gE, tP, szR, DtInst.cells]
      repeat' first | (exfalso; omega) | (refine ⟨fun _ => ?_, fun _ => ?_⟩) | (refine ⟨by omega, ?_⟩) | (intro _)
      all_goals (refine hK _ ?_; clear hK K)
      all_goals
       refine ⟨_, LeS.kp [(0, .sl 16 (xs.map DtInst.cells)), (1, (.g (.int .i64 (n - xs.length - sumZ DtInst.sz (xs.take (i + 1)))))), (5, (.g (.int .i64 (((i + 1) : Nat)))))] (by simp [KpE, zbl, zb5, zbi, zdy]; try first | rfl | omega), _, ?_, i + 1, rfl, ?_, rfl⟩
       ·omega
       ·omega
   try simp at hc38
   have hi2 : i = xs.length := by omega
   subst hi2
   simp only [List.take_length] at *
   refine zch ?_
   refine zb4 ?_
   refine AW_r rfl rfl fun K hK => ?_
   simp (disch := omega) [zbd, gE, tP, szR, DtInst.cells]
   repeat' first | (exfalso; omega) | (refine ⟨fun _ => ?_, fun _ => ?_⟩) | (refine ⟨by omega, ?_⟩) | (intro _)
   all_goals (refine hK _ ?_; clear hK K)
   all_goals
    refine zby (zcd ?_)
    simp (disch := omega) [zbd, gE, tP, szR, DtInst.cells, szS]
    all_goals first | omega | (split <;> omega)
theorem eqInstS (xs ys : List DtInst) (hs : szS DtInst.sz xs ≤ 1048576) : PCall Tryz.prog 9 [.sl 16 (xs.map DtInst.cells), .sl 16 (ys.map DtInst.cells)] (.g (.bool (eqB xs ys))) := by
 have hn : xs.length ≤ 1048576 := by have := zct DtInst.sz_nonneg xs; simp only [szS] at hs; omega
 refine zbz Tryz.func9 (by rfl) (by rfl) (by rw [Tryz.ntmps9]; exact Nat.le_of_ble_eq_true rfl) rfl (by decide) ?_
 rw [Tryz.ntmps9]
 refine AW_k [(0, _), (1, _)] ⟨rfl, rfl, trivial⟩ ?_
 refine AW_r rfl rfl fun K hK => ?_
 simp (disch := omega) [zbd, gE, tP]
 repeat' first | (refine ⟨by omega, ?_⟩) | (intro _)
 refine hK _ ?_; clear hK K
 refine zbr ?_
 refine AW_r rfl rfl fun K hK => ?_
 simp (disch := omega) [zbd, gE, tP]
 repeat' first | (refine ⟨by omega, ?_⟩) | (intro _)
 refine hK _ ?_; clear hK K
 refine zbu rfl (fun hc41 => ?_) (fun hc41 => ?_)
 ·try simp at hc41
  all_goals
   refine AW_r rfl rfl fun K hK => ?_
   simp (disch := omega) [zbd, gE, tP]
   repeat' first | (exfalso; omega) | (refine ⟨fun _ => ?_, fun _ => ?_⟩) | (refine ⟨by omega, ?_⟩) | (intro _)
   all_goals (refine hK _ ?_; clear hK K)
   all_goals
    refine zby (zcd ?_)
    simp (disch := omega) [zbd, gE, tP]
    all_goals first | (exact zcl heq) | (refine zci fun heq => ?_; subst heq; simp_all [zbg, zbf, zb6]; done) | (refine (zci fun heq => ?_).symm; subst heq; simp_all [zbg, zbf, zb6]; done) | simp_all [zb6]
 try simp at hc41
 refine zbv ?_
 refine zb4 ?_
 refine zbr ?_
 refine AW_r rfl rfl fun K hK => ?_
 simp (disch := omega) [zbd, gE, tP]
 repeat' first | (exfalso; omega) | (refine ⟨fun _ => ?_, fun _ => ?_⟩) | (refine ⟨by omega, ?_⟩) | (intro _)
 all_goals (refine hK _ ?_; clear hK K)
 all_goals
  refine zb0 ?_
  refine zcf (fun mM sS => ∃ (i : Nat), mM = xs.length - i ∧ (i ≤ xs.length ∧ ∀ j, j < i → xs[j]? = ys[j]?) ∧ sS = { env := lkE [(0, .sl 16 (xs.map DtInst.cells)), (1, .sl 16 (ys.map DtInst.cells)), (5, (.g (.int .i64 ((i : Nat)))))], ob := formOb [] [] }) ?_ ?_
  ·refine ⟨_, LeS.kp [(0, .sl 16 (xs.map DtInst.cells)), (1, .sl 16 (ys.map DtInst.cells)), (5, (.g (.int .i64 (((0) : Nat)))))] (by simp [KpE, zbl, zb5, zbi]; try rfl), _, 0, rfl, ?_, rfl⟩
   ·simp
  ·rintro mM sS ⟨i, rfl, ⟨hi, hpre⟩, rfl⟩
   refine zbr ?_
   refine AW_r rfl rfl fun K hK => ?_
   simp (disch := omega) [zbd, gE, tP, DtInst.cells]
   repeat' first | (refine ⟨by omega, ?_⟩) | (intro _)
   refine hK _ ?_; clear hK K
   refine zbu rfl (fun hc42 => ?_) (fun hc42 => ?_)
   ·try simp at hc42
    all_goals
     have h7 : i < ys.length := by omega
     have hsE : DtInst.sz xs[i] ≤ 1048576 := by have := zdp DtInst.sz_nonneg xs xs[i] (List.getElem_mem _); simp only [szS] at hs; omega
     refine zbv ?_
     refine zb4 ?_
     refine zbr ?_
     refine zb0 ?_
     refine AW_q rfl mix (by kernel_rfl) rfl fun K hK => ?_
     simp (disch := omega) [zbd, gE, tP, DtInst.cells]
     repeat' first | (exfalso; omega) | (refine zco (zbh (zcb rfl) (zbh (zcb rfl) zbs)) (eqInst _ _ (by first | assumption | omega)) rfl ?_; simp (disch := omega) [zbd, gE, tP, DtInst.cells]) | (refine ⟨fun _ => ?_, fun _ => ?_⟩) | (refine ⟨by omega, ?_⟩) | (intro _)
     all_goals (refine hK _ ?_; clear hK K)
     all_goals
      refine zbu rfl (fun hc43 => ?_) (fun hc43 => ?_)
      ·try simp at hc43
       all_goals
        refine AW_r rfl rfl fun K hK => ?_
        simp (disch := omega) [zbd, gE, tP, DtInst.cells]
        repeat' first | (exfalso; omega) | (refine ⟨fun _ => ?_, fun _ => ?_⟩) | (refine ⟨by omega, ?_⟩) | (intro _)
        all_goals (refine hK _ ?_; clear hK K)
        all_goals
         refine zby (zcd ?_)
         simp (disch := omega) [zbd, gE, tP, DtInst.cells]
         all_goals first | (exact zcl heq) | (refine zci fun heq => ?_; subst heq; simp_all [zbg, zbf, zb6]; done) | (refine (zci fun heq => ?_).symm; subst heq; simp_all [zbg, zbf, zb6]; done) | simp_all [zb6]
      try simp at hc43
      refine zbv ?_
      refine zb4 ?_
      refine zdi rfl rfl fun K hK => ?_
      simp (disch := omega) [zbd, gE, tP, DtInst.cells]
      repeat' first | (exfalso; omega) | (refine ⟨fun _ => ?_, fun _ => ?_⟩) | (refine ⟨by omega, ?_⟩) | (intro _)
      all_goals (refine hK _ ?_; clear hK K)
      all_goals
       refine ⟨_, LeS.kp [(0, .sl 16 (xs.map DtInst.cells)), (1, .sl 16 (ys.map DtInst.cells)), (5, (.g (.int .i64 (((i + 1) : Nat)))))] (by simp [KpE, zbl, zb5, zbi]; try rfl), _, ?_, i + 1, rfl, ?_, rfl⟩
       ·omega
       ·refine ⟨by omega, fun j hj => ?_⟩
        by_cases hji : j = i
        ·subst hji; simp_all [zbg, zbf]
        ·exact hpre j (by omega)
   try simp at hc42
   have hi2 : i = xs.length := by omega
   subst hi2
   have heq : xs = ys := List.ext_getElem? fun j => by
    by_cases hj : j < xs.length
    ·exact hpre j hj
    ·rw [List.getElem?_eq_none (by omega), List.getElem?_eq_none (by omega)]
   refine zch ?_
   refine zb4 ?_
   refine AW_r rfl rfl fun K hK => ?_
   simp (disch := omega) [zbd, gE, tP, DtInst.cells]
   repeat' first | (exfalso; omega) | (refine ⟨fun _ => ?_, fun _ => ?_⟩) | (refine ⟨by omega, ?_⟩) | (intro _)
   all_goals (refine hK _ ?_; clear hK K)
   all_goals
    refine zby (zcd ?_)
    simp (disch := omega) [zbd, gE, tP, DtInst.cells]
    all_goals first | (exact zcl heq) | (refine zci fun heq => ?_; subst heq; simp_all [zbg, zbf, zb6]; done) | (refine (zci fun heq => ?_).symm; subst heq; simp_all [zbg, zbf, zb6]; done) | simp_all [zb6]
theorem znt (xs ys : List DtCmd) (hs : szS DtCmd.sz xs ≤ 1048576) : PCall Tryz.prog 8 [.sl 8 (xs.map DtCmd.cells), .sl 8 (ys.map DtCmd.cells)] (.g (.bool (eqB xs ys))) := by
 have hn : xs.length ≤ 1048576 := by have := zct DtCmd.sz_nonneg xs; simp only [szS] at hs; omega
 refine zbz Tryz.func8 (by rfl) (by rfl) (by rw [Tryz.ntmps8]; exact Nat.le_of_ble_eq_true rfl) rfl (by decide) ?_
 rw [Tryz.ntmps8]
 refine AW_k [(0, _), (1, _)] ⟨rfl, rfl, trivial⟩ ?_
 refine AW_r rfl rfl fun K hK => ?_
 simp (disch := omega) [zbd, gE, tP]
 repeat' first | (refine ⟨by omega, ?_⟩) | (intro _)
 refine hK _ ?_; clear hK K
 refine zbr ?_
 refine AW_r rfl rfl fun K hK => ?_
 simp (disch := omega) [zbd, gE, tP]
 repeat' first | (refine ⟨by omega, ?_⟩) | (intro _)
 refine hK _ ?_; clear hK K
 refine zbu rfl (fun hc44 => ?_) (fun hc44 => ?_)
 ·try simp at hc44
  all_goals
   refine AW_r rfl rfl fun K hK => ?_
   simp (disch := omega) [zbd, gE, tP]
   repeat' first | (exfalso; omega) | (refine ⟨fun _ => ?_, fun _ => ?_⟩) | (refine ⟨by omega, ?_⟩) | (intro _)
   all_goals (refine hK _ ?_; clear hK K)
   all_goals
    refine zby (zcd ?_)
    simp (disch := omega) [zbd, gE, tP]
    all_goals first | (exact zcl heq) | (refine zci fun heq => ?_; subst heq; simp_all [zbg, zbf, zb6]; done) | (refine (zci fun heq => ?_).symm; subst heq; simp_all [zbg, zbf, zb6]; done) | simp_all [zb6]
 try simp at hc44
 refine zbv ?_
 refine zb4 ?_
 refine zbr ?_
 refine AW_r rfl rfl fun K hK => ?_
 simp (disch := omega) [zbd, gE, tP]
 repeat' first | (exfalso; omega) | (refine ⟨fun _ => ?_, fun _ => ?_⟩) | (refine ⟨by omega, ?_⟩) | (intro _)
 all_goals (refine hK _ ?_; clear hK K)
 all_goals
  refine zb0 ?_
  refine zcf (fun mM sS => ∃ (i : Nat), mM = xs.length - i ∧ (i ≤ xs.length ∧ ∀ j, j < i → xs[j]? = ys[j]?) ∧ sS = { env := lkE [(0, .sl 8 (xs.map DtCmd.cells)), (1, .sl 8 (ys.map DtCmd.cells)), (5, (.g (.int .i64 ((i : Nat)))))], ob := formOb [] [] }) ?_ ?_
  ·refine ⟨_, LeS.kp [(0, .sl 8 (xs.map DtCmd.cells)), (1, .sl 8 (ys.map DtCmd.cells)), (5, (.g (.int .i64 (((0) : Nat)))))] (by simp [KpE, zbl, zb5, zbi]; try rfl), _, 0, rfl, ?_, rfl⟩
   ·simp
  ·rintro mM sS ⟨i, rfl, ⟨hi, hpre⟩, rfl⟩
   refine zbr ?_
   refine AW_r rfl rfl fun K hK => ?_
   simp (disch := omega) [zbd, gE, tP, DtCmd.cells]
   repeat' first | (refine ⟨by omega, ?_⟩) | (intro _)
   refine hK _ ?_; clear hK K
   refine zbu rfl (fun hc45 => ?_) (fun hc45 => ?_)
   ·try simp at hc45
    all_goals
     have h7 : i < ys.length := by omega
     have hsE : DtCmd.sz xs[i] ≤ 1048576 := by have := zdp DtCmd.sz_nonneg xs xs[i] (List.getElem_mem _); simp only [szS] at hs; omega
     refine zbv ?_
     refine zb4 ?_
     refine zbr ?_
     refine zb0 ?_
     refine AW_q rfl mix (by kernel_rfl) rfl fun K hK => ?_
     simp (disch := omega) [zbd, gE, tP, DtCmd.cells]
     repeat' first | (exfalso; omega) | (refine zco (zbh (zcb rfl) (zbh (zcb rfl) zbs)) (eqCmd _ _ (by first | assumption | omega)) rfl ?_; simp (disch := omega) [zbd, gE, tP, DtCmd.cells]) | (refine ⟨fun _ => ?_, fun _ => ?_⟩) | (refine ⟨by omega, ?_⟩) | (intro _)
     all_goals (refine hK _ ?_; clear hK K)
     all_goals
      refine zbu rfl (fun hc46 => ?_) (fun hc46 => ?_)
      ·try simp at hc46
       all_goals
        refine AW_r rfl rfl fun K hK => ?_
        simp (disch := omega) [zbd, gE, tP, DtCmd.cells]
        repeat' first | (exfalso; omega) | (refine ⟨fun _ => ?_, fun _ => ?_⟩) | (refine ⟨by omega, ?_⟩) | (intro _)
        all_goals (refine hK _ ?_; clear hK K)
        all_goals
         refine zby (zcd ?_)
         simp (disch := omega) [zbd, gE, tP, DtCmd.cells]
         all_goals first | (exact zcl heq) | (refine zci fun heq => ?_; subst heq; simp_all [zbg, zbf, zb6]; done) | (refine (zci fun heq => ?_).symm; subst heq; simp_all [zbg, zbf, zb6]; done) | simp_all [zb6]
      try simp at hc46
      refine zbv ?_
      refine zb4 ?_
      refine zdi rfl rfl fun K hK => ?_
      simp (disch := omega) [zbd, gE, tP, DtCmd.cells]
      repeat' first | (exfalso; omega) | (refine ⟨fun _ => ?_, fun _ => ?_⟩) | (refine ⟨by omega, ?_⟩) | (intro _)
      all_goals (refine hK _ ?_; clear hK K)
      all_goals
       refine ⟨_, LeS.kp [(0, .sl 8 (xs.map DtCmd.cells)), (1, .sl 8 (ys.map DtCmd.cells)), (5, (.g (.int .i64 (((i + 1) : Nat)))))] (by simp [KpE, zbl, zb5, zbi]; try rfl), _, ?_, i + 1, rfl, ?_, rfl⟩
       ·omega
       ·refine ⟨by omega, fun j hj => ?_⟩
        by_cases hji : j = i
        ·subst hji; simp_all [zbg, zbf]
        ·exact hpre j (by omega)
   try simp at hc45
   have hi2 : i = xs.length := by omega
   subst hi2
   have heq : xs = ys := List.ext_getElem? fun j => by
    by_cases hj : j < xs.length
    ·exact hpre j hj
    ·rw [List.getElem?_eq_none (by omega), List.getElem?_eq_none (by omega)]
   refine zch ?_
   refine zb4 ?_
   refine AW_r rfl rfl fun K hK => ?_
   simp (disch := omega) [zbd, gE, tP, DtCmd.cells]
   repeat' first | (exfalso; omega) | (refine ⟨fun _ => ?_, fun _ => ?_⟩) | (refine ⟨by omega, ?_⟩) | (intro _)
   all_goals (refine hK _ ?_; clear hK K)
   all_goals
    refine zby (zcd ?_)
    simp (disch := omega) [zbd, gE, tP, DtCmd.cells]
    all_goals first | (exact zcl heq) | (refine zci fun heq => ?_; subst heq; simp_all [zbg, zbf, zb6]; done) | (refine (zci fun heq => ?_).symm; subst heq; simp_all [zbg, zbf, zb6]; done) | simp_all [zb6]
end Go.Proofs.YtfbmhgiokfpgiaaGreat.Vs
