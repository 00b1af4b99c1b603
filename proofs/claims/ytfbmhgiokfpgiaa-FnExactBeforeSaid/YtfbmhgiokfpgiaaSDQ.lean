import Derived.Test.YtfbmhgiokfpgiaaVs9
import Derived.Test.YtfbmhgiokfpgiaaSCT
open Go Go.Proofs Go.Proofs.Ytfbmhgiokfpgiaa.Vs
namespace Go.Proofs.Ytfbmhgiokfpgiaa.Vs
set_option linter.all false
set_option linter.unusedSimpArgs false
set_option linter.unusedVariables false
attribute [local simp] DtId.cells
theorem toId (u : DtId) : PCall Try.prog 15 [.agg (DtId.cells u)] (.agg (DtId.cells u)) := by
 refine zbu Try.func15 (by rfl) (by rfl) (by rw [Try.ntmps15]; exact Nat.le_of_ble_eq_true rfl) rfl (by decide) ?_
 rw [Try.ntmps15]
 refine AW_k [(0, _)] ⟨rfl, trivial⟩ ?_
 refine AW_r rfl rfl fun K hK => ?_
 simp
 repeat' first | (refine ⟨by omega, ?_⟩) | (intro _)
 refine hK _ ?_; clear hK K
 refine AW_r rfl rfl fun K hK => ?_
 simp
 repeat' first | (refine ⟨by omega, ?_⟩) | (intro _)
 refine hK _ ?_; clear hK K
 refine AW_r rfl rfl fun K hK => ?_
 simp
 repeat' first | (refine ⟨by omega, ?_⟩) | (intro _)
 refine hK _ ?_; clear hK K
 refine AW_r rfl rfl fun K hK => ?_
 simp
 repeat' first | (refine ⟨by omega, ?_⟩) | (intro _)
 refine hK _ ?_; clear hK K
 refine AW_r rfl rfl fun K hK => ?_
 simp
 repeat' first | (refine ⟨by omega, ?_⟩) | (intro _)
 refine hK _ ?_; clear hK K
 refine zbz (zcb ?_)
 simp
 all_goals first | omega | (simp_all; done) | (simp [List.take_of_length_le]; done) | ((try simp_all); (try simp (disch := omega) only [zbd, Int.tdiv_eq_ediv_of_nonneg, Int.tmod_eq_emod_of_nonneg, and_true, true_and]); done) | ((try simp_all); (try simp (disch := omega) only [zbd, Int.tdiv_eq_ediv_of_nonneg, Int.tmod_eq_emod_of_nonneg, and_true, true_and] at *); omega)
theorem eqId (u v : DtId) : PCall Try.prog 23 [.agg (DtId.cells u), .agg (DtId.cells v)] (.g (.bool (eqB u v))) := by
 have he := DtId.ext_iff u v
 refine zbu Try.func23 (by rfl) (by rfl) (by rw [Try.ntmps23]; exact Nat.le_of_ble_eq_true rfl) rfl (by decide) ?_
 rw [Try.ntmps23]
 refine AW_k [(0, _), (1, _)] ⟨rfl, rfl, trivial⟩ ?_
 refine AW_r rfl rfl fun K hK => ?_
 simp
 repeat' first | (refine ⟨by omega, ?_⟩) | (intro _)
 refine hK _ ?_; clear hK K
 refine zbt ?_
 refine AW_r rfl rfl fun K hK => ?_
 simp
 repeat' first | (refine ⟨by omega, ?_⟩) | (intro _)
 refine hK _ ?_; clear hK K
 refine zbv rfl (fun hc1 => ?_) (fun hc1 => ?_)
 ·try simp at hc1
  all_goals
   refine AW_r rfl rfl fun K hK => ?_
   simp
   repeat' first | (refine ⟨fun _ => ?_, fun _ => ?_⟩) | (refine ⟨by omega, ?_⟩) | (intro _)
   all_goals (refine hK _ ?_; clear hK K)
   all_goals
    refine zbz (zcb ?_)
    simp
    all_goals first | (refine zch (he.mpr ?_); simp_all [zbf, zbe]; done) | (refine zcd fun h => ?_; rw [he] at h; simp_all [zbf, zbe, zb5]; done) | (refine (zch (he.mpr ?_)).symm; simp_all [zbf, zbe]; done) | (refine (zcd fun h => ?_).symm; rw [he] at h; simp_all [zbf, zbe, zb5]; done)
 try simp at hc1
 refine zbw ?_
 refine zb3 ?_
 refine zbt ?_
 refine AW_r rfl rfl fun K hK => ?_
 simp
 repeat' first | (refine ⟨fun _ => ?_, fun _ => ?_⟩) | (refine ⟨by omega, ?_⟩) | (intro _)
 all_goals (refine hK _ ?_; clear hK K)
 all_goals
  refine zbv rfl (fun hc2 => ?_) (fun hc2 => ?_)
  ·try simp at hc2
   all_goals
    refine AW_r rfl rfl fun K hK => ?_
    simp
    repeat' first | (refine ⟨fun _ => ?_, fun _ => ?_⟩) | (refine ⟨by omega, ?_⟩) | (intro _)
    all_goals (refine hK _ ?_; clear hK K)
    all_goals
     refine zbz (zcb ?_)
     simp
     all_goals first | (refine zch (he.mpr ?_); simp_all [zbf, zbe]; done) | (refine zcd fun h => ?_; rw [he] at h; simp_all [zbf, zbe, zb5]; done) | (refine (zch (he.mpr ?_)).symm; simp_all [zbf, zbe]; done) | (refine (zcd fun h => ?_).symm; rw [he] at h; simp_all [zbf, zbe, zb5]; done)
  try simp at hc2
  refine zbw ?_
  refine zb3 ?_
  refine AW_r rfl rfl fun K hK => ?_
  simp
  repeat' first | (refine ⟨fun _ => ?_, fun _ => ?_⟩) | (refine ⟨by omega, ?_⟩) | (intro _)
  all_goals (refine hK _ ?_; clear hK K)
  all_goals
   refine zbz (zcb ?_)
   simp
   all_goals first | (refine zch (he.mpr ?_); simp_all [zbf, zbe]; done) | (refine zcd fun h => ?_; rw [he] at h; simp_all [zbf, zbe, zb5]; done) | (refine (zch (he.mpr ?_)).symm; simp_all [zbf, zbe]; done) | (refine (zcd fun h => ?_).symm; rw [he] at h; simp_all [zbf, zbe, zb5]; done)
attribute [local simp] szR
attribute [-simp] DtId.cells
theorem zzo (xs : List (List UInt8)) (n : Int) (hn : 0 ≤ n ∧ n ≤ 1048576) (hw : (wfS wfL) xs) : PCall Try.prog 46 [.sl 1 (xs.map cS), (.g (.int .i64 (n)))] (.g (.int .i64 (szR n (szS lenZ xs)))) := by
 have hq := zcp zcy xs
 have hw1 := hw.1
 refine zbu Try.func46 (by rfl) (by rfl) (by rw [Try.ntmps46]; exact Nat.le_of_ble_eq_true rfl) rfl (by decide) ?_
 rw [Try.ntmps46]
 refine AW_k [(0, _), (1, _)] ⟨rfl, rfl, trivial⟩ ?_
 refine AW_r rfl rfl fun K hK => ?_
 simp (disch := omega)
 repeat' first | (refine ⟨by omega, ?_⟩) | (intro _)
 refine hK _ ?_; clear hK K
 refine AW_r rfl rfl fun K hK => ?_
 simp (disch := omega)
 repeat' first | (refine ⟨by omega, ?_⟩) | (intro _)
 refine hK _ ?_; clear hK K
 refine zbt ?_
 refine AW_r rfl rfl fun K hK => ?_
 simp (disch := omega)
 repeat' first | (refine ⟨by omega, ?_⟩) | (intro _)
 refine hK _ ?_; clear hK K
 refine zbv rfl (fun hc3 => ?_) (fun hc3 => ?_)
 ·try simp at hc3
  all_goals
   refine AW_r rfl rfl fun K hK => ?_
   simp (disch := omega)
   repeat' first | (exfalso; omega) | (refine ⟨fun _ => ?_, fun _ => ?_⟩) | (refine ⟨by omega, ?_⟩) | (intro _)
   all_goals (refine hK _ ?_; clear hK K)
   all_goals
    refine zbz (zcb ?_)
    simp (disch := omega) [szS]
    all_goals first | omega | (split <;> omega)
 try simp at hc3
 refine zbw ?_
 refine zb3 ?_
 refine zbt ?_
 refine AW_r rfl rfl fun K hK => ?_
 simp (disch := omega)
 repeat' first | (exfalso; omega) | (refine ⟨fun _ => ?_, fun _ => ?_⟩) | (refine ⟨by omega, ?_⟩) | (intro _)
 all_goals (refine hK _ ?_; clear hK K)
 all_goals
  refine zb0 ?_
  refine zcc (fun mM sS => ∃ (i : Nat), mM = xs.length - i ∧ (i ≤ xs.length ∧ 0 ≤ n - xs.length - sumZ lenZ (xs.take i)) ∧ sS = { env := lkE [(0, .sl 1 (xs.map cS)), (1, (.g (.int .i64 (n - xs.length - sumZ lenZ (xs.take i))))), (5, (.g (.int .i64 ((i : Nat)))))], ob := formOb [] [] }) ?_ ?_
  ·refine ⟨_, LeS.kp [(0, .sl 1 (xs.map cS)), (1, (.g (.int .i64 (n - xs.length - sumZ lenZ (xs.take (0)))))), (5, (.g (.int .i64 (((0) : Nat)))))] (by simp [KpE, zbn, zb4, zbk, zff]; try first | rfl | omega), _, 0, rfl, ?_, rfl⟩
   ·simp [zff]; omega
  ·rintro mM sS ⟨i, rfl, ⟨hi, hn⟩, rfl⟩
   have hz := zcp zcy (xs.take i)
   have hz2 := zfy zcy xs i
   refine zbt ?_
   refine AW_r rfl rfl fun K hK => ?_
   simp (disch := omega) [cS, lenZ]
   repeat' first | (refine ⟨by omega, ?_⟩) | (intro _)
   refine hK _ ?_; clear hK K
   refine zbv rfl (fun hc4 => ?_) (fun hc4 => ?_)
   ·try simp at hc4
    all_goals
     have hl := zqu (f := lenZ) xs i (by omega)
     have hwE : wfL xs[i] := hw.2 _ (List.getElem_mem _)
     have hwE2 : xs[i].length ≤ 9223372036854775807 := hwE
     simp only [lenZ] at hl
     have hz3 := zfy zcy xs (i + 1)
     refine zbw ?_
     refine zb3 ?_
     refine zbt ?_
     refine zb0 ?_
     refine AW_r rfl rfl fun K hK => ?_
     simp (disch := omega) [cS, lenZ]
     repeat' first | (exfalso; omega) | (refine ⟨fun _ => ?_, fun _ => ?_⟩) | (refine ⟨by omega, ?_⟩) | (intro _)
     all_goals (refine hK _ ?_; clear hK K)
     all_goals
      refine AW_r rfl rfl fun K hK => ?_
      simp (disch := omega) [cS, lenZ]
      repeat' first | (refine ⟨by omega, ?_⟩) | (intro _)
      refine hK _ ?_; clear hK K
      refine zbv rfl (fun hc5 => ?_) (fun hc5 => ?_)
      ·try simp at hc5
       all_goals
        refine AW_r rfl rfl fun K hK => ?_
        simp (disch := omega) [cS, lenZ]
        repeat' first | (exfalso; omega) | (refine ⟨fun _ => ?_, fun _ => ?_⟩) | (refine ⟨by omega, ?_⟩) | (intro _)
        all_goals (refine hK _ ?_; clear hK K)
        all_goals
         refine zbz (zcb ?_)
         simp (disch := omega) [cS, lenZ, szS]
         all_goals first | omega | (split <;> omega)
      try simp at hc5
      refine zbw ?_
      refine zb3 ?_
      refine zdf rfl rfl fun K hK => ?_
      simp (disch := omega) [cS, lenZ]
      repeat' first | (exfalso; omega) | (refine ⟨fun _ => ?_, fun _ => ?_⟩) | (refine ⟨by omega, ?_⟩) | (intro _)
      all_goals (refine hK _ ?_; clear hK K)
      all_goals
       refine ⟨_, LeS.kp [(0, .sl 1 (xs.map cS)), (1, (.g (.int .i64 (n - xs.length - sumZ lenZ (xs.take (i + 1)))))), (5, (.g (.int .i64 (((i + 1) : Nat)))))] (by simp [KpE, zbn, zb4, zbk, zff]; try first | rfl | omega), _, ?_, i + 1, rfl, ?_, rfl⟩
       ·omega
       ·omega
   try simp at hc4
   have hi2 : i = xs.length := by omega
   subst hi2
   simp only [List.take_length] at *
   refine zce ?_
   refine zb3 ?_
   refine AW_r rfl rfl fun K hK => ?_
   simp (disch := omega) [cS, lenZ]
   repeat' first | (exfalso; omega) | (refine ⟨fun _ => ?_, fun _ => ?_⟩) | (refine ⟨by omega, ?_⟩) | (intro _)
   all_goals (refine hK _ ?_; clear hK K)
   all_goals
    refine zbz (zcb ?_)
    simp (disch := omega) [cS, lenZ, szS]
    all_goals first | omega | (split <;> omega)
attribute [-simp] szR
theorem zzp (xs ys : List (List UInt8)) (hs : szS lenZ xs ≤ 1048576) : PCall Try.prog 63 [.sl 1 (xs.map cS), .sl 1 (ys.map cS)] (.g (.bool (eqB xs ys))) := by
 have hn : xs.length ≤ 1048576 := by have := zcp zcy xs; simp only [szS] at hs; omega
 refine zbu Try.func63 (by rfl) (by rfl) (by rw [Try.ntmps63]; exact Nat.le_of_ble_eq_true rfl) rfl (by decide) ?_
 rw [Try.ntmps63]
 refine AW_k [(0, _), (1, _)] ⟨rfl, rfl, trivial⟩ ?_
 refine AW_r rfl rfl fun K hK => ?_
 simp (disch := omega)
 repeat' first | (refine ⟨by omega, ?_⟩) | (intro _)
 refine hK _ ?_; clear hK K
 refine zbt ?_
 refine AW_r rfl rfl fun K hK => ?_
 simp (disch := omega)
 repeat' first | (refine ⟨by omega, ?_⟩) | (intro _)
 refine hK _ ?_; clear hK K
 refine zbv rfl (fun hc7 => ?_) (fun hc7 => ?_)
 ·try simp at hc7
  all_goals
   refine AW_r rfl rfl fun K hK => ?_
   simp (disch := omega)
   repeat' first | (exfalso; omega) | (refine ⟨fun _ => ?_, fun _ => ?_⟩) | (refine ⟨by omega, ?_⟩) | (intro _)
   all_goals (refine hK _ ?_; clear hK K)
   all_goals
    refine zbz (zcb ?_)
    simp (disch := omega)
    all_goals first | (exact zch heq) | (refine zcd fun heq => ?_; subst heq; simp_all [zbf, zbe, zb5]; done) | (refine (zcd fun heq => ?_).symm; subst heq; simp_all [zbf, zbe, zb5]; done) | simp_all [zb5]
 try simp at hc7
 refine zbw ?_
 refine zb3 ?_
 refine zbt ?_
 refine AW_r rfl rfl fun K hK => ?_
 simp (disch := omega)
 repeat' first | (exfalso; omega) | (refine ⟨fun _ => ?_, fun _ => ?_⟩) | (refine ⟨by omega, ?_⟩) | (intro _)
 all_goals (refine hK _ ?_; clear hK K)
 all_goals
  refine zb0 ?_
  refine zcc (fun mM sS => ∃ (i : Nat), mM = xs.length - i ∧ (i ≤ xs.length ∧ ∀ j, j < i → xs[j]? = ys[j]?) ∧ sS = { env := lkE [(0, .sl 1 (xs.map cS)), (1, .sl 1 (ys.map cS)), (5, (.g (.int .i64 ((i : Nat)))))], ob := formOb [] [] }) ?_ ?_
  ·refine ⟨_, LeS.kp [(0, .sl 1 (xs.map cS)), (1, .sl 1 (ys.map cS)), (5, (.g (.int .i64 (((0) : Nat)))))] (by simp [KpE, zbn, zb4, zbk]; try rfl), _, 0, rfl, ?_, rfl⟩
   ·simp
  ·rintro mM sS ⟨i, rfl, ⟨hi, hpre⟩, rfl⟩
   refine zbt ?_
   refine AW_r rfl rfl fun K hK => ?_
   simp (disch := omega) [cS]
   repeat' first | (refine ⟨by omega, ?_⟩) | (intro _)
   refine hK _ ?_; clear hK K
   refine zbv rfl (fun hc8 => ?_) (fun hc8 => ?_)
   ·try simp at hc8
    all_goals
     have h7 : i < ys.length := by omega
     refine zbw ?_
     refine zb3 ?_
     refine zbt ?_
     refine zb0 ?_
     refine AW_q rfl mix (by kernel_rfl) rfl fun K hK => ?_
     simp (disch := omega) [cS]
     repeat' first | (exfalso; omega) | (refine ⟨fun _ => ?_, fun _ => ?_⟩) | (refine ⟨by omega, ?_⟩) | (intro _)
     all_goals (refine hK _ ?_; clear hK K)
     all_goals
      refine zbv rfl (fun hc9 => ?_) (fun hc9 => ?_)
      ·try simp at hc9
       all_goals
        refine AW_r rfl rfl fun K hK => ?_
        simp (disch := omega) [cS]
        repeat' first | (exfalso; omega) | (refine ⟨fun _ => ?_, fun _ => ?_⟩) | (refine ⟨by omega, ?_⟩) | (intro _)
        all_goals (refine hK _ ?_; clear hK K)
        all_goals
         refine zbz (zcb ?_)
         simp (disch := omega) [cS]
         all_goals first | (exact zch heq) | (refine zcd fun heq => ?_; subst heq; simp_all [zbf, zbe, zb5]; done) | (refine (zcd fun heq => ?_).symm; subst heq; simp_all [zbf, zbe, zb5]; done) | simp_all [zb5]
      try simp at hc9
      refine zbw ?_
      refine zb3 ?_
      refine zdf rfl rfl fun K hK => ?_
      simp (disch := omega) [cS]
      repeat' first | (exfalso; omega) | (refine ⟨fun _ => ?_, fun _ => ?_⟩) | (refine ⟨by omega, ?_⟩) | (intro _)
      all_goals (refine hK _ ?_; clear hK K)
      all_goals
       refine ⟨_, LeS.kp [(0, .sl 1 (xs.map cS)), (1, .sl 1 (ys.map cS)), (5, (.g (.int .i64 (((i + 1) : Nat)))))] (by simp [KpE, zbn, zb4, zbk]; try rfl), _, ?_, i + 1, rfl, ?_, rfl⟩
       ·omega
       ·refine ⟨by omega, fun j hj => ?_⟩
        by_cases hji : j = i
        ·subst hji; simp_all [zbf, zbe]
        ·exact hpre j (by omega)
   try simp at hc8
   have hi2 : i = xs.length := by omega
   subst hi2
   have heq : xs = ys := List.ext_getElem? fun j => by
    by_cases hj : j < xs.length
    ·exact hpre j hj
    ·rw [List.getElem?_eq_none (by omega), List.getElem?_eq_none (by omega)]
   refine zce ?_
   refine zb3 ?_
   refine AW_r rfl rfl fun K hK => ?_
   simp (disch := omega) [cS]
   repeat' first | (exfalso; omega) | (refine ⟨fun _ => ?_, fun _ => ?_⟩) | (refine ⟨by omega, ?_⟩) | (intro _)
   all_goals (refine hK _ ?_; clear hK K)
   all_goals
    refine zbz (zcb ?_)
    simp (disch := omega) [cS]
    all_goals first | (exact zch heq) | (refine zcd fun heq => ?_; subst heq; simp_all [zbf, zbe, zb5]; done) | (refine (zcd fun heq => ?_).symm; subst heq; simp_all [zbf, zbe, zb5]; done) | simp_all [zb5]
attribute [local simp] szR DtCmd.cells
theorem szCmd (u : DtCmd) (n : Int) (hn : 0 ≤ n ∧ n ≤ 1048576) (hw : DtCmd.wf u) : PCall Try.prog 31 [.agg (DtCmd.cells u), (.g (.int .i64 (n)))] (.g (.int .i64 (szR n (DtCmd.sz u)))) := by
 have ⟨w0, w1, w2, w3, w4, w5, w6, w7⟩ := hw
 have w32 : u.fSet.length ≤ 9223372036854775807 := w3
 have w42 : u.fName.length ≤ 9223372036854775807 := w4
 have w52 : u.fTag.length ≤ 9223372036854775807 := w5
 have w72 := w7.1
 have z7 := (zg6 zcy) u.fChunks
 refine zbu Try.func31 (by rfl) (by rfl) (by rw [Try.ntmps31]; exact Nat.le_of_ble_eq_true rfl) rfl (by decide) ?_
 rw [Try.ntmps31]
 refine AW_k [(0, _), (1, _)] ⟨rfl, rfl, trivial⟩ ?_
 refine AW_r rfl rfl fun K hK => ?_
 simp (disch := omega)
 repeat' first | (refine ⟨by omega, ?_⟩) | (intro _)
 refine hK _ ?_; clear hK K
 refine AW_r rfl rfl fun K hK => ?_
 simp (disch := omega)
 repeat' first | (refine ⟨by omega, ?_⟩) | (intro _)
 refine hK _ ?_; clear hK K
 refine zbt ?_
 refine AW_r rfl rfl fun K hK => ?_
 simp (disch := omega)
 repeat' first | (refine ⟨by omega, ?_⟩) | (intro _)
 refine hK _ ?_; clear hK K
 refine zbv rfl (fun hc10 => ?_) (fun hc10 => ?_)
 ·try simp at hc10
  all_goals
   refine AW_r rfl rfl fun K hK => ?_
   simp (disch := omega)
   repeat' first | (exfalso; omega) | (refine ⟨fun _ => ?_, fun _ => ?_⟩) | (refine ⟨by omega, ?_⟩) | (intro _)
   all_goals (refine hK _ ?_; clear hK K)
   all_goals
    refine zbz (zcb ?_)
    simp (disch := omega) [DtCmd.sz]
    all_goals first | omega | (simp_all; done) | (split <;> omega) | (split <;> simp_all <;> omega) | (simp_all [szR]; omega)
 try simp at hc10
 refine zbw ?_
 refine zb3 ?_
 refine AW_r rfl rfl fun K hK => ?_
 simp (disch := omega)
 repeat' first | (exfalso; omega) | (refine ⟨fun _ => ?_, fun _ => ?_⟩) | (refine ⟨by omega, ?_⟩) | (intro _)
 all_goals (refine hK _ ?_; clear hK K)
 all_goals
  refine zbt ?_
  refine AW_r rfl rfl fun K hK => ?_
  simp (disch := omega)
  repeat' first | (refine ⟨by omega, ?_⟩) | (intro _)
  refine hK _ ?_; clear hK K
  refine zbv rfl (fun hc11 => ?_) (fun hc11 => ?_)
  ·try simp at hc11
   all_goals
    refine AW_r rfl rfl fun K hK => ?_
    simp (disch := omega)
    repeat' first | (exfalso; omega) | (refine ⟨fun _ => ?_, fun _ => ?_⟩) | (refine ⟨by omega, ?_⟩) | (intro _)
    all_goals (refine hK _ ?_; clear hK K)
    all_goals
     refine zbz (zcb ?_)
     simp (disch := omega) [DtCmd.sz]
     all_goals first | omega | (simp_all; done) | (split <;> omega) | (split <;> simp_all <;> omega) | (simp_all [szR]; omega)
  try simp at hc11
  refine zbw ?_
  refine zb3 ?_
  refine AW_r rfl rfl fun K hK => ?_
  simp (disch := omega)
  repeat' first | (exfalso; omega) | (refine ⟨fun _ => ?_, fun _ => ?_⟩) | (refine ⟨by omega, ?_⟩) | (intro _)
  all_goals (refine hK _ ?_; clear hK K)
  all_goals
   refine zbt ?_
   refine AW_r rfl rfl fun K hK => ?_
   simp (disch := omega)
   repeat' first | (refine ⟨by omega, ?_⟩) | (intro _)
   refine hK _ ?_; clear hK K
   refine zbv rfl (fun hc12 => ?_) (fun hc12 => ?_)
   ·try simp at hc12
    all_goals
     refine AW_r rfl rfl fun K hK => ?_
     simp (disch := omega)
     repeat' first | (exfalso; omega) | (refine ⟨fun _ => ?_, fun _ => ?_⟩) | (refine ⟨by omega, ?_⟩) | (intro _)
     all_goals (refine hK _ ?_; clear hK K)
     all_goals
      refine zbz (zcb ?_)
      simp (disch := omega) [DtCmd.sz]
      all_goals first | omega | (simp_all; done) | (split <;> omega) | (split <;> simp_all <;> omega) | (simp_all [szR]; omega)
   try simp at hc12
   refine zbw ?_
   refine zb3 ?_
   refine AW_r rfl rfl fun K hK => ?_
   simp (disch := omega)
   repeat' first | (exfalso; omega) | (refine zck (zbg zca (zbg zc5 zbr)) (zzo _ _ (by omega) (by assumption)) rfl ?_; simp (disch := omega)) | (refine ⟨fun _ => ?_, fun _ => ?_⟩) | (refine ⟨by omega, ?_⟩) | (intro _)
   all_goals (refine hK _ ?_; clear hK K)
   all_goals
    refine zbt ?_
    refine AW_r rfl rfl fun K hK => ?_
    simp (disch := omega)
    repeat' first | (refine ⟨by omega, ?_⟩) | (intro _)
    refine hK _ ?_; clear hK K
    refine zbv rfl (fun hc13 => ?_) (fun hc13 => ?_)
    ·try simp at hc13
     all_goals
      refine AW_r rfl rfl fun K hK => ?_
      simp (disch := omega)
      repeat' first | (exfalso; omega) | (refine ⟨fun _ => ?_, fun _ => ?_⟩) | (refine ⟨by omega, ?_⟩) | (intro _)
      all_goals (refine hK _ ?_; clear hK K)
      all_goals
       refine zbz (zcb ?_)
       simp (disch := omega) [DtCmd.sz]
       all_goals first | omega | (simp_all; done) | (split <;> omega) | (split <;> simp_all <;> omega) | (simp_all [szR]; omega)
    try simp at hc13
    refine zbw ?_
    refine zb3 ?_
    refine AW_r rfl rfl fun K hK => ?_
    simp (disch := omega)
    repeat' first | (exfalso; omega) | (refine ⟨fun _ => ?_, fun _ => ?_⟩) | (refine ⟨by omega, ?_⟩) | (intro _)
    all_goals (refine hK _ ?_; clear hK K)
    all_goals
     refine zbz (zcb ?_)
     simp (disch := omega) [DtCmd.sz]
     all_goals first | omega | (simp_all; done) | (split <;> omega) | (split <;> simp_all <;> omega) | (simp_all [szR]; omega)
attribute [-simp] szR
theorem eqCmd (u v : DtCmd) (hs : DtCmd.sz u ≤ 1048576) : PCall Try.prog 43 [.agg (DtCmd.cells u), .agg (DtCmd.cells v)] (.g (.bool (eqB u v))) := by
 simp only [DtCmd.sz] at hs
 have z7 := (zg6 zcy) u.fChunks
 have s3 : (u.fSet.length : Int) ≤ 1048576 := by omega
 have s4 : (u.fName.length : Int) ≤ 1048576 := by omega
 have s5 : (u.fTag.length : Int) ≤ 1048576 := by omega
 have s7 : szS lenZ u.fChunks ≤ 1048576 := by omega
 have he := DtCmd.ext_iff u v
 refine zbu Try.func43 (by rfl) (by rfl) (by rw [Try.ntmps43]; exact Nat.le_of_ble_eq_true rfl) rfl (by decide) ?_
 rw [Try.ntmps43]
 refine AW_k [(0, _), (1, _)] ⟨rfl, rfl, trivial⟩ ?_
 refine AW_r rfl rfl fun K hK => ?_
 simp
 repeat' first | (refine ⟨by omega, ?_⟩) | (intro _)
 refine hK _ ?_; clear hK K
 refine zbt ?_
 refine AW_r rfl rfl fun K hK => ?_
 simp
 repeat' first | (refine ⟨by omega, ?_⟩) | (intro _)
 refine hK _ ?_; clear hK K
 refine zbv rfl (fun hc14 => ?_) (fun hc14 => ?_)
 ·try simp at hc14
  all_goals
   refine AW_r rfl rfl fun K hK => ?_
   simp
   repeat' first | (refine ⟨fun _ => ?_, fun _ => ?_⟩) | (refine ⟨by omega, ?_⟩) | (intro _)
   all_goals (refine hK _ ?_; clear hK K)
   all_goals
    refine zbz (zcb ?_)
    simp
    all_goals first | (refine zch (he.mpr ?_); simp_all [zbf, zbe]; done) | (refine zcd fun h => ?_; rw [he] at h; simp_all [zbf, zbe, zb5]; done) | (refine (zch (he.mpr ?_)).symm; simp_all [zbf, zbe]; done) | (refine (zcd fun h => ?_).symm; rw [he] at h; simp_all [zbf, zbe, zb5]; done)
 try simp at hc14
 refine zbw ?_
 refine zb3 ?_
 refine zbt ?_
 refine AW_r rfl rfl fun K hK => ?_
 simp
 repeat' first | (refine ⟨fun _ => ?_, fun _ => ?_⟩) | (refine ⟨by omega, ?_⟩) | (intro _)
 all_goals (refine hK _ ?_; clear hK K)
 all_goals
  refine zbv rfl (fun hc15 => ?_) (fun hc15 => ?_)
  ·try simp at hc15
   all_goals
    refine AW_r rfl rfl fun K hK => ?_
    simp
    repeat' first | (refine ⟨fun _ => ?_, fun _ => ?_⟩) | (refine ⟨by omega, ?_⟩) | (intro _)
    all_goals (refine hK _ ?_; clear hK K)
    all_goals
     refine zbz (zcb ?_)
     simp
     all_goals first | (refine zch (he.mpr ?_); simp_all [zbf, zbe]; done) | (refine zcd fun h => ?_; rw [he] at h; simp_all [zbf, zbe, zb5]; done) | (refine (zch (he.mpr ?_)).symm; simp_all [zbf, zbe]; done) | (refine (zcd fun h => ?_).symm; rw [he] at h; simp_all [zbf, zbe, zb5]; done)
  try simp at hc15
  refine zbw ?_
  refine zb3 ?_
  refine zbt ?_
  refine AW_r rfl rfl fun K hK => ?_
  simp
  repeat' first | (refine ⟨fun _ => ?_, fun _ => ?_⟩) | (refine ⟨by omega, ?_⟩) | (intro _)
  all_goals (refine hK _ ?_; clear hK K)
  all_goals
   refine zbv rfl (fun hc16 => ?_) (fun hc16 => ?_)
   ·try simp at hc16
    all_goals
     refine AW_r rfl rfl fun K hK => ?_
     simp
     repeat' first | (refine ⟨fun _ => ?_, fun _ => ?_⟩) | (refine ⟨by omega, ?_⟩) | (intro _)
     all_goals (refine hK _ ?_; clear hK K)
     all_goals
      refine zbz (zcb ?_)
      simp
      all_goals first | (refine zch (he.mpr ?_); simp_all [zbf, zbe]; done) | (refine zcd fun h => ?_; rw [he] at h; simp_all [zbf, zbe, zb5]; done) | (refine (zch (he.mpr ?_)).symm; simp_all [zbf, zbe]; done) | (refine (zcd fun h => ?_).symm; rw [he] at h; simp_all [zbf, zbe, zb5]; done)
   try simp at hc16
   refine zbw ?_
   refine zb3 ?_
   refine zbt ?_
   refine AW_r rfl rfl fun K hK => ?_
   simp
   repeat' first | (refine ⟨fun _ => ?_, fun _ => ?_⟩) | (refine ⟨by omega, ?_⟩) | (intro _)
   all_goals (refine hK _ ?_; clear hK K)
   all_goals
    refine zbv rfl (fun hc17 => ?_) (fun hc17 => ?_)
    ·try simp at hc17
     all_goals
      refine AW_r rfl rfl fun K hK => ?_
      simp
      repeat' first | (refine ⟨fun _ => ?_, fun _ => ?_⟩) | (refine ⟨by omega, ?_⟩) | (intro _)
      all_goals (refine hK _ ?_; clear hK K)
      all_goals
       refine zbz (zcb ?_)
       simp
       all_goals first | (refine zch (he.mpr ?_); simp_all [zbf, zbe]; done) | (refine zcd fun h => ?_; rw [he] at h; simp_all [zbf, zbe, zb5]; done) | (refine (zch (he.mpr ?_)).symm; simp_all [zbf, zbe]; done) | (refine (zcd fun h => ?_).symm; rw [he] at h; simp_all [zbf, zbe, zb5]; done)
    try simp at hc17
    refine zbw ?_
    refine zb3 ?_
    refine zbt ?_
    refine AW_r rfl rfl fun K hK => ?_
    simp
    repeat' first | (refine ⟨fun _ => ?_, fun _ => ?_⟩) | (refine ⟨by omega, ?_⟩) | (intro _)
    all_goals (refine hK _ ?_; clear hK K)
    all_goals
     refine zbv rfl (fun hc18 => ?_) (fun hc18 => ?_)
     ·try simp at hc18
      all_goals
       refine AW_r rfl rfl fun K hK => ?_
       simp
       repeat' first | (refine ⟨fun _ => ?_, fun _ => ?_⟩) | (refine ⟨by omega, ?_⟩) | (intro _)
       all_goals (refine hK _ ?_; clear hK K)
       all_goals
        refine zbz (zcb ?_)
        simp
        all_goals first | (refine zch (he.mpr ?_); simp_all [zbf, zbe]; done) | (refine zcd fun h => ?_; rw [he] at h; simp_all [zbf, zbe, zb5]; done) | (refine (zch (he.mpr ?_)).symm; simp_all [zbf, zbe]; done) | (refine (zcd fun h => ?_).symm; rw [he] at h; simp_all [zbf, zbe, zb5]; done)
     try simp at hc18
     refine zbw ?_
     refine zb3 ?_
     refine zbt ?_
     refine AW_r rfl rfl fun K hK => ?_
     simp
     repeat' first | (refine ⟨fun _ => ?_, fun _ => ?_⟩) | (refine ⟨by omega, ?_⟩) | (intro _)
     all_goals (refine hK _ ?_; clear hK K)
     all_goals
      refine zbv rfl (fun hc19 => ?_) (fun hc19 => ?_)
      ·try simp at hc19
       all_goals
        refine AW_r rfl rfl fun K hK => ?_
        simp
        repeat' first | (refine ⟨fun _ => ?_, fun _ => ?_⟩) | (refine ⟨by omega, ?_⟩) | (intro _)
        all_goals (refine hK _ ?_; clear hK K)
        all_goals
         refine zbz (zcb ?_)
         simp
         all_goals first | (refine zch (he.mpr ?_); simp_all [zbf, zbe]; done) | (refine zcd fun h => ?_; rw [he] at h; simp_all [zbf, zbe, zb5]; done) | (refine (zch (he.mpr ?_)).symm; simp_all [zbf, zbe]; done) | (refine (zcd fun h => ?_).symm; rw [he] at h; simp_all [zbf, zbe, zb5]; done)
      try simp at hc19
      refine zbw ?_
      refine zb3 ?_
      refine zbt ?_
      refine AW_r rfl rfl fun K hK => ?_
      simp
      repeat' first | (refine ⟨fun _ => ?_, fun _ => ?_⟩) | (refine ⟨by omega, ?_⟩) | (intro _)
      all_goals (refine hK _ ?_; clear hK K)
      all_goals
       refine zbv rfl (fun hc20 => ?_) (fun hc20 => ?_)
       ·try simp at hc20
        all_goals
         refine AW_r rfl rfl fun K hK => ?_
         simp
         repeat' first | (refine ⟨fun _ => ?_, fun _ => ?_⟩) | (refine ⟨by omega, ?_⟩) | (intro _)
         all_goals (refine hK _ ?_; clear hK K)
         all_goals
          refine zbz (zcb ?_)
          simp
          all_goals first | (refine zch (he.mpr ?_); simp_all [zbf, zbe]; done) | (refine zcd fun h => ?_; rw [he] at h; simp_all [zbf, zbe, zb5]; done) | (refine (zch (he.mpr ?_)).symm; simp_all [zbf, zbe]; done) | (refine (zcd fun h => ?_).symm; rw [he] at h; simp_all [zbf, zbe, zb5]; done)
       try simp at hc20
       refine zbw ?_
       refine zb3 ?_
       refine zbt ?_
       refine AW_r rfl rfl fun K hK => ?_
       simp
       repeat' first | (refine zck (zbg zca (zbg zca zbr)) (zzp _ _ (by first | assumption | omega)) rfl ?_; simp) | (refine ⟨fun _ => ?_, fun _ => ?_⟩) | (refine ⟨by omega, ?_⟩) | (intro _)
       all_goals (refine hK _ ?_; clear hK K)
       all_goals
        refine zbv rfl (fun hc21 => ?_) (fun hc21 => ?_)
        ·try simp at hc21
         all_goals
          refine AW_r rfl rfl fun K hK => ?_
          simp
          repeat' first | (refine ⟨fun _ => ?_, fun _ => ?_⟩) | (refine ⟨by omega, ?_⟩) | (intro _)
          all_goals (refine hK _ ?_; clear hK K)
          all_goals
           refine zbz (zcb ?_)
           simp
           all_goals first | (refine zch (he.mpr ?_); simp_all [zbf, zbe]; done) | (refine zcd fun h => ?_; rw [he] at h; simp_all [zbf, zbe, zb5]; done) | (refine (zch (he.mpr ?_)).symm; simp_all [zbf, zbe]; done) | (refine (zcd fun h => ?_).symm; rw [he] at h; simp_all [zbf, zbe, zb5]; done)
        try simp at hc21
        refine zbw ?_
        refine zb3 ?_
        refine AW_r rfl rfl fun K hK => ?_
        simp
        repeat' first | (refine ⟨fun _ => ?_, fun _ => ?_⟩) | (refine ⟨by omega, ?_⟩) | (intro _)
        all_goals (refine hK _ ?_; clear hK K)
        all_goals
         refine zbz (zcb ?_)
         simp
         all_goals first | (refine zch (he.mpr ?_); simp_all [zbf, zbe]; done) | (refine zcd fun h => ?_; rw [he] at h; simp_all [zbf, zbe, zb5]; done) | (refine (zch (he.mpr ?_)).symm; simp_all [zbf, zbe]; done) | (refine (zcd fun h => ?_).symm; rw [he] at h; simp_all [zbf, zbe, zb5]; done)
attribute [local simp] szR
attribute [-simp] DtCmd.cells
theorem szIdS (xs : List DtId) (n : Int) (hn : 0 ≤ n ∧ n ≤ 1048576) (hw : (wfS DtId.wf) xs) : PCall Try.prog 32 [.sl 2 (xs.map DtId.cells), (.g (.int .i64 (n)))] (.g (.int .i64 (szR n xs.length))) := by
 have hw1 := hw.1
 refine zbu Try.func32 (by rfl) (by rfl) (by rw [Try.ntmps32]; exact Nat.le_of_ble_eq_true rfl) rfl (by decide) ?_
 rw [Try.ntmps32]
 refine AW_k [(0, _), (1, _)] ⟨rfl, rfl, trivial⟩ ?_
 refine AW_r rfl rfl fun K hK => ?_
 simp (disch := omega)
 repeat' first | (refine ⟨by omega, ?_⟩) | (intro _)
 refine hK _ ?_; clear hK K
 refine AW_r rfl rfl fun K hK => ?_
 simp (disch := omega)
 repeat' first | (refine ⟨by omega, ?_⟩) | (intro _)
 refine hK _ ?_; clear hK K
 refine zbt ?_
 refine AW_r rfl rfl fun K hK => ?_
 simp (disch := omega)
 repeat' first | (refine ⟨by omega, ?_⟩) | (intro _)
 refine hK _ ?_; clear hK K
 refine zbv rfl (fun hc22 => ?_) (fun hc22 => ?_)
 ·try simp at hc22
  all_goals
   refine AW_r rfl rfl fun K hK => ?_
   simp (disch := omega)
   repeat' first | (exfalso; omega) | (refine ⟨fun _ => ?_, fun _ => ?_⟩) | (refine ⟨by omega, ?_⟩) | (intro _)
   all_goals (refine hK _ ?_; clear hK K)
   all_goals
    refine zbz (zcb ?_)
    simp (disch := omega)
    all_goals first | omega | (simp_all; done) | (simp [List.take_of_length_le]; done) | ((try simp_all); (try simp (disch := omega) only [zbd, Int.tdiv_eq_ediv_of_nonneg, Int.tmod_eq_emod_of_nonneg, and_true, true_and]); done) | ((try simp_all); (try simp (disch := omega) only [zbd, Int.tdiv_eq_ediv_of_nonneg, Int.tmod_eq_emod_of_nonneg, and_true, true_and] at *); omega)
 try simp at hc22
 refine zbw ?_
 refine zb3 ?_
 refine AW_r rfl rfl fun K hK => ?_
 simp (disch := omega)
 repeat' first | (exfalso; omega) | (refine ⟨fun _ => ?_, fun _ => ?_⟩) | (refine ⟨by omega, ?_⟩) | (intro _)
 all_goals (refine hK _ ?_; clear hK K)
 all_goals
  refine zbz (zcb ?_)
  simp (disch := omega)
  all_goals first | omega | (simp_all; done) | (simp [List.take_of_length_le]; done) | ((try simp_all); (try simp (disch := omega) only [zbd, Int.tdiv_eq_ediv_of_nonneg, Int.tmod_eq_emod_of_nonneg, and_true, true_and]); done) | ((try simp_all); (try simp (disch := omega) only [zbd, Int.tdiv_eq_ediv_of_nonneg, Int.tmod_eq_emod_of_nonneg, and_true, true_and] at *); omega)
attribute [-simp] szR
theorem eqIdS (xs ys : List DtId) (hs : (xs.length : Int) ≤ 1048576) : PCall Try.prog 9 [.sl 2 (xs.map DtId.cells), .sl 2 (ys.map DtId.cells)] (.g (.bool (eqB xs ys))) := by
 have hn : xs.length ≤ 1048576 := by omega
 refine zbu Try.func9 (by rfl) (by rfl) (by rw [Try.ntmps9]; exact Nat.le_of_ble_eq_true rfl) rfl (by decide) ?_
 rw [Try.ntmps9]
 refine AW_k [(0, _), (1, _)] ⟨rfl, rfl, trivial⟩ ?_
 refine AW_r rfl rfl fun K hK => ?_
 simp (disch := omega)
 repeat' first | (refine ⟨by omega, ?_⟩) | (intro _)
 refine hK _ ?_; clear hK K
 refine zbt ?_
 refine AW_r rfl rfl fun K hK => ?_
 simp (disch := omega)
 repeat' first | (refine ⟨by omega, ?_⟩) | (intro _)
 refine hK _ ?_; clear hK K
 refine zbv rfl (fun hc24 => ?_) (fun hc24 => ?_)
 ·try simp at hc24
  all_goals
   refine AW_r rfl rfl fun K hK => ?_
   simp (disch := omega)
   repeat' first | (exfalso; omega) | (refine ⟨fun _ => ?_, fun _ => ?_⟩) | (refine ⟨by omega, ?_⟩) | (intro _)
   all_goals (refine hK _ ?_; clear hK K)
   all_goals
    refine zbz (zcb ?_)
    simp (disch := omega)
    all_goals first | (exact zch heq) | (refine zcd fun heq => ?_; subst heq; simp_all [zbf, zbe, zb5]; done) | (refine (zcd fun heq => ?_).symm; subst heq; simp_all [zbf, zbe, zb5]; done) | simp_all [zb5]
 try simp at hc24
 refine zbw ?_
 refine zb3 ?_
 refine zbt ?_
 refine AW_r rfl rfl fun K hK => ?_
 simp (disch := omega)
 repeat' first | (exfalso; omega) | (refine ⟨fun _ => ?_, fun _ => ?_⟩) | (refine ⟨by omega, ?_⟩) | (intro _)
 all_goals (refine hK _ ?_; clear hK K)
 all_goals
  refine zb0 ?_
  refine zcc (fun mM sS => ∃ (i : Nat), mM = xs.length - i ∧ (i ≤ xs.length ∧ ∀ j, j < i → xs[j]? = ys[j]?) ∧ sS = { env := lkE [(0, .sl 2 (xs.map DtId.cells)), (1, .sl 2 (ys.map DtId.cells)), (5, (.g (.int .i64 ((i : Nat)))))], ob := formOb [] [] }) ?_ ?_
  ·refine ⟨_, LeS.kp [(0, .sl 2 (xs.map DtId.cells)), (1, .sl 2 (ys.map DtId.cells)), (5, (.g (.int .i64 (((0) : Nat)))))] (by simp [KpE, zbn, zb4, zbk]; try rfl), _, 0, rfl, ?_, rfl⟩
   ·simp
  ·rintro mM sS ⟨i, rfl, ⟨hi, hpre⟩, rfl⟩
   refine zbt ?_
   refine AW_r rfl rfl fun K hK => ?_
   simp (disch := omega) [DtId.cells]
   repeat' first | (refine ⟨by omega, ?_⟩) | (intro _)
   refine hK _ ?_; clear hK K
   refine zbv rfl (fun hc25 => ?_) (fun hc25 => ?_)
   ·try simp at hc25
    all_goals
     have h7 : i < ys.length := by omega
     refine zbw ?_
     refine zb3 ?_
     refine zbt ?_
     refine zb0 ?_
     refine AW_q rfl mix (by kernel_rfl) rfl fun K hK => ?_
     simp (disch := omega) [DtId.cells]
     repeat' first | (exfalso; omega) | (refine zck (zbg (zb6 rfl) (zbg (zb6 rfl) zbr)) (eqId _ _) rfl ?_; simp (disch := omega) [DtId.cells]) | (refine ⟨fun _ => ?_, fun _ => ?_⟩) | (refine ⟨by omega, ?_⟩) | (intro _)
     all_goals (refine hK _ ?_; clear hK K)
     all_goals
      refine zbv rfl (fun hc26 => ?_) (fun hc26 => ?_)
      ·try simp at hc26
       all_goals
        refine AW_r rfl rfl fun K hK => ?_
        simp (disch := omega) [DtId.cells]
        repeat' first | (exfalso; omega) | (refine ⟨fun _ => ?_, fun _ => ?_⟩) | (refine ⟨by omega, ?_⟩) | (intro _)
        all_goals (refine hK _ ?_; clear hK K)
        all_goals
         refine zbz (zcb ?_)
         simp (disch := omega) [DtId.cells]
         all_goals first | (exact zch heq) | (refine zcd fun heq => ?_; subst heq; simp_all [zbf, zbe, zb5]; done) | (refine (zcd fun heq => ?_).symm; subst heq; simp_all [zbf, zbe, zb5]; done) | simp_all [zb5]
      try simp at hc26
      refine zbw ?_
      refine zb3 ?_
      refine zdf rfl rfl fun K hK => ?_
      simp (disch := omega) [DtId.cells]
      repeat' first | (exfalso; omega) | (refine ⟨fun _ => ?_, fun _ => ?_⟩) | (refine ⟨by omega, ?_⟩) | (intro _)
      all_goals (refine hK _ ?_; clear hK K)
      all_goals
       refine ⟨_, LeS.kp [(0, .sl 2 (xs.map DtId.cells)), (1, .sl 2 (ys.map DtId.cells)), (5, (.g (.int .i64 (((i + 1) : Nat)))))] (by simp [KpE, zbn, zb4, zbk]; try rfl), _, ?_, i + 1, rfl, ?_, rfl⟩
       ·omega
       ·refine ⟨by omega, fun j hj => ?_⟩
        by_cases hji : j = i
        ·subst hji; simp_all [zbf, zbe]
        ·exact hpre j (by omega)
   try simp at hc25
   have hi2 : i = xs.length := by omega
   subst hi2
   have heq : xs = ys := List.ext_getElem? fun j => by
    by_cases hj : j < xs.length
    ·exact hpre j hj
    ·rw [List.getElem?_eq_none (by omega), List.getElem?_eq_none (by omega)]
   refine zce ?_
   refine zb3 ?_
   refine AW_r rfl rfl fun K hK => ?_
   simp (disch := omega) [DtId.cells]
   repeat' first | (exfalso; omega) | (refine ⟨fun _ => ?_, fun _ => ?_⟩) | (refine ⟨by omega, ?_⟩) | (intro _)
   all_goals (refine hK _ ?_; clear hK K)
   all_goals
    refine zbz (zcb ?_)
    simp (disch := omega) [DtId.cells]
    all_goals first | (exact zch heq) | (refine zcd fun heq => ?_; subst heq; simp_all [zbf, zbe, zb5]; done) | (refine (zcd fun heq => ?_).symm; subst heq; simp_all [zbf, zbe, zb5]; done) | simp_all [zb5]
attribute [local simp] szR DtInst.cells
theorem szInst (u : DtInst) (n : Int) (hn : 0 ≤ n ∧ n ≤ 1048576) (hw : DtInst.wf u) : PCall Try.prog 17 [.agg (DtInst.cells u), (.g (.int .i64 (n)))] (.g (.int .i64 (szR n (DtInst.sz u)))) := by
 have ⟨w0, w1, w2, w3, w4, w5, w6, w7⟩ := hw
 have z4 := DtCmd.sz_nonneg u.fCmd
 have w62 := w6.1
 refine zbu Try.func17 (by rfl) (by rfl) (by rw [Try.ntmps17]; exact Nat.le_of_ble_eq_true rfl) rfl (by decide) ?_
 rw [Try.ntmps17]
 refine AW_k [(0, _), (1, _)] ⟨rfl, rfl, trivial⟩ ?_
 refine AW_r rfl rfl fun K hK => ?_
 simp (disch := omega)
 repeat' first | (refine ⟨by omega, ?_⟩) | (intro _)
 refine hK _ ?_; clear hK K
 refine AW_r rfl rfl fun K hK => ?_
 simp (disch := omega)
 repeat' first | (exfalso; omega) | (refine zck (zbg (zb6 rfl) (zbg zc5 zbr)) (szCmd _ _ (by omega) (by assumption)) rfl ?_; simp (disch := omega)) | (refine ⟨by omega, ?_⟩) | (intro _)
 refine hK _ ?_; clear hK K
 refine zbt ?_
 refine AW_r rfl rfl fun K hK => ?_
 simp (disch := omega)
 repeat' first | (refine ⟨by omega, ?_⟩) | (intro _)
 refine hK _ ?_; clear hK K
 refine zbv rfl (fun hc27 => ?_) (fun hc27 => ?_)
 ·try simp at hc27
  all_goals
   refine AW_r rfl rfl fun K hK => ?_
   simp (disch := omega)
   repeat' first | (exfalso; omega) | (refine ⟨fun _ => ?_, fun _ => ?_⟩) | (refine ⟨by omega, ?_⟩) | (intro _)
   all_goals (refine hK _ ?_; clear hK K)
   all_goals
    refine zbz (zcb ?_)
    simp (disch := omega) [DtInst.sz]
    all_goals first | omega | (simp_all; done) | (split <;> omega) | (split <;> simp_all <;> omega) | (simp_all [szR]; omega)
 try simp at hc27
 refine zbw ?_
 refine zb3 ?_
 refine AW_r rfl rfl fun K hK => ?_
 simp (disch := omega)
 repeat' first | (exfalso; omega) | (refine zck (zbg zca (zbg zc5 zbr)) (szIdS _ _ (by omega) (by assumption)) rfl ?_; simp (disch := omega)) | (refine ⟨fun _ => ?_, fun _ => ?_⟩) | (refine ⟨by omega, ?_⟩) | (intro _)
 all_goals (refine hK _ ?_; clear hK K)
 all_goals
  refine zbt ?_
  refine AW_r rfl rfl fun K hK => ?_
  simp (disch := omega)
  repeat' first | (refine ⟨by omega, ?_⟩) | (intro _)
  refine hK _ ?_; clear hK K
  refine zbv rfl (fun hc28 => ?_) (fun hc28 => ?_)
  ·try simp at hc28
   all_goals
    refine AW_r rfl rfl fun K hK => ?_
    simp (disch := omega)
    repeat' first | (exfalso; omega) | (refine ⟨fun _ => ?_, fun _ => ?_⟩) | (refine ⟨by omega, ?_⟩) | (intro _)
    all_goals (refine hK _ ?_; clear hK K)
    all_goals
     refine zbz (zcb ?_)
     simp (disch := omega) [DtInst.sz]
     all_goals first | omega | (simp_all; done) | (split <;> omega) | (split <;> simp_all <;> omega) | (simp_all [szR]; omega)
  try simp at hc28
  refine zbw ?_
  refine zb3 ?_
  refine AW_r rfl rfl fun K hK => ?_
  simp (disch := omega)
  repeat' first | (exfalso; omega) | (refine ⟨fun _ => ?_, fun _ => ?_⟩) | (refine ⟨by omega, ?_⟩) | (intro _)
  all_goals (refine hK _ ?_; clear hK K)
  all_goals
   refine zbz (zcb ?_)
   simp (disch := omega) [DtInst.sz]
   all_goals first | omega | (simp_all; done) | (split <;> omega) | (split <;> simp_all <;> omega) | (simp_all [szR]; omega)
attribute [-simp] szR
attribute [local simp] DtId.cells DtCmd.cells
attribute [-simp] DtId.cells DtCmd.cells
attribute [local simp] DtId.cells DtCmd.cells
theorem eqInst (u v : DtInst) (hs : DtInst.sz u ≤ 1048576) : PCall Try.prog 24 [.agg (DtInst.cells u), .agg (DtInst.cells v)] (.g (.bool (eqB u v))) := by
 simp only [DtInst.sz] at hs
 have z4 := DtCmd.sz_nonneg u.fCmd
 have s4 : DtCmd.sz u.fCmd ≤ 1048576 := by omega
 have s6 : (u.fDeps.length : Int) ≤ 1048576 := by omega
 have he := DtInst.ext_iff u v
 refine zbu Try.func24 (by rfl) (by rfl) (by rw [Try.ntmps24]; exact Nat.le_of_ble_eq_true rfl) rfl (by decide) ?_
 rw [Try.ntmps24]
 refine AW_k [(0, _), (1, _)] ⟨rfl, rfl, trivial⟩ ?_
 refine AW_r rfl rfl fun K hK => ?_
 simp
 repeat' first | (refine ⟨by omega, ?_⟩) | (intro _)
 refine hK _ ?_; clear hK K
 refine zbt ?_
 refine AW_r rfl rfl fun K hK => ?_
 simp
 repeat' first | (refine zck (zbg (zb6 rfl) (zbg (zb6 rfl) zbr)) (eqId _ _) rfl ?_; simp) | (refine ⟨by omega, ?_⟩) | (intro _)
 refine hK _ ?_; clear hK K
 refine zbv rfl (fun hc29 => ?_) (fun hc29 => ?_)
 ·try simp at hc29
  all_goals
   refine AW_r rfl rfl fun K hK => ?_
   simp
   repeat' first | (refine ⟨fun _ => ?_, fun _ => ?_⟩) | (refine ⟨by omega, ?_⟩) | (intro _)
   all_goals (refine hK _ ?_; clear hK K)
   all_goals
    refine zbz (zcb ?_)
    simp
    all_goals first | (refine zch (he.mpr ?_); simp_all [zbf, zbe]; done) | (refine zcd fun h => ?_; rw [he] at h; simp_all [zbf, zbe, zb5]; done) | (refine (zch (he.mpr ?_)).symm; simp_all [zbf, zbe]; done) | (refine (zcd fun h => ?_).symm; rw [he] at h; simp_all [zbf, zbe, zb5]; done)
 try simp at hc29
 refine zbw ?_
 refine zb3 ?_
 refine zbt ?_
 refine AW_r rfl rfl fun K hK => ?_
 simp
 repeat' first | (refine ⟨fun _ => ?_, fun _ => ?_⟩) | (refine ⟨by omega, ?_⟩) | (intro _)
 all_goals (refine hK _ ?_; clear hK K)
 all_goals
  refine zbv rfl (fun hc30 => ?_) (fun hc30 => ?_)
  ·try simp at hc30
   all_goals
    refine AW_r rfl rfl fun K hK => ?_
    simp
    repeat' first | (refine ⟨fun _ => ?_, fun _ => ?_⟩) | (refine ⟨by omega, ?_⟩) | (intro _)
    all_goals (refine hK _ ?_; clear hK K)
    all_goals
     refine zbz (zcb ?_)
     simp
     all_goals first | (refine zch (he.mpr ?_); simp_all [zbf, zbe]; done) | (refine zcd fun h => ?_; rw [he] at h; simp_all [zbf, zbe, zb5]; done) | (refine (zch (he.mpr ?_)).symm; simp_all [zbf, zbe]; done) | (refine (zcd fun h => ?_).symm; rw [he] at h; simp_all [zbf, zbe, zb5]; done)
  try simp at hc30
  refine zbw ?_
  refine zb3 ?_
  refine zbt ?_
  refine AW_r rfl rfl fun K hK => ?_
  simp
  repeat' first | (refine ⟨fun _ => ?_, fun _ => ?_⟩) | (refine ⟨by omega, ?_⟩) | (intro _)
  all_goals (refine hK _ ?_; clear hK K)
  all_goals
   refine zbv rfl (fun hc31 => ?_) (fun hc31 => ?_)
   ·try simp at hc31
    all_goals
     refine AW_r rfl rfl fun K hK => ?_
     simp
     repeat' first | (refine ⟨fun _ => ?_, fun _ => ?_⟩) | (refine ⟨by omega, ?_⟩) | (intro _)
     all_goals (refine hK _ ?_; clear hK K)
     all_goals
      refine zbz (zcb ?_)
      simp
      all_goals first | (refine zch (he.mpr ?_); simp_all [zbf, zbe]; done) | (refine zcd fun h => ?_; rw [he] at h; simp_all [zbf, zbe, zb5]; done) | (refine (zch (he.mpr ?_)).symm; simp_all [zbf, zbe]; done) | (refine (zcd fun h => ?_).symm; rw [he] at h; simp_all [zbf, zbe, zb5]; done)
   try simp at hc31
   refine zbw ?_
   refine zb3 ?_
   refine zbt ?_
   refine AW_r rfl rfl fun K hK => ?_
   simp
   repeat' first | (refine ⟨fun _ => ?_, fun _ => ?_⟩) | (refine ⟨by omega, ?_⟩) | (intro _)
   all_goals (refine hK _ ?_; clear hK K)
   all_goals
    refine zbv rfl (fun hc32 => ?_) (fun hc32 => ?_)
    ·try simp at hc32
     all_goals
      refine AW_r rfl rfl fun K hK => ?_
      simp
      repeat' first | (refine ⟨fun _ => ?_, fun _ => ?_⟩) | (refine ⟨by omega, ?_⟩) | (intro _)
      all_goals (refine hK _ ?_; clear hK K)
      all_goals
       refine zbz (zcb ?_)
       simp
       all_goals first | (refine zch (he.mpr ?_); simp_all [zbf, zbe]; done) | (refine zcd fun h => ?_; rw [he] at h; simp_all [zbf, zbe, zb5]; done) | (refine (zch (he.mpr ?_)).symm; simp_all [zbf, zbe]; done) | (refine (zcd fun h => ?_).symm; rw [he] at h; simp_all [zbf, zbe, zb5]; done)
    try simp at hc32
    refine zbw ?_
    refine zb3 ?_
    refine zbt ?_
    refine AW_r rfl rfl fun K hK => ?_
    simp
    repeat' first | (refine zck (zbg (zb6 rfl) (zbg (zb6 rfl) zbr)) (eqCmd _ _ (by first | assumption | omega)) rfl ?_; simp) | (refine ⟨fun _ => ?_, fun _ => ?_⟩) | (refine ⟨by omega, ?_⟩) | (intro _)
    all_goals (refine hK _ ?_; clear hK K)
    all_goals
     refine zbv rfl (fun hc33 => ?_) (fun hc33 => ?_)
     ·try simp at hc33
      all_goals
       refine AW_r rfl rfl fun K hK => ?_
       simp
       repeat' first | (refine ⟨fun _ => ?_, fun _ => ?_⟩) | (refine ⟨by omega, ?_⟩) | (intro _)
       all_goals (refine hK _ ?_; clear hK K)
       all_goals
        refine zbz (zcb ?_)
        simp
        all_goals first | (refine zch (he.mpr ?_); simp_all [zbf, zbe]; done) | (refine zcd fun h => ?_; rw [he] at h; simp_all [zbf, zbe, zb5]; done) | (refine (zch (he.mpr ?_)).symm; simp_all [zbf, zbe]; done) | (refine (zcd fun h => ?_).symm; rw [he] at h; simp_all [zbf, zbe, zb5]; done)
     try simp at hc33
     refine zbw ?_
     refine zb3 ?_
     refine zbt ?_
     refine AW_r rfl rfl fun K hK => ?_
     simp
     repeat' first | (refine ⟨fun _ => ?_, fun _ => ?_⟩) | (refine ⟨by omega, ?_⟩) | (intro _)
     all_goals (refine hK _ ?_; clear hK K)
     all_goals
      refine zbv rfl (fun hc34 => ?_) (fun hc34 => ?_)
      ·try simp at hc34
       all_goals
        refine AW_r rfl rfl fun K hK => ?_
        simp
        repeat' first | (refine ⟨fun _ => ?_, fun _ => ?_⟩) | (refine ⟨by omega, ?_⟩) | (intro _)
        all_goals (refine hK _ ?_; clear hK K)
        all_goals
         refine zbz (zcb ?_)
         simp
         all_goals first | (refine zch (he.mpr ?_); simp_all [zbf, zbe]; done) | (refine zcd fun h => ?_; rw [he] at h; simp_all [zbf, zbe, zb5]; done) | (refine (zch (he.mpr ?_)).symm; simp_all [zbf, zbe]; done) | (refine (zcd fun h => ?_).symm; rw [he] at h; simp_all [zbf, zbe, zb5]; done)
      try simp at hc34
      refine zbw ?_
      refine zb3 ?_
      refine zbt ?_
      refine AW_r rfl rfl fun K hK => ?_
      simp
      repeat' first | (refine zck (zbg zca (zbg zca zbr)) (eqIdS _ _ (by first | assumption | omega)) rfl ?_; simp) | (refine ⟨fun _ => ?_, fun _ => ?_⟩) | (refine ⟨by omega, ?_⟩) | (intro _)
      all_goals (refine hK _ ?_; clear hK K)
      all_goals
       refine zbv rfl (fun hc35 => ?_) (fun hc35 => ?_)
       ·try simp at hc35
        all_goals
         refine AW_r rfl rfl fun K hK => ?_
         simp
         repeat' first | (refine ⟨fun _ => ?_, fun _ => ?_⟩) | (refine ⟨by omega, ?_⟩) | (intro _)
         all_goals (refine hK _ ?_; clear hK K)
         all_goals
          refine zbz (zcb ?_)
          simp
          all_goals first | (refine zch (he.mpr ?_); simp_all [zbf, zbe]; done) | (refine zcd fun h => ?_; rw [he] at h; simp_all [zbf, zbe, zb5]; done) | (refine (zch (he.mpr ?_)).symm; simp_all [zbf, zbe]; done) | (refine (zcd fun h => ?_).symm; rw [he] at h; simp_all [zbf, zbe, zb5]; done)
       try simp at hc35
       refine zbw ?_
       refine zb3 ?_
       refine zbt ?_
       refine AW_r rfl rfl fun K hK => ?_
       simp
       repeat' first | (refine ⟨fun _ => ?_, fun _ => ?_⟩) | (refine ⟨by omega, ?_⟩) | (intro _)
       all_goals (refine hK _ ?_; clear hK K)
       all_goals
        refine zbv rfl (fun hc36 => ?_) (fun hc36 => ?_)
        ·try simp at hc36
         all_goals
          refine AW_r rfl rfl fun K hK => ?_
          simp
          repeat' first | (refine ⟨fun _ => ?_, fun _ => ?_⟩) | (refine ⟨by omega, ?_⟩) | (intro _)
          all_goals (refine hK _ ?_; clear hK K)
          all_goals
           refine zbz (zcb ?_)
           simp
           all_goals first | (refine zch (he.mpr ?_); simp_all [zbf, zbe]; done) | (refine zcd fun h => ?_; rw [he] at h; simp_all [zbf, zbe, zb5]; done) | (refine (zch (he.mpr ?_)).symm; simp_all [zbf, zbe]; done) | (refine (zcd fun h => ?_).symm; rw [he] at h; simp_all [zbf, zbe, zb5]; done)
        try simp at hc36
        refine zbw ?_
        refine zb3 ?_
        refine AW_r rfl rfl fun K hK => ?_
        simp
        repeat' first | (refine ⟨fun _ => ?_, fun _ => ?_⟩) | (refine ⟨by omega, ?_⟩) | (intro _)
        all_goals (refine hK _ ?_; clear hK K)
        all_goals
         refine zbz (zcb ?_)
         simp
         all_goals first | (refine zch (he.mpr ?_); simp_all [zbf, zbe]; done) | (refine zcd fun h => ?_; rw [he] at h; simp_all [zbf, zbe, zb5]; done) | (refine (zch (he.mpr ?_)).symm; simp_all [zbf, zbe]; done) | (refine (zcd fun h => ?_).symm; rw [he] at h; simp_all [zbf, zbe, zb5]; done)
attribute [local simp] szR
attribute [-simp] DtInst.cells DtId.cells DtCmd.cells
theorem zpb (xs : List DtInst) (n : Int) (hn : 0 ≤ n ∧ n ≤ 1048576) (hw : (wfS DtInst.wf) xs) : PCall Try.prog 5 [.sl 16 (xs.map DtInst.cells), (.g (.int .i64 (n)))] (.g (.int .i64 (szR n (szS DtInst.sz xs)))) := by
 have hq := zcp DtInst.sz_nonneg xs
 have hw1 := hw.1
 refine zbu Try.func5 (by rfl) (by rfl) (by rw [Try.ntmps5]; exact Nat.le_of_ble_eq_true rfl) rfl (by decide) ?_
 rw [Try.ntmps5]
 refine AW_k [(0, _), (1, _)] ⟨rfl, rfl, trivial⟩ ?_
 refine AW_r rfl rfl fun K hK => ?_
 simp (disch := omega)
 repeat' first | (refine ⟨by omega, ?_⟩) | (intro _)
 refine hK _ ?_; clear hK K
 refine AW_r rfl rfl fun K hK => ?_
 simp (disch := omega)
 repeat' first | (refine ⟨by omega, ?_⟩) | (intro _)
 refine hK _ ?_; clear hK K
 refine zbt ?_
 refine AW_r rfl rfl fun K hK => ?_
 simp (disch := omega)
 repeat' first | (refine ⟨by omega, ?_⟩) | (intro _)
 refine hK _ ?_; clear hK K
 refine zbv rfl (fun hc37 => ?_) (fun hc37 => ?_)
 ·try simp at hc37
  all_goals
   refine AW_r rfl rfl fun K hK => ?_
   simp (disch := omega)
   repeat' first | (exfalso; omega) | (refine ⟨fun _ => ?_, fun _ => ?_⟩) | (refine ⟨by omega, ?_⟩) | (intro _)
   all_goals (refine hK _ ?_; clear hK K)
   all_goals
    refine zbz (zcb ?_)
    simp (disch := omega) [szS]
    all_goals first | omega | (split <;> omega)
 try simp at hc37
 refine zbw ?_
 refine zb3 ?_
 refine zbt ?_
 refine AW_r rfl rfl fun K hK => ?_
 simp (disch := omega)
 repeat' first | (exfalso; omega) | (refine ⟨fun _ => ?_, fun _ => ?_⟩) | (refine ⟨by omega, ?_⟩) | (intro _)
 all_goals (refine hK _ ?_; clear hK K)
 all_goals
  refine zb0 ?_
  refine zcc (fun mM sS => ∃ (i : Nat), mM = xs.length - i ∧ (i ≤ xs.length ∧ 0 ≤ n - xs.length - sumZ DtInst.sz (xs.take i)) ∧ sS = { env := lkE [(0, .sl 16 (xs.map DtInst.cells)), (1, (.g (.int .i64 (n - xs.length - sumZ DtInst.sz (xs.take i))))), (5, (.g (.int .i64 ((i : Nat)))))], ob := formOb [] [] }) ?_ ?_
  ·refine ⟨_, LeS.kp [(0, .sl 16 (xs.map DtInst.cells)), (1, (.g (.int .i64 (n - xs.length - sumZ DtInst.sz (xs.take (0)))))), (5, (.g (.int .i64 (((0) : Nat)))))] (by simp [KpE, zbn, zb4, zbk, zff]; try first | rfl | omega), _, 0, rfl, ?_, rfl⟩
   ·simp [zff]; omega
  ·rintro mM sS ⟨i, rfl, ⟨hi, hn⟩, rfl⟩
   have hz := zcp DtInst.sz_nonneg (xs.take i)
   have hz2 := zfy DtInst.sz_nonneg xs i
   refine zbt ?_
   refine AW_r rfl rfl fun K hK => ?_
   simp (disch := omega) [DtInst.cells]
   repeat' first | (refine ⟨by omega, ?_⟩) | (intro _)
   refine hK _ ?_; clear hK K
   refine zbv rfl (fun hc38 => ?_) (fun hc38 => ?_)
   ·try simp at hc38
    all_goals
     have hl := zqu (f := DtInst.sz) xs i (by omega)
     have hwE : DtInst.wf xs[i] := hw.2 _ (List.getElem_mem _)
     have hz3 := zfy DtInst.sz_nonneg xs (i + 1)
     have hzE := DtInst.sz_nonneg xs[i]
     have hszR : szR (n - xs.length - sumZ DtInst.sz (xs.take i)) (DtInst.sz xs[i]) = n - xs.length - sumZ DtInst.sz (xs.take (i + 1)) ∨ (szR (n - xs.length - sumZ DtInst.sz (xs.take i)) (DtInst.sz xs[i]) = -1 ∧ n - xs.length - sumZ DtInst.sz (xs.take (i + 1)) < 0) := by unfold szR; split <;> omega
     refine zbw ?_
     refine zb3 ?_
     refine zbt ?_
     refine zb0 ?_
     refine AW_r rfl rfl fun K hK => ?_
     simp (disch := omega) [DtInst.cells]
     repeat' first | (exfalso; omega) | (refine zck (zbg (zb6 rfl) (zbg zc5 zbr)) (szInst _ _ (by omega) (by first | exact hwE | exact hw)) rfl ?_; simp (disch := omega) [DtInst.cells]) | (refine ⟨fun _ => ?_, fun _ => ?_⟩) | (refine ⟨by omega, ?_⟩) | (intro _)
     all_goals (refine hK _ ?_; clear hK K)
     all_goals
      refine AW_r rfl rfl fun K hK => ?_
      simp (disch := omega) [DtInst.cells]
      repeat' first | (refine ⟨by omega, ?_⟩) | (intro _)
      refine hK _ ?_; clear hK K
      refine zbv rfl (fun hc39 => ?_) (fun hc39 => ?_)
      ·try simp at hc39
       all_goals
        refine AW_r rfl rfl fun K hK => ?_
        simp (disch := omega) [DtInst.cells]
        repeat' first | (exfalso; omega) | (refine ⟨fun _ => ?_, fun _ => ?_⟩) | (refine ⟨by omega, ?_⟩) | (intro _)
        all_goals (refine hK _ ?_; clear hK K)
        all_goals
         refine zbz (zcb ?_)
         simp (disch := omega) [DtInst.cells, szS]
         all_goals first | omega | (split <;> omega)
      try simp at hc39
      refine zbw ?_
      refine zb3 ?_
      refine zdf rfl rfl fun K hK => ?_
      simp (disch := omega) [DtInst.cells]
      repeat' first | (exfalso; omega) | (refine ⟨fun _ => ?_, fun _ => ?_⟩) | (refine ⟨by omega, ?_⟩) | (intro _)
      all_goals (refine hK _ ?_; clear hK K)
      all_goals
       refine ⟨_, LeS.kp [(0, .sl 16 (xs.map DtInst.cells)), (1, (.g (.int .i64 (n - xs.length - sumZ DtInst.sz (xs.take (i + 1)))))), (5, (.g (.int .i64 (((i + 1) : Nat)))))] (by simp [KpE, zbn, zb4, zbk, zff]; try first | rfl | omega), _, ?_, i + 1, rfl, ?_, rfl⟩
       ·omega
       ·omega
   try simp at hc38
   have hi2 : i = xs.length := by omega
   subst hi2
   simp only [List.take_length] at *
   refine zce ?_
   refine zb3 ?_
   refine AW_r rfl rfl fun K hK => ?_
   simp (disch := omega) [DtInst.cells]
   repeat' first | (exfalso; omega) | (refine ⟨fun _ => ?_, fun _ => ?_⟩) | (refine ⟨by omega, ?_⟩) | (intro _)
   all_goals (refine hK _ ?_; clear hK K)
   all_goals
    refine zbz (zcb ?_)
    simp (disch := omega) [DtInst.cells, szS]
    all_goals first | omega | (split <;> omega)
attribute [-simp] szR
theorem zzq (xs ys : List DtInst) (hs : szS DtInst.sz xs ≤ 1048576) : PCall Try.prog 10 [.sl 16 (xs.map DtInst.cells), .sl 16 (ys.map DtInst.cells)] (.g (.bool (eqB xs ys))) := by
 have hn : xs.length ≤ 1048576 := by have := zcp DtInst.sz_nonneg xs; simp only [szS] at hs; omega
 refine zbu Try.func10 (by rfl) (by rfl) (by rw [Try.ntmps10]; exact Nat.le_of_ble_eq_true rfl) rfl (by decide) ?_
 rw [Try.ntmps10]
 refine AW_k [(0, _), (1, _)] ⟨rfl, rfl, trivial⟩ ?_
 refine AW_r rfl rfl fun K hK => ?_
 simp (disch := omega)
 repeat' first | (refine ⟨by omega, ?_⟩) | (intro _)
 refine hK _ ?_; clear hK K
 refine zbt ?_
 refine AW_r rfl rfl fun K hK => ?_
 simp (disch := omega)
 repeat' first | (refine ⟨by omega, ?_⟩) | (intro _)
 refine hK _ ?_; clear hK K
 refine zbv rfl (fun hc41 => ?_) (fun hc41 => ?_)
 ·try simp at hc41
  all_goals
   refine AW_r rfl rfl fun K hK => ?_
   simp (disch := omega)
   repeat' first | (exfalso; omega) | (refine ⟨fun _ => ?_, fun _ => ?_⟩) | (refine ⟨by omega, ?_⟩) | (intro _)
   all_goals (refine hK _ ?_; clear hK K)
   all_goals
    refine zbz (zcb ?_)
    simp (disch := omega)
    all_goals first | (exact zch heq) | (refine zcd fun heq => ?_; subst heq; simp_all [zbf, zbe, zb5]; done) | (refine (zcd fun heq => ?_).symm; subst heq; simp_all [zbf, zbe, zb5]; done) | simp_all [zb5]
 try simp at hc41
 refine zbw ?_
 refine zb3 ?_
 refine zbt ?_
 refine AW_r rfl rfl fun K hK => ?_
 simp (disch := omega)
 repeat' first | (exfalso; omega) | (refine ⟨fun _ => ?_, fun _ => ?_⟩) | (refine ⟨by omega, ?_⟩) | (intro _)
 all_goals (refine hK _ ?_; clear hK K)
 all_goals
  refine zb0 ?_
  refine zcc (fun mM sS => ∃ (i : Nat), mM = xs.length - i ∧ (i ≤ xs.length ∧ ∀ j, j < i → xs[j]? = ys[j]?) ∧ sS = { env := lkE [(0, .sl 16 (xs.map DtInst.cells)), (1, .sl 16 (ys.map DtInst.cells)), (5, (.g (.int .i64 ((i : Nat)))))], ob := formOb [] [] }) ?_ ?_
  ·refine ⟨_, LeS.kp [(0, .sl 16 (xs.map DtInst.cells)), (1, .sl 16 (ys.map DtInst.cells)), (5, (.g (.int .i64 (((0) : Nat)))))] (by simp [KpE, zbn, zb4, zbk]; try rfl), _, 0, rfl, ?_, rfl⟩
   ·simp
  ·rintro mM sS ⟨i, rfl, ⟨hi, hpre⟩, rfl⟩
   refine zbt ?_
   refine AW_r rfl rfl fun K hK => ?_
   simp (disch := omega) [DtInst.cells]
   repeat' first | (refine ⟨by omega, ?_⟩) | (intro _)
   refine hK _ ?_; clear hK K
   refine zbv rfl (fun hc42 => ?_) (fun hc42 => ?_)
   ·try simp at hc42
    all_goals
     have h7 : i < ys.length := by omega
     have hsE : DtInst.sz xs[i] ≤ 1048576 := by have := zgh DtInst.sz_nonneg xs xs[i] (List.getElem_mem _); simp only [szS] at hs; omega
     refine zbw ?_
     refine zb3 ?_
     refine zbt ?_
     refine zb0 ?_
     refine AW_q rfl mix (by kernel_rfl) rfl fun K hK => ?_
     simp (disch := omega) [DtInst.cells]
     repeat' first | (exfalso; omega) | (refine zck (zbg (zb6 rfl) (zbg (zb6 rfl) zbr)) (eqInst _ _ (by first | assumption | omega)) rfl ?_; simp (disch := omega) [DtInst.cells]) | (refine ⟨fun _ => ?_, fun _ => ?_⟩) | (refine ⟨by omega, ?_⟩) | (intro _)
     all_goals (refine hK _ ?_; clear hK K)
     all_goals
      refine zbv rfl (fun hc43 => ?_) (fun hc43 => ?_)
      ·try simp at hc43
       all_goals
        refine AW_r rfl rfl fun K hK => ?_
        simp (disch := omega) [DtInst.cells]
        repeat' first | (exfalso; omega) | (refine ⟨fun _ => ?_, fun _ => ?_⟩) | (refine ⟨by omega, ?_⟩) | (intro _)
        all_goals (refine hK _ ?_; clear hK K)
        all_goals
         refine zbz (zcb ?_)
         simp (disch := omega) [DtInst.cells]
         all_goals first | (exact zch heq) | (refine zcd fun heq => ?_; subst heq; simp_all [zbf, zbe, zb5]; done) | (refine (zcd fun heq => ?_).symm; subst heq; simp_all [zbf, zbe, zb5]; done) | simp_all [zb5]
      try simp at hc43
      refine zbw ?_
      refine zb3 ?_
      refine zdf rfl rfl fun K hK => ?_
      simp (disch := omega) [DtInst.cells]
      repeat' first | (exfalso; omega) | (refine ⟨fun _ => ?_, fun _ => ?_⟩) | (refine ⟨by omega, ?_⟩) | (intro _)
      all_goals (refine hK _ ?_; clear hK K)
      all_goals
       refine ⟨_, LeS.kp [(0, .sl 16 (xs.map DtInst.cells)), (1, .sl 16 (ys.map DtInst.cells)), (5, (.g (.int .i64 (((i + 1) : Nat)))))] (by simp [KpE, zbn, zb4, zbk]; try rfl), _, ?_, i + 1, rfl, ?_, rfl⟩
       ·omega
       ·refine ⟨by omega, fun j hj => ?_⟩
        by_cases hji : j = i
        ·subst hji; simp_all [zbf, zbe]
        ·exact hpre j (by omega)
   try simp at hc42
   have hi2 : i = xs.length := by omega
   subst hi2
   have heq : xs = ys := List.ext_getElem? fun j => by
    by_cases hj : j < xs.length
    ·exact hpre j hj
    ·rw [List.getElem?_eq_none (by omega), List.getElem?_eq_none (by omega)]
   refine zce ?_
   refine zb3 ?_
   refine AW_r rfl rfl fun K hK => ?_
   simp (disch := omega) [DtInst.cells]
   repeat' first | (exfalso; omega) | (refine ⟨fun _ => ?_, fun _ => ?_⟩) | (refine ⟨by omega, ?_⟩) | (intro _)
   all_goals (refine hK _ ?_; clear hK K)
   all_goals
    refine zbz (zcb ?_)
    simp (disch := omega) [DtInst.cells]
    all_goals first | (exact zch heq) | (refine zcd fun heq => ?_; subst heq; simp_all [zbf, zbe, zb5]; done) | (refine (zcd fun heq => ?_).symm; subst heq; simp_all [zbf, zbe, zb5]; done) | simp_all [zb5]
end Go.Proofs.Ytfbmhgiokfpgiaa.Vs
