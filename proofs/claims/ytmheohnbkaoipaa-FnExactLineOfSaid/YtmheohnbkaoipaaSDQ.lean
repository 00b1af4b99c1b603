import Derived.Test.YtmheohnbkaoipaaVs9
import Derived.Test.YtmheohnbkaoipaaSCT
open Go Go.Proofs Go.Proofs.Ytmheohnbkaoipaa.Vs
namespace Go.Proofs.Ytmheohnbkaoipaa.Vs
set_option linter.all false
set_option linter.unusedSimpArgs false
set_option linter.unusedVariables false
attribute [local simp] szR
theorem szStringS (xs : List (List UInt8)) (n : Int) (hn : 0 ≤ n ∧ n ≤ 1048576) (hw : (wfS wfL) xs) : PCall Try.prog 46 [.sl 1 (xs.map cS), (.g (.int .i64 (n)))] (.g (.int .i64 (szR n (szS lenZ xs)))) := by
 have hq := zca zck xs
 have hw1 := hw.1
 refine zbv Try.func46 (by rfl) (by rfl) (by rw [Try.ntmps46]; exact Nat.le_of_ble_eq_true rfl) rfl (by decide) ?_
 rw [Try.ntmps46]
 refine AW_k [(0, _), (1, _)] ⟨rfl, rfl, trivial⟩ ?_
 refine AW_r rfl rfl fun K hK => ?_
 simp (disch := omega)
 repeat' first | (refine ⟨by omega, ?_⟩) | (intro _)
 refine hK _ ?_; clear hK K
 refine AW_r rfl rfl fun K hK => ?_
 simp (disch := omega)
 repeat' first | (refine ⟨by omega, ?_⟩) | (intro _)
 refine hK _ ?_; clear hK K
 refine zbm ?_
 refine AW_r rfl rfl fun K hK => ?_
 simp (disch := omega)
 repeat' first | (refine ⟨by omega, ?_⟩) | (intro _)
 refine hK _ ?_; clear hK K
 refine zbl rfl (fun hc1 => ?_) (fun hc1 => ?_)
 ·try simp at hc1
  all_goals
   refine AW_r rfl rfl fun K hK => ?_
   simp (disch := omega)
   repeat' first | (exfalso; omega) | (refine ⟨fun _ => ?_, fun _ => ?_⟩) | (refine ⟨by omega, ?_⟩) | (intro _)
   all_goals (refine hK _ ?_; clear hK K)
   all_goals
    refine zbo (zb7 ?_)
    simp (disch := omega) [szS]
    all_goals first | omega | (split <;> omega)
 try simp at hc1
 refine zbn ?_
 refine zbq ?_
 refine zbm ?_
 refine AW_r rfl rfl fun K hK => ?_
 simp (disch := omega)
 repeat' first | (exfalso; omega) | (refine ⟨fun _ => ?_, fun _ => ?_⟩) | (refine ⟨by omega, ?_⟩) | (intro _)
 all_goals (refine hK _ ?_; clear hK K)
 all_goals
  refine zbr ?_
  refine zb0 (fun mM sS => ∃ (i : Nat), mM = xs.length - i ∧ (i ≤ xs.length ∧ 0 ≤ n - xs.length - sumZ lenZ (xs.take i)) ∧ sS = { env := lkE [(0, .sl 1 (xs.map cS)), (1, (.g (.int .i64 (n - xs.length - sumZ lenZ (xs.take i))))), (5, (.g (.int .i64 ((i : Nat)))))], ob := formOb [] [] }) ?_ ?_
  ·refine ⟨_, LeS.kp [(0, .sl 1 (xs.map cS)), (1, (.g (.int .i64 (n - xs.length - sumZ lenZ (xs.take (0)))))), (5, (.g (.int .i64 (((0) : Nat)))))] (by simp [KpE, zbe, zbu, zbc, zdt]; try first | rfl | omega), _, 0, rfl, ?_, rfl⟩
   ·simp [zdt]; omega
  ·rintro mM sS ⟨i, rfl, ⟨hi, hn⟩, rfl⟩
   have hz := zca zck (xs.take i)
   have hz2 := zfy zck xs i
   refine zbm ?_
   refine AW_r rfl rfl fun K hK => ?_
   simp (disch := omega) [cS, lenZ]
   repeat' first | (refine ⟨by omega, ?_⟩) | (intro _)
   refine hK _ ?_; clear hK K
   refine zbl rfl (fun hc2 => ?_) (fun hc2 => ?_)
   ·try simp at hc2
    all_goals
     have hl := zq5 (f := lenZ) xs i (by omega)
     have hwE : wfL xs[i] := hw.2 _ (List.getElem_mem _)
     have hwE2 : xs[i].length ≤ 9223372036854775807 := hwE
     simp only [lenZ] at hl
     have hz3 := zfy zck xs (i + 1)
     refine zbn ?_
     refine zbq ?_
     refine zbm ?_
     refine zbr ?_
     refine AW_r rfl rfl fun K hK => ?_
     simp (disch := omega) [cS, lenZ]
     repeat' first | (exfalso; omega) | (refine ⟨fun _ => ?_, fun _ => ?_⟩) | (refine ⟨by omega, ?_⟩) | (intro _)
     all_goals (refine hK _ ?_; clear hK K)
     all_goals
      refine AW_r rfl rfl fun K hK => ?_
      simp (disch := omega) [cS, lenZ]
      repeat' first | (refine ⟨by omega, ?_⟩) | (intro _)
      refine hK _ ?_; clear hK K
      refine zbl rfl (fun hc3 => ?_) (fun hc3 => ?_)
      ·try simp at hc3
       all_goals
        refine AW_r rfl rfl fun K hK => ?_
        simp (disch := omega) [cS, lenZ]
        repeat' first | (exfalso; omega) | (refine ⟨fun _ => ?_, fun _ => ?_⟩) | (refine ⟨by omega, ?_⟩) | (intro _)
        all_goals (refine hK _ ?_; clear hK K)
        all_goals
         refine zbo (zb7 ?_)
         simp (disch := omega) [cS, lenZ, szS]
         all_goals first | omega | (split <;> omega)
      try simp at hc3
      refine zbn ?_
      refine zbq ?_
      refine zc3 rfl rfl fun K hK => ?_
      simp (disch := omega) [cS, lenZ]
      repeat' first | (exfalso; omega) | (refine ⟨fun _ => ?_, fun _ => ?_⟩) | (refine ⟨by omega, ?_⟩) | (intro _)
      all_goals (refine hK _ ?_; clear hK K)
      all_goals
       refine ⟨_, LeS.kp [(0, .sl 1 (xs.map cS)), (1, (.g (.int .i64 (n - xs.length - sumZ lenZ (xs.take (i + 1)))))), (5, (.g (.int .i64 (((i + 1) : Nat)))))] (by simp [KpE, zbe, zbu, zbc, zdt]; try first | rfl | omega), _, ?_, i + 1, rfl, ?_, rfl⟩
       ·omega
       ·omega
   try simp at hc2
   have hi2 : i = xs.length := by omega
   subst hi2
   simp only [List.take_length] at *
   refine zb5 ?_
   refine zbq ?_
   refine AW_r rfl rfl fun K hK => ?_
   simp (disch := omega) [cS, lenZ]
   repeat' first | (exfalso; omega) | (refine ⟨fun _ => ?_, fun _ => ?_⟩) | (refine ⟨by omega, ?_⟩) | (intro _)
   all_goals (refine hK _ ?_; clear hK K)
   all_goals
    refine zbo (zb7 ?_)
    simp (disch := omega) [cS, lenZ, szS]
    all_goals first | omega | (split <;> omega)
attribute [-simp] szR
theorem eqStringS (xs ys : List (List UInt8)) (hs : szS lenZ xs ≤ 1048576) : PCall Try.prog 23 [.sl 1 (xs.map cS), .sl 1 (ys.map cS)] (.g (.bool (eqB xs ys))) := by
 have hn : xs.length ≤ 1048576 := by have := zca zck xs; simp only [szS] at hs; omega
 refine zbv Try.func23 (by rfl) (by rfl) (by rw [Try.ntmps23]; exact Nat.le_of_ble_eq_true rfl) rfl (by decide) ?_
 rw [Try.ntmps23]
 refine AW_k [(0, _), (1, _)] ⟨rfl, rfl, trivial⟩ ?_
 refine AW_r rfl rfl fun K hK => ?_
 simp (disch := omega)
 repeat' first | (refine ⟨by omega, ?_⟩) | (intro _)
 refine hK _ ?_; clear hK K
 refine zbm ?_
 refine AW_r rfl rfl fun K hK => ?_
 simp (disch := omega)
 repeat' first | (refine ⟨by omega, ?_⟩) | (intro _)
 refine hK _ ?_; clear hK K
 refine zbl rfl (fun hc5 => ?_) (fun hc5 => ?_)
 ·try simp at hc5
  all_goals
   refine AW_r rfl rfl fun K hK => ?_
   simp (disch := omega)
   repeat' first | (exfalso; omega) | (refine ⟨fun _ => ?_, fun _ => ?_⟩) | (refine ⟨by omega, ?_⟩) | (intro _)
   all_goals (refine hK _ ?_; clear hK K)
   all_goals
    refine zbo (zb7 ?_)
    simp (disch := omega)
    all_goals first | (exact zcr heq) | (refine zcg fun heq => ?_; subst heq; simp_all [zbf, zbd, zb3]; done) | (refine (zcg fun heq => ?_).symm; subst heq; simp_all [zbf, zbd, zb3]; done) | simp_all [zb3]
 try simp at hc5
 refine zbn ?_
 refine zbq ?_
 refine zbm ?_
 refine AW_r rfl rfl fun K hK => ?_
 simp (disch := omega)
 repeat' first | (exfalso; omega) | (refine ⟨fun _ => ?_, fun _ => ?_⟩) | (refine ⟨by omega, ?_⟩) | (intro _)
 all_goals (refine hK _ ?_; clear hK K)
 all_goals
  refine zbr ?_
  refine zb0 (fun mM sS => ∃ (i : Nat), mM = xs.length - i ∧ (i ≤ xs.length ∧ ∀ j, j < i → xs[j]? = ys[j]?) ∧ sS = { env := lkE [(0, .sl 1 (xs.map cS)), (1, .sl 1 (ys.map cS)), (5, (.g (.int .i64 ((i : Nat)))))], ob := formOb [] [] }) ?_ ?_
  ·refine ⟨_, LeS.kp [(0, .sl 1 (xs.map cS)), (1, .sl 1 (ys.map cS)), (5, (.g (.int .i64 (((0) : Nat)))))] (by simp [KpE, zbe, zbu, zbc]; try rfl), _, 0, rfl, ?_, rfl⟩
   ·simp
  ·rintro mM sS ⟨i, rfl, ⟨hi, hpre⟩, rfl⟩
   refine zbm ?_
   refine AW_r rfl rfl fun K hK => ?_
   simp (disch := omega) [cS]
   repeat' first | (refine ⟨by omega, ?_⟩) | (intro _)
   refine hK _ ?_; clear hK K
   refine zbl rfl (fun hc6 => ?_) (fun hc6 => ?_)
   ·try simp at hc6
    all_goals
     have h7 : i < ys.length := by omega
     refine zbn ?_
     refine zbq ?_
     refine zbm ?_
     refine zbr ?_
     refine AW_q rfl mix (by kernel_rfl) rfl fun K hK => ?_
     simp (disch := omega) [cS]
     repeat' first | (exfalso; omega) | (refine ⟨fun _ => ?_, fun _ => ?_⟩) | (refine ⟨by omega, ?_⟩) | (intro _)
     all_goals (refine hK _ ?_; clear hK K)
     all_goals
      refine zbl rfl (fun hc7 => ?_) (fun hc7 => ?_)
      ·try simp at hc7
       all_goals
        refine AW_r rfl rfl fun K hK => ?_
        simp (disch := omega) [cS]
        repeat' first | (exfalso; omega) | (refine ⟨fun _ => ?_, fun _ => ?_⟩) | (refine ⟨by omega, ?_⟩) | (intro _)
        all_goals (refine hK _ ?_; clear hK K)
        all_goals
         refine zbo (zb7 ?_)
         simp (disch := omega) [cS]
         all_goals first | (exact zcr heq) | (refine zcg fun heq => ?_; subst heq; simp_all [zbf, zbd, zb3]; done) | (refine (zcg fun heq => ?_).symm; subst heq; simp_all [zbf, zbd, zb3]; done) | simp_all [zb3]
      try simp at hc7
      refine zbn ?_
      refine zbq ?_
      refine zc3 rfl rfl fun K hK => ?_
      simp (disch := omega) [cS]
      repeat' first | (exfalso; omega) | (refine ⟨fun _ => ?_, fun _ => ?_⟩) | (refine ⟨by omega, ?_⟩) | (intro _)
      all_goals (refine hK _ ?_; clear hK K)
      all_goals
       refine ⟨_, LeS.kp [(0, .sl 1 (xs.map cS)), (1, .sl 1 (ys.map cS)), (5, (.g (.int .i64 (((i + 1) : Nat)))))] (by simp [KpE, zbe, zbu, zbc]; try rfl), _, ?_, i + 1, rfl, ?_, rfl⟩
       ·omega
       ·refine ⟨by omega, fun j hj => ?_⟩
        by_cases hji : j = i
        ·subst hji; simp_all [zbf, zbd]
        ·exact hpre j (by omega)
   try simp at hc6
   have hi2 : i = xs.length := by omega
   subst hi2
   have heq : xs = ys := List.ext_getElem? fun j => by
    by_cases hj : j < xs.length
    ·exact hpre j hj
    ·rw [List.getElem?_eq_none (by omega), List.getElem?_eq_none (by omega)]
   refine zb5 ?_
   refine zbq ?_
   refine AW_r rfl rfl fun K hK => ?_
   simp (disch := omega) [cS]
   repeat' first | (exfalso; omega) | (refine ⟨fun _ => ?_, fun _ => ?_⟩) | (refine ⟨by omega, ?_⟩) | (intro _)
   all_goals (refine hK _ ?_; clear hK K)
   all_goals
    refine zbo (zb7 ?_)
    simp (disch := omega) [cS]
    all_goals first | (exact zcr heq) | (refine zcg fun heq => ?_; subst heq; simp_all [zbf, zbd, zb3]; done) | (refine (zcg fun heq => ?_).symm; subst heq; simp_all [zbf, zbd, zb3]; done) | simp_all [zb3]
attribute [local simp] szR DtCSnap.cells
attribute [-simp] szR
attribute [local simp] szR
attribute [-simp] DtCSnap.cells
attribute [-simp] szR
attribute [local simp] szR DtCSet.cells
attribute [-simp] szR
attribute [local simp] szR
attribute [-simp] DtCSet.cells
attribute [-simp] szR
attribute [local simp] szR DtCatalog.cells
attribute [-simp] szR
attribute [local simp] szR DtCmd.cells
attribute [-simp] DtCatalog.cells
theorem szCmd (u : DtCmd) (n : Int) (hn : 0 ≤ n ∧ n ≤ 1048576) (hw : DtCmd.wf u) : PCall Try.prog 9 [.agg (DtCmd.cells u), (.g (.int .i64 (n)))] (.g (.int .i64 (szR n (DtCmd.sz u)))) := by
 have ⟨w0, w1, w2, w3, w4, w5, w6, w7⟩ := hw
 have w32 : u.fSet.length ≤ 9223372036854775807 := w3
 have w42 : u.fName.length ≤ 9223372036854775807 := w4
 have w52 : u.fTag.length ≤ 9223372036854775807 := w5
 have w72 := w7.1
 have z7 := (zdp zck) u.fChunks
 refine zbv Try.func9 (by rfl) (by rfl) (by rw [Try.ntmps9]; exact Nat.le_of_ble_eq_true rfl) rfl (by decide) ?_
 rw [Try.ntmps9]
 refine AW_k [(0, _), (1, _)] ⟨rfl, rfl, trivial⟩ ?_
 refine AW_r rfl rfl fun K hK => ?_
 simp (disch := omega)
 repeat' first | (refine ⟨by omega, ?_⟩) | (intro _)
 refine hK _ ?_; clear hK K
 refine AW_r rfl rfl fun K hK => ?_
 simp (disch := omega)
 repeat' first | (refine ⟨by omega, ?_⟩) | (intro _)
 refine hK _ ?_; clear hK K
 refine zbm ?_
 refine AW_r rfl rfl fun K hK => ?_
 simp (disch := omega)
 repeat' first | (refine ⟨by omega, ?_⟩) | (intro _)
 refine hK _ ?_; clear hK K
 refine zbl rfl (fun hc34 => ?_) (fun hc34 => ?_)
 ·try simp at hc34
  all_goals
   refine AW_r rfl rfl fun K hK => ?_
   simp (disch := omega)
   repeat' first | (exfalso; omega) | (refine ⟨fun _ => ?_, fun _ => ?_⟩) | (refine ⟨by omega, ?_⟩) | (intro _)
   all_goals (refine hK _ ?_; clear hK K)
   all_goals
    refine zbo (zb7 ?_)
    simp (disch := omega) [DtCmd.sz]
    all_goals first | omega | (simp_all; done) | (split <;> omega) | (split <;> simp_all <;> omega) | (simp_all [szR]; omega)
 try simp at hc34
 refine zbn ?_
 refine zbq ?_
 refine AW_r rfl rfl fun K hK => ?_
 simp (disch := omega)
 repeat' first | (exfalso; omega) | (refine ⟨fun _ => ?_, fun _ => ?_⟩) | (refine ⟨by omega, ?_⟩) | (intro _)
 all_goals (refine hK _ ?_; clear hK K)
 all_goals
  refine zbm ?_
  refine AW_r rfl rfl fun K hK => ?_
  simp (disch := omega)
  repeat' first | (refine ⟨by omega, ?_⟩) | (intro _)
  refine hK _ ?_; clear hK K
  refine zbl rfl (fun hc35 => ?_) (fun hc35 => ?_)
  ·try simp at hc35
   all_goals
    refine AW_r rfl rfl fun K hK => ?_
    simp (disch := omega)
    repeat' first | (exfalso; omega) | (refine ⟨fun _ => ?_, fun _ => ?_⟩) | (refine ⟨by omega, ?_⟩) | (intro _)
    all_goals (refine hK _ ?_; clear hK K)
    all_goals
     refine zbo (zb7 ?_)
     simp (disch := omega) [DtCmd.sz]
     all_goals first | omega | (simp_all; done) | (split <;> omega) | (split <;> simp_all <;> omega) | (simp_all [szR]; omega)
  try simp at hc35
  refine zbn ?_
  refine zbq ?_
  refine AW_r rfl rfl fun K hK => ?_
  simp (disch := omega)
  repeat' first | (exfalso; omega) | (refine ⟨fun _ => ?_, fun _ => ?_⟩) | (refine ⟨by omega, ?_⟩) | (intro _)
  all_goals (refine hK _ ?_; clear hK K)
  all_goals
   refine zbm ?_
   refine AW_r rfl rfl fun K hK => ?_
   simp (disch := omega)
   repeat' first | (refine ⟨by omega, ?_⟩) | (intro _)
   refine hK _ ?_; clear hK K
   refine zbl rfl (fun hc36 => ?_) (fun hc36 => ?_)
   ·try simp at hc36
    all_goals
     refine AW_r rfl rfl fun K hK => ?_
     simp (disch := omega)
     repeat' first | (exfalso; omega) | (refine ⟨fun _ => ?_, fun _ => ?_⟩) | (refine ⟨by omega, ?_⟩) | (intro _)
     all_goals (refine hK _ ?_; clear hK K)
     all_goals
      refine zbo (zb7 ?_)
      simp (disch := omega) [DtCmd.sz]
      all_goals first | omega | (simp_all; done) | (split <;> omega) | (split <;> simp_all <;> omega) | (simp_all [szR]; omega)
   try simp at hc36
   refine zbn ?_
   refine zbq ?_
   refine AW_r rfl rfl fun K hK => ?_
   simp (disch := omega)
   repeat' first | (exfalso; omega) | (refine zc9 (zbi zc0 (zbi zcs zbt)) (szStringS _ _ (by omega) (by assumption)) rfl ?_; simp (disch := omega)) | (refine ⟨fun _ => ?_, fun _ => ?_⟩) | (refine ⟨by omega, ?_⟩) | (intro _)
   all_goals (refine hK _ ?_; clear hK K)
   all_goals
    refine zbm ?_
    refine AW_r rfl rfl fun K hK => ?_
    simp (disch := omega)
    repeat' first | (refine ⟨by omega, ?_⟩) | (intro _)
    refine hK _ ?_; clear hK K
    refine zbl rfl (fun hc37 => ?_) (fun hc37 => ?_)
    ·try simp at hc37
     all_goals
      refine AW_r rfl rfl fun K hK => ?_
      simp (disch := omega)
      repeat' first | (exfalso; omega) | (refine ⟨fun _ => ?_, fun _ => ?_⟩) | (refine ⟨by omega, ?_⟩) | (intro _)
      all_goals (refine hK _ ?_; clear hK K)
      all_goals
       refine zbo (zb7 ?_)
       simp (disch := omega) [DtCmd.sz]
       all_goals first | omega | (simp_all; done) | (split <;> omega) | (split <;> simp_all <;> omega) | (simp_all [szR]; omega)
    try simp at hc37
    refine zbn ?_
    refine zbq ?_
    refine AW_r rfl rfl fun K hK => ?_
    simp (disch := omega)
    repeat' first | (exfalso; omega) | (refine ⟨fun _ => ?_, fun _ => ?_⟩) | (refine ⟨by omega, ?_⟩) | (intro _)
    all_goals (refine hK _ ?_; clear hK K)
    all_goals
     refine zbo (zb7 ?_)
     simp (disch := omega) [DtCmd.sz]
     all_goals first | omega | (simp_all; done) | (split <;> omega) | (split <;> simp_all <;> omega) | (simp_all [szR]; omega)
attribute [-simp] szR
theorem eqCmd (u v : DtCmd) (hs : DtCmd.sz u ≤ 1048576) : PCall Try.prog 15 [.agg (DtCmd.cells u), .agg (DtCmd.cells v)] (.g (.bool (eqB u v))) := by
 simp only [DtCmd.sz] at hs
 have z7 := (zdp zck) u.fChunks
 have s3 : (u.fSet.length : Int) ≤ 1048576 := by omega
 have s4 : (u.fName.length : Int) ≤ 1048576 := by omega
 have s5 : (u.fTag.length : Int) ≤ 1048576 := by omega
 have s7 : szS lenZ u.fChunks ≤ 1048576 := by omega
 have he := DtCmd.ext_iff u v
 refine zbv Try.func15 (by rfl) (by rfl) (by rw [Try.ntmps15]; exact Nat.le_of_ble_eq_true rfl) rfl (by decide) ?_
 rw [Try.ntmps15]
 refine AW_k [(0, _), (1, _)] ⟨rfl, rfl, trivial⟩ ?_
 refine AW_r rfl rfl fun K hK => ?_
 simp
 repeat' first | (refine ⟨by omega, ?_⟩) | (intro _)
 refine hK _ ?_; clear hK K
 refine zbm ?_
 refine AW_r rfl rfl fun K hK => ?_
 simp
 repeat' first | (refine ⟨by omega, ?_⟩) | (intro _)
 refine hK _ ?_; clear hK K
 refine zbl rfl (fun hc38 => ?_) (fun hc38 => ?_)
 ·try simp at hc38
  all_goals
   refine AW_r rfl rfl fun K hK => ?_
   simp
   repeat' first | (refine ⟨fun _ => ?_, fun _ => ?_⟩) | (refine ⟨by omega, ?_⟩) | (intro _)
   all_goals (refine hK _ ?_; clear hK K)
   all_goals
    refine zbo (zb7 ?_)
    simp
    all_goals first | (refine zcr (he.mpr ?_); simp_all [zbf, zbd]; done) | (refine zcg fun h => ?_; rw [he] at h; simp_all [zbf, zbd, zb3]; done) | (refine (zcr (he.mpr ?_)).symm; simp_all [zbf, zbd]; done) | (refine (zcg fun h => ?_).symm; rw [he] at h; simp_all [zbf, zbd, zb3]; done)
 try simp at hc38
 refine zbn ?_
 refine zbq ?_
 refine zbm ?_
 refine AW_r rfl rfl fun K hK => ?_
 simp
 repeat' first | (refine ⟨fun _ => ?_, fun _ => ?_⟩) | (refine ⟨by omega, ?_⟩) | (intro _)
 all_goals (refine hK _ ?_; clear hK K)
 all_goals
  refine zbl rfl (fun hc39 => ?_) (fun hc39 => ?_)
  ·try simp at hc39
   all_goals
    refine AW_r rfl rfl fun K hK => ?_
    simp
    repeat' first | (refine ⟨fun _ => ?_, fun _ => ?_⟩) | (refine ⟨by omega, ?_⟩) | (intro _)
    all_goals (refine hK _ ?_; clear hK K)
    all_goals
     refine zbo (zb7 ?_)
     simp
     all_goals first | (refine zcr (he.mpr ?_); simp_all [zbf, zbd]; done) | (refine zcg fun h => ?_; rw [he] at h; simp_all [zbf, zbd, zb3]; done) | (refine (zcr (he.mpr ?_)).symm; simp_all [zbf, zbd]; done) | (refine (zcg fun h => ?_).symm; rw [he] at h; simp_all [zbf, zbd, zb3]; done)
  try simp at hc39
  refine zbn ?_
  refine zbq ?_
  refine zbm ?_
  refine AW_r rfl rfl fun K hK => ?_
  simp
  repeat' first | (refine ⟨fun _ => ?_, fun _ => ?_⟩) | (refine ⟨by omega, ?_⟩) | (intro _)
  all_goals (refine hK _ ?_; clear hK K)
  all_goals
   refine zbl rfl (fun hc40 => ?_) (fun hc40 => ?_)
   ·try simp at hc40
    all_goals
     refine AW_r rfl rfl fun K hK => ?_
     simp
     repeat' first | (refine ⟨fun _ => ?_, fun _ => ?_⟩) | (refine ⟨by omega, ?_⟩) | (intro _)
     all_goals (refine hK _ ?_; clear hK K)
     all_goals
      refine zbo (zb7 ?_)
      simp
      all_goals first | (refine zcr (he.mpr ?_); simp_all [zbf, zbd]; done) | (refine zcg fun h => ?_; rw [he] at h; simp_all [zbf, zbd, zb3]; done) | (refine (zcr (he.mpr ?_)).symm; simp_all [zbf, zbd]; done) | (refine (zcg fun h => ?_).symm; rw [he] at h; simp_all [zbf, zbd, zb3]; done)
   try simp at hc40
   refine zbn ?_
   refine zbq ?_
   refine zbm ?_
   refine AW_r rfl rfl fun K hK => ?_
   simp
   repeat' first | (refine ⟨fun _ => ?_, fun _ => ?_⟩) | (refine ⟨by omega, ?_⟩) | (intro _)
   all_goals (refine hK _ ?_; clear hK K)
   all_goals
    refine zbl rfl (fun hc41 => ?_) (fun hc41 => ?_)
    ·try simp at hc41
     all_goals
      refine AW_r rfl rfl fun K hK => ?_
      simp
      repeat' first | (refine ⟨fun _ => ?_, fun _ => ?_⟩) | (refine ⟨by omega, ?_⟩) | (intro _)
      all_goals (refine hK _ ?_; clear hK K)
      all_goals
       refine zbo (zb7 ?_)
       simp
       all_goals first | (refine zcr (he.mpr ?_); simp_all [zbf, zbd]; done) | (refine zcg fun h => ?_; rw [he] at h; simp_all [zbf, zbd, zb3]; done) | (refine (zcr (he.mpr ?_)).symm; simp_all [zbf, zbd]; done) | (refine (zcg fun h => ?_).symm; rw [he] at h; simp_all [zbf, zbd, zb3]; done)
    try simp at hc41
    refine zbn ?_
    refine zbq ?_
    refine zbm ?_
    refine AW_r rfl rfl fun K hK => ?_
    simp
    repeat' first | (refine ⟨fun _ => ?_, fun _ => ?_⟩) | (refine ⟨by omega, ?_⟩) | (intro _)
    all_goals (refine hK _ ?_; clear hK K)
    all_goals
     refine zbl rfl (fun hc42 => ?_) (fun hc42 => ?_)
     ·try simp at hc42
      all_goals
       refine AW_r rfl rfl fun K hK => ?_
       simp
       repeat' first | (refine ⟨fun _ => ?_, fun _ => ?_⟩) | (refine ⟨by omega, ?_⟩) | (intro _)
       all_goals (refine hK _ ?_; clear hK K)
       all_goals
        refine zbo (zb7 ?_)
        simp
        all_goals first | (refine zcr (he.mpr ?_); simp_all [zbf, zbd]; done) | (refine zcg fun h => ?_; rw [he] at h; simp_all [zbf, zbd, zb3]; done) | (refine (zcr (he.mpr ?_)).symm; simp_all [zbf, zbd]; done) | (refine (zcg fun h => ?_).symm; rw [he] at h; simp_all [zbf, zbd, zb3]; done)
     try simp at hc42
     refine zbn ?_
     refine zbq ?_
     refine zbm ?_
     refine AW_r rfl rfl fun K hK => ?_
     simp
     repeat' first | (refine ⟨fun _ => ?_, fun _ => ?_⟩) | (refine ⟨by omega, ?_⟩) | (intro _)
     all_goals (refine hK _ ?_; clear hK K)
     all_goals
      refine zbl rfl (fun hc43 => ?_) (fun hc43 => ?_)
      ·try simp at hc43
       all_goals
        refine AW_r rfl rfl fun K hK => ?_
        simp
        repeat' first | (refine ⟨fun _ => ?_, fun _ => ?_⟩) | (refine ⟨by omega, ?_⟩) | (intro _)
        all_goals (refine hK _ ?_; clear hK K)
        all_goals
         refine zbo (zb7 ?_)
         simp
         all_goals first | (refine zcr (he.mpr ?_); simp_all [zbf, zbd]; done) | (refine zcg fun h => ?_; rw [he] at h; simp_all [zbf, zbd, zb3]; done) | (refine (zcr (he.mpr ?_)).symm; simp_all [zbf, zbd]; done) | (refine (zcg fun h => ?_).symm; rw [he] at h; simp_all [zbf, zbd, zb3]; done)
      try simp at hc43
      refine zbn ?_
      refine zbq ?_
      refine zbm ?_
      refine AW_r rfl rfl fun K hK => ?_
      simp
      repeat' first | (refine ⟨fun _ => ?_, fun _ => ?_⟩) | (refine ⟨by omega, ?_⟩) | (intro _)
      all_goals (refine hK _ ?_; clear hK K)
      all_goals
       refine zbl rfl (fun hc44 => ?_) (fun hc44 => ?_)
       ·try simp at hc44
        all_goals
         refine AW_r rfl rfl fun K hK => ?_
         simp
         repeat' first | (refine ⟨fun _ => ?_, fun _ => ?_⟩) | (refine ⟨by omega, ?_⟩) | (intro _)
         all_goals (refine hK _ ?_; clear hK K)
         all_goals
          refine zbo (zb7 ?_)
          simp
          all_goals first | (refine zcr (he.mpr ?_); simp_all [zbf, zbd]; done) | (refine zcg fun h => ?_; rw [he] at h; simp_all [zbf, zbd, zb3]; done) | (refine (zcr (he.mpr ?_)).symm; simp_all [zbf, zbd]; done) | (refine (zcg fun h => ?_).symm; rw [he] at h; simp_all [zbf, zbd, zb3]; done)
       try simp at hc44
       refine zbn ?_
       refine zbq ?_
       refine zbm ?_
       refine AW_r rfl rfl fun K hK => ?_
       simp
       repeat' first | (refine zc9 (zbi zc0 (zbi zc0 zbt)) (eqStringS _ _ (by first | assumption | omega)) rfl ?_; simp) | (refine ⟨fun _ => ?_, fun _ => ?_⟩) | (refine ⟨by omega, ?_⟩) | (intro _)
       all_goals (refine hK _ ?_; clear hK K)
       all_goals
        refine zbl rfl (fun hc45 => ?_) (fun hc45 => ?_)
        ·try simp at hc45
         all_goals
          refine AW_r rfl rfl fun K hK => ?_
          simp
          repeat' first | (refine ⟨fun _ => ?_, fun _ => ?_⟩) | (refine ⟨by omega, ?_⟩) | (intro _)
          all_goals (refine hK _ ?_; clear hK K)
          all_goals
           refine zbo (zb7 ?_)
           simp
           all_goals first | (refine zcr (he.mpr ?_); simp_all [zbf, zbd]; done) | (refine zcg fun h => ?_; rw [he] at h; simp_all [zbf, zbd, zb3]; done) | (refine (zcr (he.mpr ?_)).symm; simp_all [zbf, zbd]; done) | (refine (zcg fun h => ?_).symm; rw [he] at h; simp_all [zbf, zbd, zb3]; done)
        try simp at hc45
        refine zbn ?_
        refine zbq ?_
        refine AW_r rfl rfl fun K hK => ?_
        simp
        repeat' first | (refine ⟨fun _ => ?_, fun _ => ?_⟩) | (refine ⟨by omega, ?_⟩) | (intro _)
        all_goals (refine hK _ ?_; clear hK K)
        all_goals
         refine zbo (zb7 ?_)
         simp
         all_goals first | (refine zcr (he.mpr ?_); simp_all [zbf, zbd]; done) | (refine zcg fun h => ?_; rw [he] at h; simp_all [zbf, zbd, zb3]; done) | (refine (zcr (he.mpr ?_)).symm; simp_all [zbf, zbd]; done) | (refine (zcg fun h => ?_).symm; rw [he] at h; simp_all [zbf, zbd, zb3]; done)
attribute [local simp] szR
attribute [-simp] DtCmd.cells
attribute [-simp] szR
attribute [local simp] DtSaid.cells
attribute [-simp] DtSaid.cells
attribute [local simp] DtState.cells
attribute [local simp] DtCatalog.cells
attribute [local simp] szR DtCall.cells
attribute [-simp] DtState.cells DtCatalog.cells
theorem szCall (u : DtCall) (n : Int) (hn : 0 ≤ n ∧ n ≤ 1048576) (hw : DtCall.wf u) : PCall Try.prog 75 [.agg (DtCall.cells u), (.g (.int .i64 (n)))] (.g (.int .i64 (szR n (DtCall.sz u)))) := by
 have ⟨w0, w1, w2, w3⟩ := hw
 have z2 := DtCmd.sz_nonneg u.fCmd
 have w32 : u.fText.length ≤ 9223372036854775807 := w3
 refine zbv Try.func75 (by rfl) (by rfl) (by rw [Try.ntmps75]; exact Nat.le_of_ble_eq_true rfl) rfl (by decide) ?_
 rw [Try.ntmps75]
 refine AW_k [(0, _), (1, _)] ⟨rfl, rfl, trivial⟩ ?_
 refine AW_r rfl rfl fun K hK => ?_
 simp (disch := omega)
 repeat' first | (refine ⟨by omega, ?_⟩) | (intro _)
 refine hK _ ?_; clear hK K
 refine AW_r rfl rfl fun K hK => ?_
 simp (disch := omega)
 repeat' first | (exfalso; omega) | (refine zc9 (zbi (zb9 rfl) (zbi zcs zbt)) (szCmd _ _ (by omega) (by assumption)) rfl ?_; simp (disch := omega)) | (refine ⟨by omega, ?_⟩) | (intro _)
 refine hK _ ?_; clear hK K
 refine zbm ?_
 refine AW_r rfl rfl fun K hK => ?_
 simp (disch := omega)
 repeat' first | (refine ⟨by omega, ?_⟩) | (intro _)
 refine hK _ ?_; clear hK K
 refine zbl rfl (fun hc61 => ?_) (fun hc61 => ?_)
 ·try simp at hc61
  all_goals
   refine AW_r rfl rfl fun K hK => ?_
   simp (disch := omega)
   repeat' first | (exfalso; omega) | (refine ⟨fun _ => ?_, fun _ => ?_⟩) | (refine ⟨by omega, ?_⟩) | (intro _)
   all_goals (refine hK _ ?_; clear hK K)
   all_goals
    refine zbo (zb7 ?_)
    simp (disch := omega) [DtCall.sz]
    all_goals first | omega | (simp_all; done) | (split <;> omega) | (split <;> simp_all <;> omega) | (simp_all [szR]; omega)
 try simp at hc61
 refine zbn ?_
 refine zbq ?_
 refine AW_r rfl rfl fun K hK => ?_
 simp (disch := omega)
 repeat' first | (exfalso; omega) | (refine ⟨fun _ => ?_, fun _ => ?_⟩) | (refine ⟨by omega, ?_⟩) | (intro _)
 all_goals (refine hK _ ?_; clear hK K)
 all_goals
  refine zbm ?_
  refine AW_r rfl rfl fun K hK => ?_
  simp (disch := omega)
  repeat' first | (refine ⟨by omega, ?_⟩) | (intro _)
  refine hK _ ?_; clear hK K
  refine zbl rfl (fun hc62 => ?_) (fun hc62 => ?_)
  ·try simp at hc62
   all_goals
    refine AW_r rfl rfl fun K hK => ?_
    simp (disch := omega)
    repeat' first | (exfalso; omega) | (refine ⟨fun _ => ?_, fun _ => ?_⟩) | (refine ⟨by omega, ?_⟩) | (intro _)
    all_goals (refine hK _ ?_; clear hK K)
    all_goals
     refine zbo (zb7 ?_)
     simp (disch := omega) [DtCall.sz]
     all_goals first | omega | (simp_all; done) | (split <;> omega) | (split <;> simp_all <;> omega) | (simp_all [szR]; omega)
  try simp at hc62
  refine zbn ?_
  refine zbq ?_
  refine AW_r rfl rfl fun K hK => ?_
  simp (disch := omega)
  repeat' first | (exfalso; omega) | (refine ⟨fun _ => ?_, fun _ => ?_⟩) | (refine ⟨by omega, ?_⟩) | (intro _)
  all_goals (refine hK _ ?_; clear hK K)
  all_goals
   refine zbo (zb7 ?_)
   simp (disch := omega) [DtCall.sz]
   all_goals first | omega | (simp_all; done) | (split <;> omega) | (split <;> simp_all <;> omega) | (simp_all [szR]; omega)
attribute [-simp] szR
attribute [local simp] DtCmd.cells
attribute [-simp] DtCmd.cells
attribute [local simp] DtCmd.cells
theorem eqCall (u v : DtCall) (hs : DtCall.sz u ≤ 1048576) : PCall Try.prog 82 [.agg (DtCall.cells u), .agg (DtCall.cells v)] (.g (.bool (eqB u v))) := by
 simp only [DtCall.sz] at hs
 have z2 := DtCmd.sz_nonneg u.fCmd
 have s2 : DtCmd.sz u.fCmd ≤ 1048576 := by omega
 have s3 : (u.fText.length : Int) ≤ 1048576 := by omega
 have he := DtCall.ext_iff u v
 refine zbv Try.func82 (by rfl) (by rfl) (by rw [Try.ntmps82]; exact Nat.le_of_ble_eq_true rfl) rfl (by decide) ?_
 rw [Try.ntmps82]
 refine AW_k [(0, _), (1, _)] ⟨rfl, rfl, trivial⟩ ?_
 refine AW_r rfl rfl fun K hK => ?_
 simp
 repeat' first | (refine ⟨by omega, ?_⟩) | (intro _)
 refine hK _ ?_; clear hK K
 refine zbm ?_
 refine AW_r rfl rfl fun K hK => ?_
 simp
 repeat' first | (refine ⟨by omega, ?_⟩) | (intro _)
 refine hK _ ?_; clear hK K
 refine zbl rfl (fun hc63 => ?_) (fun hc63 => ?_)
 ·try simp at hc63
  all_goals
   refine AW_r rfl rfl fun K hK => ?_
   simp
   repeat' first | (refine ⟨fun _ => ?_, fun _ => ?_⟩) | (refine ⟨by omega, ?_⟩) | (intro _)
   all_goals (refine hK _ ?_; clear hK K)
   all_goals
    refine zbo (zb7 ?_)
    simp
    all_goals first | (refine zcr (he.mpr ?_); simp_all [zbf, zbd]; done) | (refine zcg fun h => ?_; rw [he] at h; simp_all [zbf, zbd, zb3]; done) | (refine (zcr (he.mpr ?_)).symm; simp_all [zbf, zbd]; done) | (refine (zcg fun h => ?_).symm; rw [he] at h; simp_all [zbf, zbd, zb3]; done)
 try simp at hc63
 refine zbn ?_
 refine zbq ?_
 refine zbm ?_
 refine AW_r rfl rfl fun K hK => ?_
 simp
 repeat' first | (refine ⟨fun _ => ?_, fun _ => ?_⟩) | (refine ⟨by omega, ?_⟩) | (intro _)
 all_goals (refine hK _ ?_; clear hK K)
 all_goals
  refine zbl rfl (fun hc64 => ?_) (fun hc64 => ?_)
  ·try simp at hc64
   all_goals
    refine AW_r rfl rfl fun K hK => ?_
    simp
    repeat' first | (refine ⟨fun _ => ?_, fun _ => ?_⟩) | (refine ⟨by omega, ?_⟩) | (intro _)
    all_goals (refine hK _ ?_; clear hK K)
    all_goals
     refine zbo (zb7 ?_)
     simp
     all_goals first | (refine zcr (he.mpr ?_); simp_all [zbf, zbd]; done) | (refine zcg fun h => ?_; rw [he] at h; simp_all [zbf, zbd, zb3]; done) | (refine (zcr (he.mpr ?_)).symm; simp_all [zbf, zbd]; done) | (refine (zcg fun h => ?_).symm; rw [he] at h; simp_all [zbf, zbd, zb3]; done)
  try simp at hc64
  refine zbn ?_
  refine zbq ?_
  refine zbm ?_
  refine AW_r rfl rfl fun K hK => ?_
  simp
  repeat' first | (refine zc9 (zbi (zb9 rfl) (zbi (zb9 rfl) zbt)) (eqCmd _ _ (by first | assumption | omega)) rfl ?_; simp) | (refine ⟨fun _ => ?_, fun _ => ?_⟩) | (refine ⟨by omega, ?_⟩) | (intro _)
  all_goals (refine hK _ ?_; clear hK K)
  all_goals
   refine zbl rfl (fun hc65 => ?_) (fun hc65 => ?_)
   ·try simp at hc65
    all_goals
     refine AW_r rfl rfl fun K hK => ?_
     simp
     repeat' first | (refine ⟨fun _ => ?_, fun _ => ?_⟩) | (refine ⟨by omega, ?_⟩) | (intro _)
     all_goals (refine hK _ ?_; clear hK K)
     all_goals
      refine zbo (zb7 ?_)
      simp
      all_goals first | (refine zcr (he.mpr ?_); simp_all [zbf, zbd]; done) | (refine zcg fun h => ?_; rw [he] at h; simp_all [zbf, zbd, zb3]; done) | (refine (zcr (he.mpr ?_)).symm; simp_all [zbf, zbd]; done) | (refine (zcg fun h => ?_).symm; rw [he] at h; simp_all [zbf, zbd, zb3]; done)
   try simp at hc65
   refine zbn ?_
   refine zbq ?_
   refine zbm ?_
   refine AW_r rfl rfl fun K hK => ?_
   simp
   repeat' first | (refine ⟨fun _ => ?_, fun _ => ?_⟩) | (refine ⟨by omega, ?_⟩) | (intro _)
   all_goals (refine hK _ ?_; clear hK K)
   all_goals
    refine zbl rfl (fun hc66 => ?_) (fun hc66 => ?_)
    ·try simp at hc66
     all_goals
      refine AW_r rfl rfl fun K hK => ?_
      simp
      repeat' first | (refine ⟨fun _ => ?_, fun _ => ?_⟩) | (refine ⟨by omega, ?_⟩) | (intro _)
      all_goals (refine hK _ ?_; clear hK K)
      all_goals
       refine zbo (zb7 ?_)
       simp
       all_goals first | (refine zcr (he.mpr ?_); simp_all [zbf, zbd]; done) | (refine zcg fun h => ?_; rw [he] at h; simp_all [zbf, zbd, zb3]; done) | (refine (zcr (he.mpr ?_)).symm; simp_all [zbf, zbd]; done) | (refine (zcg fun h => ?_).symm; rw [he] at h; simp_all [zbf, zbd, zb3]; done)
    try simp at hc66
    refine zbn ?_
    refine zbq ?_
    refine AW_r rfl rfl fun K hK => ?_
    simp
    repeat' first | (refine ⟨fun _ => ?_, fun _ => ?_⟩) | (refine ⟨by omega, ?_⟩) | (intro _)
    all_goals (refine hK _ ?_; clear hK K)
    all_goals
     refine zbo (zb7 ?_)
     simp
     all_goals first | (refine zcr (he.mpr ?_); simp_all [zbf, zbd]; done) | (refine zcg fun h => ?_; rw [he] at h; simp_all [zbf, zbd, zb3]; done) | (refine (zcr (he.mpr ?_)).symm; simp_all [zbf, zbd]; done) | (refine (zcg fun h => ?_).symm; rw [he] at h; simp_all [zbf, zbd, zb3]; done)
attribute [local simp] szR
attribute [-simp] DtCall.cells DtCmd.cells
theorem zpk (xs : List DtCall) (n : Int) (hn : 0 ≤ n ∧ n ≤ 1048576) (hw : (wfS DtCall.wf) xs) : PCall Try.prog 33 [.sl 11 (xs.map DtCall.cells), (.g (.int .i64 (n)))] (.g (.int .i64 (szR n (szS DtCall.sz xs)))) := by
 have hq := zca DtCall.sz_nonneg xs
 have hw1 := hw.1
 refine zbv Try.func33 (by rfl) (by rfl) (by rw [Try.ntmps33]; exact Nat.le_of_ble_eq_true rfl) rfl (by decide) ?_
 rw [Try.ntmps33]
 refine AW_k [(0, _), (1, _)] ⟨rfl, rfl, trivial⟩ ?_
 refine AW_r rfl rfl fun K hK => ?_
 simp (disch := omega)
 repeat' first | (refine ⟨by omega, ?_⟩) | (intro _)
 refine hK _ ?_; clear hK K
 refine AW_r rfl rfl fun K hK => ?_
 simp (disch := omega)
 repeat' first | (refine ⟨by omega, ?_⟩) | (intro _)
 refine hK _ ?_; clear hK K
 refine zbm ?_
 refine AW_r rfl rfl fun K hK => ?_
 simp (disch := omega)
 repeat' first | (refine ⟨by omega, ?_⟩) | (intro _)
 refine hK _ ?_; clear hK K
 refine zbl rfl (fun hc67 => ?_) (fun hc67 => ?_)
 ·try simp at hc67
  all_goals
   refine AW_r rfl rfl fun K hK => ?_
   simp (disch := omega)
   repeat' first | (exfalso; omega) | (refine ⟨fun _ => ?_, fun _ => ?_⟩) | (refine ⟨by omega, ?_⟩) | (intro _)
   all_goals (refine hK _ ?_; clear hK K)
   all_goals
    refine zbo (zb7 ?_)
    simp (disch := omega) [szS]
    all_goals first | omega | (split <;> omega)
 try simp at hc67
 refine zbn ?_
 refine zbq ?_
 refine zbm ?_
 refine AW_r rfl rfl fun K hK => ?_
 simp (disch := omega)
 repeat' first | (exfalso; omega) | (refine ⟨fun _ => ?_, fun _ => ?_⟩) | (refine ⟨by omega, ?_⟩) | (intro _)
 all_goals (refine hK _ ?_; clear hK K)
 all_goals
  refine zbr ?_
  refine zb0 (fun mM sS => ∃ (i : Nat), mM = xs.length - i ∧ (i ≤ xs.length ∧ 0 ≤ n - xs.length - sumZ DtCall.sz (xs.take i)) ∧ sS = { env := lkE [(0, .sl 11 (xs.map DtCall.cells)), (1, (.g (.int .i64 (n - xs.length - sumZ DtCall.sz (xs.take i))))), (5, (.g (.int .i64 ((i : Nat)))))], ob := formOb [] [] }) ?_ ?_
  ·refine ⟨_, LeS.kp [(0, .sl 11 (xs.map DtCall.cells)), (1, (.g (.int .i64 (n - xs.length - sumZ DtCall.sz (xs.take (0)))))), (5, (.g (.int .i64 (((0) : Nat)))))] (by simp [KpE, zbe, zbu, zbc, zdt]; try first | rfl | omega), _, 0, rfl, ?_, rfl⟩
   ·simp [zdt]; omega
  ·rintro mM sS ⟨i, rfl, ⟨hi, hn⟩, rfl⟩
   have hz := zca DtCall.sz_nonneg (xs.take i)
   have hz2 := zfy DtCall.sz_nonneg xs i
   refine zbm ?_
   refine AW_r rfl rfl fun K hK => ?_
   simp (disch := omega) [DtCall.cells]
   repeat' first | (refine ⟨by omega, ?_⟩) | (intro _)
   refine hK _ ?_; clear hK K
   refine zbl rfl (fun hc68 => ?_) (fun hc68 => ?_)
   ·try simp at hc68
    all_goals
     have hl := zq5 (f := DtCall.sz) xs i (by omega)
     have hwE : DtCall.wf xs[i] := hw.2 _ (List.getElem_mem _)
     have hz3 := zfy DtCall.sz_nonneg xs (i + 1)
     have hzE := DtCall.sz_nonneg xs[i]
     have hszR : szR (n - xs.length - sumZ DtCall.sz (xs.take i)) (DtCall.sz xs[i]) = n - xs.length - sumZ DtCall.sz (xs.take (i + 1)) ∨ (szR (n - xs.length - sumZ DtCall.sz (xs.take i)) (DtCall.sz xs[i]) = -1 ∧ n - xs.length - sumZ DtCall.sz (xs.take (i + 1)) < 0) := by unfold szR; split <;> omega
     refine zbn ?_
     refine zbq ?_
     refine zbm ?_
     refine zbr ?_
     refine AW_r rfl rfl fun K hK => ?_
     simp (disch := omega) [DtCall.cells]
     repeat' first | (exfalso; omega) | (refine zc9 (zbi (zb9 rfl) (zbi zcs zbt)) (szCall _ _ (by omega) (by first | exact hwE | exact hw)) rfl ?_; simp (disch := omega) [DtCall.cells]) | (refine ⟨fun _ => ?_, fun _ => ?_⟩) | (refine ⟨by omega, ?_⟩) | (intro _)
     all_goals (refine hK _ ?_; clear hK K)
     all_goals
      refine AW_r rfl rfl fun K hK => ?_
      simp (disch := omega) [DtCall.cells]
      repeat' first | (refine ⟨by omega, ?_⟩) | (intro _)
      refine hK _ ?_; clear hK K
      refine zbl rfl (fun hc69 => ?_) (fun hc69 => ?_)
      ·try simp at hc69
       all_goals
        refine AW_r rfl rfl fun K hK => ?_
        simp (disch := omega) [DtCall.cells]
        repeat' first | (exfalso; omega) | (refine ⟨fun _ => ?_, fun _ => ?_⟩) | (refine ⟨by omega, ?_⟩) | (intro _)
        all_goals (refine hK _ ?_; clear hK K)
        all_goals
         refine zbo (zb7 ?_)
         simp (disch := omega) [DtCall.cells, szS]
         all_goals first | omega | (split <;> omega)
      try simp at hc69
      refine zbn ?_
      refine zbq ?_
      refine zc3 rfl rfl fun K hK => ?_
      simp (disch := omega) [DtCall.cells]
      repeat' first | (exfalso; omega) | (refine ⟨fun _ => ?_, fun _ => ?_⟩) | (refine ⟨by omega, ?_⟩) | (intro _)
      all_goals (refine hK _ ?_; clear hK K)
      all_goals
       refine ⟨_, LeS.kp [(0, .sl 11 (xs.map DtCall.cells)), (1, (.g (.int .i64 (n - xs.length - sumZ DtCall.sz (xs.take (i + 1)))))), (5, (.g (.int .i64 (((i + 1) : Nat)))))] (by simp [KpE, zbe, zbu, zbc, zdt]; try first | rfl | omega), _, ?_, i + 1, rfl, ?_, rfl⟩
       ·omega
       ·omega
   try simp at hc68
   have hi2 : i = xs.length := by omega
   subst hi2
   simp only [List.take_length] at *
   refine zb5 ?_
   refine zbq ?_
   refine AW_r rfl rfl fun K hK => ?_
   simp (disch := omega) [DtCall.cells]
   repeat' first | (exfalso; omega) | (refine ⟨fun _ => ?_, fun _ => ?_⟩) | (refine ⟨by omega, ?_⟩) | (intro _)
   all_goals (refine hK _ ?_; clear hK K)
   all_goals
    refine zbo (zb7 ?_)
    simp (disch := omega) [DtCall.cells, szS]
    all_goals first | omega | (split <;> omega)
attribute [-simp] szR
theorem eqCallS (xs ys : List DtCall) (hs : szS DtCall.sz xs ≤ 1048576) : PCall Try.prog 38 [.sl 11 (xs.map DtCall.cells), .sl 11 (ys.map DtCall.cells)] (.g (.bool (eqB xs ys))) := by
 have hn : xs.length ≤ 1048576 := by have := zca DtCall.sz_nonneg xs; simp only [szS] at hs; omega
 refine zbv Try.func38 (by rfl) (by rfl) (by rw [Try.ntmps38]; exact Nat.le_of_ble_eq_true rfl) rfl (by decide) ?_
 rw [Try.ntmps38]
 refine AW_k [(0, _), (1, _)] ⟨rfl, rfl, trivial⟩ ?_
 refine AW_r rfl rfl fun K hK => ?_
 simp (disch := omega)
 repeat' first | (refine ⟨by omega, ?_⟩) | (intro _)
 refine hK _ ?_; clear hK K
 refine zbm ?_
 refine AW_r rfl rfl fun K hK => ?_
 simp (disch := omega)
 repeat' first | (refine ⟨by omega, ?_⟩) | (intro _)
 refine hK _ ?_; clear hK K
 refine zbl rfl (fun hc71 => ?_) (fun hc71 => ?_)
 ·try simp at hc71
  all_goals
   refine AW_r rfl rfl fun K hK => ?_
   simp (disch := omega)
   repeat' first | (exfalso; omega) | (refine ⟨fun _ => ?_, fun _ => ?_⟩) | (refine ⟨by omega, ?_⟩) | (intro _)
   all_goals (refine hK _ ?_; clear hK K)
   all_goals
    refine zbo (zb7 ?_)
    simp (disch := omega)
    all_goals first | (exact zcr heq) | (refine zcg fun heq => ?_; subst heq; simp_all [zbf, zbd, zb3]; done) | (refine (zcg fun heq => ?_).symm; subst heq; simp_all [zbf, zbd, zb3]; done) | simp_all [zb3]
 try simp at hc71
 refine zbn ?_
 refine zbq ?_
 refine zbm ?_
 refine AW_r rfl rfl fun K hK => ?_
 simp (disch := omega)
 repeat' first | (exfalso; omega) | (refine ⟨fun _ => ?_, fun _ => ?_⟩) | (refine ⟨by omega, ?_⟩) | (intro _)
 all_goals (refine hK _ ?_; clear hK K)
 all_goals
  refine zbr ?_
  refine zb0 (fun mM sS => ∃ (i : Nat), mM = xs.length - i ∧ (i ≤ xs.length ∧ ∀ j, j < i → xs[j]? = ys[j]?) ∧ sS = { env := lkE [(0, .sl 11 (xs.map DtCall.cells)), (1, .sl 11 (ys.map DtCall.cells)), (5, (.g (.int .i64 ((i : Nat)))))], ob := formOb [] [] }) ?_ ?_
  ·refine ⟨_, LeS.kp [(0, .sl 11 (xs.map DtCall.cells)), (1, .sl 11 (ys.map DtCall.cells)), (5, (.g (.int .i64 (((0) : Nat)))))] (by simp [KpE, zbe, zbu, zbc]; try rfl), _, 0, rfl, ?_, rfl⟩
   ·simp
  ·rintro mM sS ⟨i, rfl, ⟨hi, hpre⟩, rfl⟩
   refine zbm ?_
   refine AW_r rfl rfl fun K hK => ?_
   simp (disch := omega) [DtCall.cells]
   repeat' first | (refine ⟨by omega, ?_⟩) | (intro _)
   refine hK _ ?_; clear hK K
   refine zbl rfl (fun hc72 => ?_) (fun hc72 => ?_)
   ·try simp at hc72
    all_goals
     have h7 : i < ys.length := by omega
     have hsE : DtCall.sz xs[i] ≤ 1048576 := by have := zc8 DtCall.sz_nonneg xs xs[i] (List.getElem_mem _); simp only [szS] at hs; omega
     refine zbn ?_
     refine zbq ?_
     refine zbm ?_
     refine zbr ?_
     refine AW_q rfl mix (by kernel_rfl) rfl fun K hK => ?_
     simp (disch := omega) [DtCall.cells]
     repeat' first | (exfalso; omega) | (refine zc9 (zbi (zb9 rfl) (zbi (zb9 rfl) zbt)) (eqCall _ _ (by first | assumption | omega)) rfl ?_; simp (disch := omega) [DtCall.cells]) | (refine ⟨fun _ => ?_, fun _ => ?_⟩) | (refine ⟨by omega, ?_⟩) | (intro _)
     all_goals (refine hK _ ?_; clear hK K)
     all_goals
      refine zbl rfl (fun hc73 => ?_) (fun hc73 => ?_)
      ·try simp at hc73
       all_goals
        refine AW_r rfl rfl fun K hK => ?_
        simp (disch := omega) [DtCall.cells]
        repeat' first | (exfalso; omega) | (refine ⟨fun _ => ?_, fun _ => ?_⟩) | (refine ⟨by omega, ?_⟩) | (intro _)
        all_goals (refine hK _ ?_; clear hK K)
        all_goals
         refine zbo (zb7 ?_)
         simp (disch := omega) [DtCall.cells]
         all_goals first | (exact zcr heq) | (refine zcg fun heq => ?_; subst heq; simp_all [zbf, zbd, zb3]; done) | (refine (zcg fun heq => ?_).symm; subst heq; simp_all [zbf, zbd, zb3]; done) | simp_all [zb3]
      try simp at hc73
      refine zbn ?_
      refine zbq ?_
      refine zc3 rfl rfl fun K hK => ?_
      simp (disch := omega) [DtCall.cells]
      repeat' first | (exfalso; omega) | (refine ⟨fun _ => ?_, fun _ => ?_⟩) | (refine ⟨by omega, ?_⟩) | (intro _)
      all_goals (refine hK _ ?_; clear hK K)
      all_goals
       refine ⟨_, LeS.kp [(0, .sl 11 (xs.map DtCall.cells)), (1, .sl 11 (ys.map DtCall.cells)), (5, (.g (.int .i64 (((i + 1) : Nat)))))] (by simp [KpE, zbe, zbu, zbc]; try rfl), _, ?_, i + 1, rfl, ?_, rfl⟩
       ·omega
       ·refine ⟨by omega, fun j hj => ?_⟩
        by_cases hji : j = i
        ·subst hji; simp_all [zbf, zbd]
        ·exact hpre j (by omega)
   try simp at hc72
   have hi2 : i = xs.length := by omega
   subst hi2
   have heq : xs = ys := List.ext_getElem? fun j => by
    by_cases hj : j < xs.length
    ·exact hpre j hj
    ·rw [List.getElem?_eq_none (by omega), List.getElem?_eq_none (by omega)]
   refine zb5 ?_
   refine zbq ?_
   refine AW_r rfl rfl fun K hK => ?_
   simp (disch := omega) [DtCall.cells]
   repeat' first | (exfalso; omega) | (refine ⟨fun _ => ?_, fun _ => ?_⟩) | (refine ⟨by omega, ?_⟩) | (intro _)
   all_goals (refine hK _ ?_; clear hK K)
   all_goals
    refine zbo (zb7 ?_)
    simp (disch := omega) [DtCall.cells]
    all_goals first | (exact zcr heq) | (refine zcg fun heq => ?_; subst heq; simp_all [zbf, zbd, zb3]; done) | (refine (zcg fun heq => ?_).symm; subst heq; simp_all [zbf, zbd, zb3]; done) | simp_all [zb3]
theorem zm9 (xs ys : List Int) (hs : (xs.length : Int) ≤ 1048576) : PCall Try.prog 39 [.sl 1 (xs.map cI), .sl 1 (ys.map cI)] (.g (.bool (eqB xs ys))) := by
 have hn : xs.length ≤ 1048576 := by omega
 refine zbv Try.func39 (by rfl) (by rfl) (by rw [Try.ntmps39]; exact Nat.le_of_ble_eq_true rfl) rfl (by decide) ?_
 rw [Try.ntmps39]
 refine AW_k [(0, _), (1, _)] ⟨rfl, rfl, trivial⟩ ?_
 refine AW_r rfl rfl fun K hK => ?_
 simp (disch := omega)
 repeat' first | (refine ⟨by omega, ?_⟩) | (intro _)
 refine hK _ ?_; clear hK K
 refine zbm ?_
 refine AW_r rfl rfl fun K hK => ?_
 simp (disch := omega)
 repeat' first | (refine ⟨by omega, ?_⟩) | (intro _)
 refine hK _ ?_; clear hK K
 refine zbl rfl (fun hc75 => ?_) (fun hc75 => ?_)
 ·try simp at hc75
  all_goals
   refine AW_r rfl rfl fun K hK => ?_
   simp (disch := omega)
   repeat' first | (exfalso; omega) | (refine ⟨fun _ => ?_, fun _ => ?_⟩) | (refine ⟨by omega, ?_⟩) | (intro _)
   all_goals (refine hK _ ?_; clear hK K)
   all_goals
    refine zbo (zb7 ?_)
    simp (disch := omega)
    all_goals first | (exact zcr heq) | (refine zcg fun heq => ?_; subst heq; simp_all [zbf, zbd, zb3]; done) | (refine (zcg fun heq => ?_).symm; subst heq; simp_all [zbf, zbd, zb3]; done) | simp_all [zb3]
 try simp at hc75
 refine zbn ?_
 refine zbq ?_
 refine zbm ?_
 refine AW_r rfl rfl fun K hK => ?_
 simp (disch := omega)
 repeat' first | (exfalso; omega) | (refine ⟨fun _ => ?_, fun _ => ?_⟩) | (refine ⟨by omega, ?_⟩) | (intro _)
 all_goals (refine hK _ ?_; clear hK K)
 all_goals
  refine zbr ?_
  refine zb0 (fun mM sS => ∃ (i : Nat), mM = xs.length - i ∧ (i ≤ xs.length ∧ ∀ j, j < i → xs[j]? = ys[j]?) ∧ sS = { env := lkE [(0, .sl 1 (xs.map cI)), (1, .sl 1 (ys.map cI)), (5, (.g (.int .i64 ((i : Nat)))))], ob := formOb [] [] }) ?_ ?_
  ·refine ⟨_, LeS.kp [(0, .sl 1 (xs.map cI)), (1, .sl 1 (ys.map cI)), (5, (.g (.int .i64 (((0) : Nat)))))] (by simp [KpE, zbe, zbu, zbc]; try rfl), _, 0, rfl, ?_, rfl⟩
   ·simp
  ·rintro mM sS ⟨i, rfl, ⟨hi, hpre⟩, rfl⟩
   refine zbm ?_
   refine AW_r rfl rfl fun K hK => ?_
   simp (disch := omega) [cI]
   repeat' first | (refine ⟨by omega, ?_⟩) | (intro _)
   refine hK _ ?_; clear hK K
   refine zbl rfl (fun hc76 => ?_) (fun hc76 => ?_)
   ·try simp at hc76
    all_goals
     have h7 : i < ys.length := by omega
     refine zbn ?_
     refine zbq ?_
     refine zbm ?_
     refine zbr ?_
     refine AW_q rfl mix (by kernel_rfl) rfl fun K hK => ?_
     simp (disch := omega) [cI]
     repeat' first | (exfalso; omega) | (refine ⟨fun _ => ?_, fun _ => ?_⟩) | (refine ⟨by omega, ?_⟩) | (intro _)
     all_goals (refine hK _ ?_; clear hK K)
     all_goals
      refine zbl rfl (fun hc77 => ?_) (fun hc77 => ?_)
      ·try simp at hc77
       all_goals
        refine AW_r rfl rfl fun K hK => ?_
        simp (disch := omega) [cI]
        repeat' first | (exfalso; omega) | (refine ⟨fun _ => ?_, fun _ => ?_⟩) | (refine ⟨by omega, ?_⟩) | (intro _)
        all_goals (refine hK _ ?_; clear hK K)
        all_goals
         refine zbo (zb7 ?_)
         simp (disch := omega) [cI]
         all_goals first | (exact zcr heq) | (refine zcg fun heq => ?_; subst heq; simp_all [zbf, zbd, zb3]; done) | (refine (zcg fun heq => ?_).symm; subst heq; simp_all [zbf, zbd, zb3]; done) | simp_all [zb3]
      try simp at hc77
      refine zbn ?_
      refine zbq ?_
      refine zc3 rfl rfl fun K hK => ?_
      simp (disch := omega) [cI]
      repeat' first | (exfalso; omega) | (refine ⟨fun _ => ?_, fun _ => ?_⟩) | (refine ⟨by omega, ?_⟩) | (intro _)
      all_goals (refine hK _ ?_; clear hK K)
      all_goals
       refine ⟨_, LeS.kp [(0, .sl 1 (xs.map cI)), (1, .sl 1 (ys.map cI)), (5, (.g (.int .i64 (((i + 1) : Nat)))))] (by simp [KpE, zbe, zbu, zbc]; try rfl), _, ?_, i + 1, rfl, ?_, rfl⟩
       ·omega
       ·refine ⟨by omega, fun j hj => ?_⟩
        by_cases hji : j = i
        ·subst hji; simp_all [zbf, zbd]
        ·exact hpre j (by omega)
   try simp at hc76
   have hi2 : i = xs.length := by omega
   subst hi2
   have heq : xs = ys := List.ext_getElem? fun j => by
    by_cases hj : j < xs.length
    ·exact hpre j hj
    ·rw [List.getElem?_eq_none (by omega), List.getElem?_eq_none (by omega)]
   refine zb5 ?_
   refine zbq ?_
   refine AW_r rfl rfl fun K hK => ?_
   simp (disch := omega) [cI]
   repeat' first | (exfalso; omega) | (refine ⟨fun _ => ?_, fun _ => ?_⟩) | (refine ⟨by omega, ?_⟩) | (intro _)
   all_goals (refine hK _ ?_; clear hK K)
   all_goals
    refine zbo (zb7 ?_)
    simp (disch := omega) [cI]
    all_goals first | (exact zcr heq) | (refine zcg fun heq => ?_; subst heq; simp_all [zbf, zbd, zb3]; done) | (refine (zcg fun heq => ?_).symm; subst heq; simp_all [zbf, zbd, zb3]; done) | simp_all [zb3]
end Go.Proofs.Ytmheohnbkaoipaa.Vs
