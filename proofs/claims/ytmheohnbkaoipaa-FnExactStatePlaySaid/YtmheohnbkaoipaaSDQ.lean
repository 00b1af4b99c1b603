import Derived.Test.YtmheohnbkaoipaaVs9
import Derived.Test.YtmheohnbkaoipaaSCT
open Go Go.Proofs Go.Proofs.Ytmheohnbkaoipaa.Vs
namespace Go.Proofs.Ytmheohnbkaoipaa.Vs
set_option linter.all false
set_option linter.unusedSimpArgs false
set_option linter.unusedVariables false
attribute [local simp] szR
theorem zz7 (xs : List (List UInt8)) (n : Int) (hn : 0 ≤ n ∧ n ≤ 1048576) (hw : (wfS wfL) xs) : PCall Try.prog 46 [.sl 1 (xs.map cS), (.g (.int .i64 (n)))] (.g (.int .i64 (szR n (szS lenZ xs)))) := by
 have hq := zcc zch xs
 have hw1 := hw.1
 refine zbv Try.func46 (by rfl) (by rfl) (by rw [Try.ntmps46]; exact Nat.le_of_ble_eq_true rfl) rfl (by decide) ?_
 rw [Try.ntmps46]
 refine AW_k [(0, _), (1, _)] ⟨rfl, rfl, trivial⟩ ?_
 refine AW_r rfl rfl fun K hK => ?_
 simp (disch := omega)
 repeat' first | (refine ⟨by omega, ?_⟩) | (intro _)
 refine hK _ ?_; clear hK K
 refine AW_r rfl rfl fun K hK => ?_
 simp (disch := omega)
 repeat' first | (refine ⟨by omega, ?_⟩) | (intro _)
 refine hK _ ?_; clear hK K
 refine zbm ?_
 refine AW_r rfl rfl fun K hK => ?_
 simp (disch := omega)
 repeat' first | (refine ⟨by omega, ?_⟩) | (intro _)
 refine hK _ ?_; clear hK K
 refine zbl rfl (fun hc1 => ?_) (fun hc1 => ?_)
 ·try simp at hc1
  all_goals
   refine AW_r rfl rfl fun K hK => ?_
   simp (disch := omega)
   repeat' first | (exfalso; omega) | (refine ⟨fun _ => ?_, fun _ => ?_⟩) | (refine ⟨by omega, ?_⟩) | (intro _)
   all_goals (refine hK _ ?_; clear hK K)
   all_goals
    refine zbo (zb5 ?_)
    simp (disch := omega) [szS]
    all_goals first | omega | (split <;> omega)
 try simp at hc1
 refine zbn ?_
 refine zbr ?_
 refine zbm ?_
 refine AW_r rfl rfl fun K hK => ?_
 simp (disch := omega)
 repeat' first | (exfalso; omega) | (refine ⟨fun _ => ?_, fun _ => ?_⟩) | (refine ⟨by omega, ?_⟩) | (intro _)
 all_goals (refine hK _ ?_; clear hK K)
 all_goals
  refine zbs ?_
  refine zb4 (fun mM sS => ∃ (i : Nat), mM = xs.length - i ∧ (i ≤ xs.length ∧ 0 ≤ n - xs.length - sumZ lenZ (xs.take i)) ∧ sS = { env := lkE [(0, .sl 1 (xs.map cS)), (1, (.g (.int .i64 (n - xs.length - sumZ lenZ (xs.take i))))), (5, (.g (.int .i64 ((i : Nat)))))], ob := formOb [] [] }) ?_ ?_
  ·refine ⟨_, LeS.kp [(0, .sl 1 (xs.map cS)), (1, (.g (.int .i64 (n - xs.length - sumZ lenZ (xs.take (0)))))), (5, (.g (.int .i64 (((0) : Nat)))))] (by simp [KpE, zbf, zbt, zbd, zdz]; try first | rfl | omega), _, 0, rfl, ?_, rfl⟩
   ·simp [zdz]; omega
  ·rintro mM sS ⟨i, rfl, ⟨hi, hn⟩, rfl⟩
   have hz := zcc zch (xs.take i)
   have hz2 := zf4 zch xs i
   refine zbm ?_
   refine AW_r rfl rfl fun K hK => ?_
   simp (disch := omega) [cS, lenZ]
   repeat' first | (refine ⟨by omega, ?_⟩) | (intro _)
   refine hK _ ?_; clear hK K
   refine zbl rfl (fun hc2 => ?_) (fun hc2 => ?_)
   ·try simp at hc2
    all_goals
     have hl := zqp (f := lenZ) xs i (by omega)
     have hwE : wfL xs[i] := hw.2 _ (List.getElem_mem _)
     have hwE2 : xs[i].length ≤ 9223372036854775807 := hwE
     simp only [lenZ] at hl
     have hz3 := zf4 zch xs (i + 1)
     refine zbn ?_
     refine zbr ?_
     refine zbm ?_
     refine zbs ?_
     refine AW_r rfl rfl fun K hK => ?_
     simp (disch := omega) [cS, lenZ]
     repeat' first | (exfalso; omega) | (refine ⟨fun _ => ?_, fun _ => ?_⟩) | (refine ⟨by omega, ?_⟩) | (intro _)
     all_goals (refine hK _ ?_; clear hK K)
     all_goals
      refine AW_r rfl rfl fun K hK => ?_
      simp (disch := omega) [cS, lenZ]
      repeat' first | (refine ⟨by omega, ?_⟩) | (intro _)
      refine hK _ ?_; clear hK K
      refine zbl rfl (fun hc3 => ?_) (fun hc3 => ?_)
      ·try simp at hc3
       all_goals
        refine AW_r rfl rfl fun K hK => ?_
        simp (disch := omega) [cS, lenZ]
        repeat' first | (exfalso; omega) | (refine ⟨fun _ => ?_, fun _ => ?_⟩) | (refine ⟨by omega, ?_⟩) | (intro _)
        all_goals (refine hK _ ?_; clear hK K)
        all_goals
         refine zbo (zb5 ?_)
         simp (disch := omega) [cS, lenZ, szS]
         all_goals first | omega | (split <;> omega)
      try simp at hc3
      refine zbn ?_
      refine zbr ?_
      refine zc6 rfl rfl fun K hK => ?_
      simp (disch := omega) [cS, lenZ]
      repeat' first | (exfalso; omega) | (refine ⟨fun _ => ?_, fun _ => ?_⟩) | (refine ⟨by omega, ?_⟩) | (intro _)
      all_goals (refine hK _ ?_; clear hK K)
      all_goals
       refine ⟨_, LeS.kp [(0, .sl 1 (xs.map cS)), (1, (.g (.int .i64 (n - xs.length - sumZ lenZ (xs.take (i + 1)))))), (5, (.g (.int .i64 (((i + 1) : Nat)))))] (by simp [KpE, zbf, zbt, zbd, zdz]; try first | rfl | omega), _, ?_, i + 1, rfl, ?_, rfl⟩
       ·omega
       ·omega
   try simp at hc2
   have hi2 : i = xs.length := by omega
   subst hi2
   simp only [List.take_length] at *
   refine zb9 ?_
   refine zbr ?_
   refine AW_r rfl rfl fun K hK => ?_
   simp (disch := omega) [cS, lenZ]
   repeat' first | (exfalso; omega) | (refine ⟨fun _ => ?_, fun _ => ?_⟩) | (refine ⟨by omega, ?_⟩) | (intro _)
   all_goals (refine hK _ ?_; clear hK K)
   all_goals
    refine zbo (zb5 ?_)
    simp (disch := omega) [cS, lenZ, szS]
    all_goals first | omega | (split <;> omega)
attribute [-simp] szR
theorem zq2 (xs ys : List (List UInt8)) (hs : szS lenZ xs ≤ 1048576) : PCall Try.prog 23 [.sl 1 (xs.map cS), .sl 1 (ys.map cS)] (.g (.bool (eqB xs ys))) := by
 have hn : xs.length ≤ 1048576 := by have := zcc zch xs; simp only [szS] at hs; omega
 refine zbv Try.func23 (by rfl) (by rfl) (by rw [Try.ntmps23]; exact Nat.le_of_ble_eq_true rfl) rfl (by decide) ?_
 rw [Try.ntmps23]
 refine AW_k [(0, _), (1, _)] ⟨rfl, rfl, trivial⟩ ?_
 refine AW_r rfl rfl fun K hK => ?_
 simp (disch := omega)
 repeat' first | (refine ⟨by omega, ?_⟩) | (intro _)
 refine hK _ ?_; clear hK K
 refine zbm ?_
 refine AW_r rfl rfl fun K hK => ?_
 simp (disch := omega)
 repeat' first | (refine ⟨by omega, ?_⟩) | (intro _)
 refine hK _ ?_; clear hK K
 refine zbl rfl (fun hc5 => ?_) (fun hc5 => ?_)
 ·try simp at hc5
  all_goals
   refine AW_r rfl rfl fun K hK => ?_
   simp (disch := omega)
   repeat' first | (exfalso; omega) | (refine ⟨fun _ => ?_, fun _ => ?_⟩) | (refine ⟨by omega, ?_⟩) | (intro _)
   all_goals (refine hK _ ?_; clear hK K)
   all_goals
    refine zbo (zb5 ?_)
    simp (disch := omega)
    all_goals first | (exact zcb heq) | (refine zb6 fun heq => ?_; subst heq; simp_all [zbe, zbc, zbw]; done) | (refine (zb6 fun heq => ?_).symm; subst heq; simp_all [zbe, zbc, zbw]; done) | simp_all [zbw]
 try simp at hc5
 refine zbn ?_
 refine zbr ?_
 refine zbm ?_
 refine AW_r rfl rfl fun K hK => ?_
 simp (disch := omega)
 repeat' first | (exfalso; omega) | (refine ⟨fun _ => ?_, fun _ => ?_⟩) | (refine ⟨by omega, ?_⟩) | (intro _)
 all_goals (refine hK _ ?_; clear hK K)
 all_goals
  refine zbs ?_
  refine zb4 (fun mM sS => ∃ (i : Nat), mM = xs.length - i ∧ (i ≤ xs.length ∧ ∀ j, j < i → xs[j]? = ys[j]?) ∧ sS = { env := lkE [(0, .sl 1 (xs.map cS)), (1, .sl 1 (ys.map cS)), (5, (.g (.int .i64 ((i : Nat)))))], ob := formOb [] [] }) ?_ ?_
  ·refine ⟨_, LeS.kp [(0, .sl 1 (xs.map cS)), (1, .sl 1 (ys.map cS)), (5, (.g (.int .i64 (((0) : Nat)))))] (by simp [KpE, zbf, zbt, zbd]; try rfl), _, 0, rfl, ?_, rfl⟩
   ·simp
  ·rintro mM sS ⟨i, rfl, ⟨hi, hpre⟩, rfl⟩
   refine zbm ?_
   refine AW_r rfl rfl fun K hK => ?_
   simp (disch := omega) [cS]
   repeat' first | (refine ⟨by omega, ?_⟩) | (intro _)
   refine hK _ ?_; clear hK K
   refine zbl rfl (fun hc6 => ?_) (fun hc6 => ?_)
   ·try simp at hc6
    all_goals
     have h7 : i < ys.length := by omega
     refine zbn ?_
     refine zbr ?_
     refine zbm ?_
     refine zbs ?_
     refine AW_q rfl mix (by kernel_rfl) rfl fun K hK => ?_
     simp (disch := omega) [cS]
     repeat' first | (exfalso; omega) | (refine ⟨fun _ => ?_, fun _ => ?_⟩) | (refine ⟨by omega, ?_⟩) | (intro _)
     all_goals (refine hK _ ?_; clear hK K)
     all_goals
      refine zbl rfl (fun hc7 => ?_) (fun hc7 => ?_)
      ·try simp at hc7
       all_goals
        refine AW_r rfl rfl fun K hK => ?_
        simp (disch := omega) [cS]
        repeat' first | (exfalso; omega) | (refine ⟨fun _ => ?_, fun _ => ?_⟩) | (refine ⟨by omega, ?_⟩) | (intro _)
        all_goals (refine hK _ ?_; clear hK K)
        all_goals
         refine zbo (zb5 ?_)
         simp (disch := omega) [cS]
         all_goals first | (exact zcb heq) | (refine zb6 fun heq => ?_; subst heq; simp_all [zbe, zbc, zbw]; done) | (refine (zb6 fun heq => ?_).symm; subst heq; simp_all [zbe, zbc, zbw]; done) | simp_all [zbw]
      try simp at hc7
      refine zbn ?_
      refine zbr ?_
      refine zc6 rfl rfl fun K hK => ?_
      simp (disch := omega) [cS]
      repeat' first | (exfalso; omega) | (refine ⟨fun _ => ?_, fun _ => ?_⟩) | (refine ⟨by omega, ?_⟩) | (intro _)
      all_goals (refine hK _ ?_; clear hK K)
      all_goals
       refine ⟨_, LeS.kp [(0, .sl 1 (xs.map cS)), (1, .sl 1 (ys.map cS)), (5, (.g (.int .i64 (((i + 1) : Nat)))))] (by simp [KpE, zbf, zbt, zbd]; try rfl), _, ?_, i + 1, rfl, ?_, rfl⟩
       ·omega
       ·refine ⟨by omega, fun j hj => ?_⟩
        by_cases hji : j = i
        ·subst hji; simp_all [zbe, zbc]
        ·exact hpre j (by omega)
   try simp at hc6
   have hi2 : i = xs.length := by omega
   subst hi2
   have heq : xs = ys := List.ext_getElem? fun j => by
    by_cases hj : j < xs.length
    ·exact hpre j hj
    ·rw [List.getElem?_eq_none (by omega), List.getElem?_eq_none (by omega)]
   refine zb9 ?_
   refine zbr ?_
   refine AW_r rfl rfl fun K hK => ?_
   simp (disch := omega) [cS]
   repeat' first | (exfalso; omega) | (refine ⟨fun _ => ?_, fun _ => ?_⟩) | (refine ⟨by omega, ?_⟩) | (intro _)
   all_goals (refine hK _ ?_; clear hK K)
   all_goals
    refine zbo (zb5 ?_)
    simp (disch := omega) [cS]
    all_goals first | (exact zcb heq) | (refine zb6 fun heq => ?_; subst heq; simp_all [zbe, zbc, zbw]; done) | (refine (zb6 fun heq => ?_).symm; subst heq; simp_all [zbe, zbc, zbw]; done) | simp_all [zbw]
attribute [local simp] szR DtCSnap.cells
attribute [-simp] szR
theorem eqCSnap (u v : DtCSnap) (hs : DtCSnap.sz u ≤ 1048576) : PCall Try.prog 138 [.agg (DtCSnap.cells u), .agg (DtCSnap.cells v)] (.g (.bool (eqB u v))) := by
 simp only [DtCSnap.sz] at hs
 have z2 := (zdc zch) u.fChunks
 have s0 : (u.fName.length : Int) ≤ 1048576 := by omega
 have s1 : (u.fTag.length : Int) ≤ 1048576 := by omega
 have s2 : szS lenZ u.fChunks ≤ 1048576 := by omega
 have he := DtCSnap.ext_iff u v
 refine zbv Try.func138 (by rfl) (by rfl) (by rw [Try.ntmps138]; exact Nat.le_of_ble_eq_true rfl) rfl (by decide) ?_
 rw [Try.ntmps138]
 refine AW_k [(0, _), (1, _)] ⟨rfl, rfl, trivial⟩ ?_
 refine AW_r rfl rfl fun K hK => ?_
 simp
 repeat' first | (refine ⟨by omega, ?_⟩) | (intro _)
 refine hK _ ?_; clear hK K
 refine zbm ?_
 refine AW_r rfl rfl fun K hK => ?_
 simp
 repeat' first | (refine ⟨by omega, ?_⟩) | (intro _)
 refine hK _ ?_; clear hK K
 refine zbl rfl (fun hc11 => ?_) (fun hc11 => ?_)
 ·try simp at hc11
  all_goals
   refine AW_r rfl rfl fun K hK => ?_
   simp
   repeat' first | (refine ⟨fun _ => ?_, fun _ => ?_⟩) | (refine ⟨by omega, ?_⟩) | (intro _)
   all_goals (refine hK _ ?_; clear hK K)
   all_goals
    refine zbo (zb5 ?_)
    simp
    all_goals first | (refine zcb (he.mpr ?_); simp_all [zbe, zbc]; done) | (refine zb6 fun h => ?_; rw [he] at h; simp_all [zbe, zbc, zbw]; done) | (refine (zcb (he.mpr ?_)).symm; simp_all [zbe, zbc]; done) | (refine (zb6 fun h => ?_).symm; rw [he] at h; simp_all [zbe, zbc, zbw]; done)
 try simp at hc11
 refine zbn ?_
 refine zbr ?_
 refine zbm ?_
 refine AW_r rfl rfl fun K hK => ?_
 simp
 repeat' first | (refine ⟨fun _ => ?_, fun _ => ?_⟩) | (refine ⟨by omega, ?_⟩) | (intro _)
 all_goals (refine hK _ ?_; clear hK K)
 all_goals
  refine zbl rfl (fun hc12 => ?_) (fun hc12 => ?_)
  ·try simp at hc12
   all_goals
    refine AW_r rfl rfl fun K hK => ?_
    simp
    repeat' first | (refine ⟨fun _ => ?_, fun _ => ?_⟩) | (refine ⟨by omega, ?_⟩) | (intro _)
    all_goals (refine hK _ ?_; clear hK K)
    all_goals
     refine zbo (zb5 ?_)
     simp
     all_goals first | (refine zcb (he.mpr ?_); simp_all [zbe, zbc]; done) | (refine zb6 fun h => ?_; rw [he] at h; simp_all [zbe, zbc, zbw]; done) | (refine (zcb (he.mpr ?_)).symm; simp_all [zbe, zbc]; done) | (refine (zb6 fun h => ?_).symm; rw [he] at h; simp_all [zbe, zbc, zbw]; done)
  try simp at hc12
  refine zbn ?_
  refine zbr ?_
  refine zbm ?_
  refine AW_r rfl rfl fun K hK => ?_
  simp
  repeat' first | (refine zc3 (zbi zc0 (zbi zc0 zbu)) (zq2 _ _ (by first | assumption | omega)) rfl ?_; simp) | (refine ⟨fun _ => ?_, fun _ => ?_⟩) | (refine ⟨by omega, ?_⟩) | (intro _)
  all_goals (refine hK _ ?_; clear hK K)
  all_goals
   refine zbl rfl (fun hc13 => ?_) (fun hc13 => ?_)
   ·try simp at hc13
    all_goals
     refine AW_r rfl rfl fun K hK => ?_
     simp
     repeat' first | (refine ⟨fun _ => ?_, fun _ => ?_⟩) | (refine ⟨by omega, ?_⟩) | (intro _)
     all_goals (refine hK _ ?_; clear hK K)
     all_goals
      refine zbo (zb5 ?_)
      simp
      all_goals first | (refine zcb (he.mpr ?_); simp_all [zbe, zbc]; done) | (refine zb6 fun h => ?_; rw [he] at h; simp_all [zbe, zbc, zbw]; done) | (refine (zcb (he.mpr ?_)).symm; simp_all [zbe, zbc]; done) | (refine (zb6 fun h => ?_).symm; rw [he] at h; simp_all [zbe, zbc, zbw]; done)
   try simp at hc13
   refine zbn ?_
   refine zbr ?_
   refine AW_r rfl rfl fun K hK => ?_
   simp
   repeat' first | (refine ⟨fun _ => ?_, fun _ => ?_⟩) | (refine ⟨by omega, ?_⟩) | (intro _)
   all_goals (refine hK _ ?_; clear hK K)
   all_goals
    refine zbo (zb5 ?_)
    simp
    all_goals first | (refine zcb (he.mpr ?_); simp_all [zbe, zbc]; done) | (refine zb6 fun h => ?_; rw [he] at h; simp_all [zbe, zbc, zbw]; done) | (refine (zcb (he.mpr ?_)).symm; simp_all [zbe, zbc]; done) | (refine (zb6 fun h => ?_).symm; rw [he] at h; simp_all [zbe, zbc, zbw]; done)
attribute [local simp] szR
attribute [-simp] DtCSnap.cells
attribute [-simp] szR
theorem eqCSnapS (xs ys : List DtCSnap) (hs : szS DtCSnap.sz xs ≤ 1048576) : PCall Try.prog 131 [.sl 3 (xs.map DtCSnap.cells), .sl 3 (ys.map DtCSnap.cells)] (.g (.bool (eqB xs ys))) := by
 have hn : xs.length ≤ 1048576 := by have := zcc DtCSnap.sz_nonneg xs; simp only [szS] at hs; omega
 refine zbv Try.func131 (by rfl) (by rfl) (by rw [Try.ntmps131]; exact Nat.le_of_ble_eq_true rfl) rfl (by decide) ?_
 rw [Try.ntmps131]
 refine AW_k [(0, _), (1, _)] ⟨rfl, rfl, trivial⟩ ?_
 refine AW_r rfl rfl fun K hK => ?_
 simp (disch := omega)
 repeat' first | (refine ⟨by omega, ?_⟩) | (intro _)
 refine hK _ ?_; clear hK K
 refine zbm ?_
 refine AW_r rfl rfl fun K hK => ?_
 simp (disch := omega)
 repeat' first | (refine ⟨by omega, ?_⟩) | (intro _)
 refine hK _ ?_; clear hK K
 refine zbl rfl (fun hc18 => ?_) (fun hc18 => ?_)
 ·try simp at hc18
  all_goals
   refine AW_r rfl rfl fun K hK => ?_
   simp (disch := omega)
   repeat' first | (exfalso; omega) | (refine ⟨fun _ => ?_, fun _ => ?_⟩) | (refine ⟨by omega, ?_⟩) | (intro _)
   all_goals (refine hK _ ?_; clear hK K)
   all_goals
    refine zbo (zb5 ?_)
    simp (disch := omega)
    all_goals first | (exact zcb heq) | (refine zb6 fun heq => ?_; subst heq; simp_all [zbe, zbc, zbw]; done) | (refine (zb6 fun heq => ?_).symm; subst heq; simp_all [zbe, zbc, zbw]; done) | simp_all [zbw]
 try simp at hc18
 refine zbn ?_
 refine zbr ?_
 refine zbm ?_
 refine AW_r rfl rfl fun K hK => ?_
 simp (disch := omega)
 repeat' first | (exfalso; omega) | (refine ⟨fun _ => ?_, fun _ => ?_⟩) | (refine ⟨by omega, ?_⟩) | (intro _)
 all_goals (refine hK _ ?_; clear hK K)
 all_goals
  refine zbs ?_
  refine zb4 (fun mM sS => ∃ (i : Nat), mM = xs.length - i ∧ (i ≤ xs.length ∧ ∀ j, j < i → xs[j]? = ys[j]?) ∧ sS = { env := lkE [(0, .sl 3 (xs.map DtCSnap.cells)), (1, .sl 3 (ys.map DtCSnap.cells)), (5, (.g (.int .i64 ((i : Nat)))))], ob := formOb [] [] }) ?_ ?_
  ·refine ⟨_, LeS.kp [(0, .sl 3 (xs.map DtCSnap.cells)), (1, .sl 3 (ys.map DtCSnap.cells)), (5, (.g (.int .i64 (((0) : Nat)))))] (by simp [KpE, zbf, zbt, zbd]; try rfl), _, 0, rfl, ?_, rfl⟩
   ·simp
  ·rintro mM sS ⟨i, rfl, ⟨hi, hpre⟩, rfl⟩
   refine zbm ?_
   refine AW_r rfl rfl fun K hK => ?_
   simp (disch := omega) [DtCSnap.cells]
   repeat' first | (refine ⟨by omega, ?_⟩) | (intro _)
   refine hK _ ?_; clear hK K
   refine zbl rfl (fun hc19 => ?_) (fun hc19 => ?_)
   ·try simp at hc19
    all_goals
     have h7 : i < ys.length := by omega
     have hsE : DtCSnap.sz xs[i] ≤ 1048576 := by have := zcl DtCSnap.sz_nonneg xs xs[i] (List.getElem_mem _); simp only [szS] at hs; omega
     refine zbn ?_
     refine zbr ?_
     refine zbm ?_
     refine zbs ?_
     refine AW_q rfl mix (by kernel_rfl) rfl fun K hK => ?_
     simp (disch := omega) [DtCSnap.cells]
     repeat' first | (exfalso; omega) | (refine zc3 (zbi (zb7 rfl) (zbi (zb7 rfl) zbu)) (eqCSnap _ _ (by first | assumption | omega)) rfl ?_; simp (disch := omega) [DtCSnap.cells]) | (refine ⟨fun _ => ?_, fun _ => ?_⟩) | (refine ⟨by omega, ?_⟩) | (intro _)
     all_goals (refine hK _ ?_; clear hK K)
     all_goals
      refine zbl rfl (fun hc20 => ?_) (fun hc20 => ?_)
      ·try simp at hc20
       all_goals
        refine AW_r rfl rfl fun K hK => ?_
        simp (disch := omega) [DtCSnap.cells]
        repeat' first | (exfalso; omega) | (refine ⟨fun _ => ?_, fun _ => ?_⟩) | (refine ⟨by omega, ?_⟩) | (intro _)
        all_goals (refine hK _ ?_; clear hK K)
        all_goals
         refine zbo (zb5 ?_)
         simp (disch := omega) [DtCSnap.cells]
         all_goals first | (exact zcb heq) | (refine zb6 fun heq => ?_; subst heq; simp_all [zbe, zbc, zbw]; done) | (refine (zb6 fun heq => ?_).symm; subst heq; simp_all [zbe, zbc, zbw]; done) | simp_all [zbw]
      try simp at hc20
      refine zbn ?_
      refine zbr ?_
      refine zc6 rfl rfl fun K hK => ?_
      simp (disch := omega) [DtCSnap.cells]
      repeat' first | (exfalso; omega) | (refine ⟨fun _ => ?_, fun _ => ?_⟩) | (refine ⟨by omega, ?_⟩) | (intro _)
      all_goals (refine hK _ ?_; clear hK K)
      all_goals
       refine ⟨_, LeS.kp [(0, .sl 3 (xs.map DtCSnap.cells)), (1, .sl 3 (ys.map DtCSnap.cells)), (5, (.g (.int .i64 (((i + 1) : Nat)))))] (by simp [KpE, zbf, zbt, zbd]; try rfl), _, ?_, i + 1, rfl, ?_, rfl⟩
       ·omega
       ·refine ⟨by omega, fun j hj => ?_⟩
        by_cases hji : j = i
        ·subst hji; simp_all [zbe, zbc]
        ·exact hpre j (by omega)
   try simp at hc19
   have hi2 : i = xs.length := by omega
   subst hi2
   have heq : xs = ys := List.ext_getElem? fun j => by
    by_cases hj : j < xs.length
    ·exact hpre j hj
    ·rw [List.getElem?_eq_none (by omega), List.getElem?_eq_none (by omega)]
   refine zb9 ?_
   refine zbr ?_
   refine AW_r rfl rfl fun K hK => ?_
   simp (disch := omega) [DtCSnap.cells]
   repeat' first | (exfalso; omega) | (refine ⟨fun _ => ?_, fun _ => ?_⟩) | (refine ⟨by omega, ?_⟩) | (intro _)
   all_goals (refine hK _ ?_; clear hK K)
   all_goals
    refine zbo (zb5 ?_)
    simp (disch := omega) [DtCSnap.cells]
    all_goals first | (exact zcb heq) | (refine zb6 fun heq => ?_; subst heq; simp_all [zbe, zbc, zbw]; done) | (refine (zb6 fun heq => ?_).symm; subst heq; simp_all [zbe, zbc, zbw]; done) | simp_all [zbw]
attribute [local simp] szR DtCSet.cells
attribute [-simp] szR
theorem eqCSet (u v : DtCSet) (hs : DtCSet.sz u ≤ 1048576) : PCall Try.prog 107 [.agg (DtCSet.cells u), .agg (DtCSet.cells v)] (.g (.bool (eqB u v))) := by
 simp only [DtCSet.sz] at hs
 have z1 := (zdc DtCSnap.sz_nonneg) u.fSnaps
 have s0 : (u.fName.length : Int) ≤ 1048576 := by omega
 have s1 : szS DtCSnap.sz u.fSnaps ≤ 1048576 := by omega
 have he := DtCSet.ext_iff u v
 refine zbv Try.func107 (by rfl) (by rfl) (by rw [Try.ntmps107]; exact Nat.le_of_ble_eq_true rfl) rfl (by decide) ?_
 rw [Try.ntmps107]
 refine AW_k [(0, _), (1, _)] ⟨rfl, rfl, trivial⟩ ?_
 refine AW_r rfl rfl fun K hK => ?_
 simp
 repeat' first | (refine ⟨by omega, ?_⟩) | (intro _)
 refine hK _ ?_; clear hK K
 refine zbm ?_
 refine AW_r rfl rfl fun K hK => ?_
 simp
 repeat' first | (refine ⟨by omega, ?_⟩) | (intro _)
 refine hK _ ?_; clear hK K
 refine zbl rfl (fun hc23 => ?_) (fun hc23 => ?_)
 ·try simp at hc23
  all_goals
   refine AW_r rfl rfl fun K hK => ?_
   simp
   repeat' first | (refine ⟨fun _ => ?_, fun _ => ?_⟩) | (refine ⟨by omega, ?_⟩) | (intro _)
   all_goals (refine hK _ ?_; clear hK K)
   all_goals
    refine zbo (zb5 ?_)
    simp
    all_goals first | (refine zcb (he.mpr ?_); simp_all [zbe, zbc]; done) | (refine zb6 fun h => ?_; rw [he] at h; simp_all [zbe, zbc, zbw]; done) | (refine (zcb (he.mpr ?_)).symm; simp_all [zbe, zbc]; done) | (refine (zb6 fun h => ?_).symm; rw [he] at h; simp_all [zbe, zbc, zbw]; done)
 try simp at hc23
 refine zbn ?_
 refine zbr ?_
 refine zbm ?_
 refine AW_r rfl rfl fun K hK => ?_
 simp
 repeat' first | (refine zc3 (zbi zc0 (zbi zc0 zbu)) (eqCSnapS _ _ (by first | assumption | omega)) rfl ?_; simp) | (refine ⟨fun _ => ?_, fun _ => ?_⟩) | (refine ⟨by omega, ?_⟩) | (intro _)
 all_goals (refine hK _ ?_; clear hK K)
 all_goals
  refine zbl rfl (fun hc24 => ?_) (fun hc24 => ?_)
  ·try simp at hc24
   all_goals
    refine AW_r rfl rfl fun K hK => ?_
    simp
    repeat' first | (refine ⟨fun _ => ?_, fun _ => ?_⟩) | (refine ⟨by omega, ?_⟩) | (intro _)
    all_goals (refine hK _ ?_; clear hK K)
    all_goals
     refine zbo (zb5 ?_)
     simp
     all_goals first | (refine zcb (he.mpr ?_); simp_all [zbe, zbc]; done) | (refine zb6 fun h => ?_; rw [he] at h; simp_all [zbe, zbc, zbw]; done) | (refine (zcb (he.mpr ?_)).symm; simp_all [zbe, zbc]; done) | (refine (zb6 fun h => ?_).symm; rw [he] at h; simp_all [zbe, zbc, zbw]; done)
  try simp at hc24
  refine zbn ?_
  refine zbr ?_
  refine AW_r rfl rfl fun K hK => ?_
  simp
  repeat' first | (refine ⟨fun _ => ?_, fun _ => ?_⟩) | (refine ⟨by omega, ?_⟩) | (intro _)
  all_goals (refine hK _ ?_; clear hK K)
  all_goals
   refine zbo (zb5 ?_)
   simp
   all_goals first | (refine zcb (he.mpr ?_); simp_all [zbe, zbc]; done) | (refine zb6 fun h => ?_; rw [he] at h; simp_all [zbe, zbc, zbw]; done) | (refine (zcb (he.mpr ?_)).symm; simp_all [zbe, zbc]; done) | (refine (zb6 fun h => ?_).symm; rw [he] at h; simp_all [zbe, zbc, zbw]; done)
attribute [local simp] szR
attribute [-simp] DtCSet.cells
attribute [-simp] szR
theorem eqCSetS (xs ys : List DtCSet) (hs : szS DtCSet.sz xs ≤ 1048576) : PCall Try.prog 66 [.sl 2 (xs.map DtCSet.cells), .sl 2 (ys.map DtCSet.cells)] (.g (.bool (eqB xs ys))) := by
 have hn : xs.length ≤ 1048576 := by have := zcc DtCSet.sz_nonneg xs; simp only [szS] at hs; omega
 refine zbv Try.func66 (by rfl) (by rfl) (by rw [Try.ntmps66]; exact Nat.le_of_ble_eq_true rfl) rfl (by decide) ?_
 rw [Try.ntmps66]
 refine AW_k [(0, _), (1, _)] ⟨rfl, rfl, trivial⟩ ?_
 refine AW_r rfl rfl fun K hK => ?_
 simp (disch := omega)
 repeat' first | (refine ⟨by omega, ?_⟩) | (intro _)
 refine hK _ ?_; clear hK K
 refine zbm ?_
 refine AW_r rfl rfl fun K hK => ?_
 simp (disch := omega)
 repeat' first | (refine ⟨by omega, ?_⟩) | (intro _)
 refine hK _ ?_; clear hK K
 refine zbl rfl (fun hc29 => ?_) (fun hc29 => ?_)
 ·try simp at hc29
  all_goals
   refine AW_r rfl rfl fun K hK => ?_
   simp (disch := omega)
   repeat' first | (exfalso; omega) | (refine ⟨fun _ => ?_, fun _ => ?_⟩) | (refine ⟨by omega, ?_⟩) | (intro _)
   all_goals (refine hK _ ?_; clear hK K)
   all_goals
    refine zbo (zb5 ?_)
    simp (disch := omega)
    all_goals first | (exact zcb heq) | (refine zb6 fun heq => ?_; subst heq; simp_all [zbe, zbc, zbw]; done) | (refine (zb6 fun heq => ?_).symm; subst heq; simp_all [zbe, zbc, zbw]; done) | simp_all [zbw]
 try simp at hc29
 refine zbn ?_
 refine zbr ?_
 refine zbm ?_
 refine AW_r rfl rfl fun K hK => ?_
 simp (disch := omega)
 repeat' first | (exfalso; omega) | (refine ⟨fun _ => ?_, fun _ => ?_⟩) | (refine ⟨by omega, ?_⟩) | (intro _)
 all_goals (refine hK _ ?_; clear hK K)
 all_goals
  refine zbs ?_
  refine zb4 (fun mM sS => ∃ (i : Nat), mM = xs.length - i ∧ (i ≤ xs.length ∧ ∀ j, j < i → xs[j]? = ys[j]?) ∧ sS = { env := lkE [(0, .sl 2 (xs.map DtCSet.cells)), (1, .sl 2 (ys.map DtCSet.cells)), (5, (.g (.int .i64 ((i : Nat)))))], ob := formOb [] [] }) ?_ ?_
  ·refine ⟨_, LeS.kp [(0, .sl 2 (xs.map DtCSet.cells)), (1, .sl 2 (ys.map DtCSet.cells)), (5, (.g (.int .i64 (((0) : Nat)))))] (by simp [KpE, zbf, zbt, zbd]; try rfl), _, 0, rfl, ?_, rfl⟩
   ·simp
  ·rintro mM sS ⟨i, rfl, ⟨hi, hpre⟩, rfl⟩
   refine zbm ?_
   refine AW_r rfl rfl fun K hK => ?_
   simp (disch := omega) [DtCSet.cells]
   repeat' first | (refine ⟨by omega, ?_⟩) | (intro _)
   refine hK _ ?_; clear hK K
   refine zbl rfl (fun hc30 => ?_) (fun hc30 => ?_)
   ·try simp at hc30
    all_goals
     have h7 : i < ys.length := by omega
     have hsE : DtCSet.sz xs[i] ≤ 1048576 := by have := zcl DtCSet.sz_nonneg xs xs[i] (List.getElem_mem _); simp only [szS] at hs; omega
     refine zbn ?_
     refine zbr ?_
     refine zbm ?_
     refine zbs ?_
     refine AW_q rfl mix (by kernel_rfl) rfl fun K hK => ?_
     simp (disch := omega) [DtCSet.cells]
     repeat' first | (exfalso; omega) | (refine zc3 (zbi (zb7 rfl) (zbi (zb7 rfl) zbu)) (eqCSet _ _ (by first | assumption | omega)) rfl ?_; simp (disch := omega) [DtCSet.cells]) | (refine ⟨fun _ => ?_, fun _ => ?_⟩) | (refine ⟨by omega, ?_⟩) | (intro _)
     all_goals (refine hK _ ?_; clear hK K)
     all_goals
      refine zbl rfl (fun hc31 => ?_) (fun hc31 => ?_)
      ·try simp at hc31
       all_goals
        refine AW_r rfl rfl fun K hK => ?_
        simp (disch := omega) [DtCSet.cells]
        repeat' first | (exfalso; omega) | (refine ⟨fun _ => ?_, fun _ => ?_⟩) | (refine ⟨by omega, ?_⟩) | (intro _)
        all_goals (refine hK _ ?_; clear hK K)
        all_goals
         refine zbo (zb5 ?_)
         simp (disch := omega) [DtCSet.cells]
         all_goals first | (exact zcb heq) | (refine zb6 fun heq => ?_; subst heq; simp_all [zbe, zbc, zbw]; done) | (refine (zb6 fun heq => ?_).symm; subst heq; simp_all [zbe, zbc, zbw]; done) | simp_all [zbw]
      try simp at hc31
      refine zbn ?_
      refine zbr ?_
      refine zc6 rfl rfl fun K hK => ?_
      simp (disch := omega) [DtCSet.cells]
      repeat' first | (exfalso; omega) | (refine ⟨fun _ => ?_, fun _ => ?_⟩) | (refine ⟨by omega, ?_⟩) | (intro _)
      all_goals (refine hK _ ?_; clear hK K)
      all_goals
       refine ⟨_, LeS.kp [(0, .sl 2 (xs.map DtCSet.cells)), (1, .sl 2 (ys.map DtCSet.cells)), (5, (.g (.int .i64 (((i + 1) : Nat)))))] (by simp [KpE, zbf, zbt, zbd]; try rfl), _, ?_, i + 1, rfl, ?_, rfl⟩
       ·omega
       ·refine ⟨by omega, fun j hj => ?_⟩
        by_cases hji : j = i
        ·subst hji; simp_all [zbe, zbc]
        ·exact hpre j (by omega)
   try simp at hc30
   have hi2 : i = xs.length := by omega
   subst hi2
   have heq : xs = ys := List.ext_getElem? fun j => by
    by_cases hj : j < xs.length
    ·exact hpre j hj
    ·rw [List.getElem?_eq_none (by omega), List.getElem?_eq_none (by omega)]
   refine zb9 ?_
   refine zbr ?_
   refine AW_r rfl rfl fun K hK => ?_
   simp (disch := omega) [DtCSet.cells]
   repeat' first | (exfalso; omega) | (refine ⟨fun _ => ?_, fun _ => ?_⟩) | (refine ⟨by omega, ?_⟩) | (intro _)
   all_goals (refine hK _ ?_; clear hK K)
   all_goals
    refine zbo (zb5 ?_)
    simp (disch := omega) [DtCSet.cells]
    all_goals first | (exact zcb heq) | (refine zb6 fun heq => ?_; subst heq; simp_all [zbe, zbc, zbw]; done) | (refine (zb6 fun heq => ?_).symm; subst heq; simp_all [zbe, zbc, zbw]; done) | simp_all [zbw]
attribute [local simp] szR DtCatalog.cells
attribute [-simp] szR
theorem zz8 (u v : DtCatalog) (hs : DtCatalog.sz u ≤ 1048576) : PCall Try.prog 14 [.agg (DtCatalog.cells u), .agg (DtCatalog.cells v)] (.g (.bool (eqB u v))) := by
 simp only [DtCatalog.sz] at hs
 have z0 := (zdc DtCSet.sz_nonneg) u.fSets
 have s0 : szS DtCSet.sz u.fSets ≤ 1048576 := by omega
 have he := DtCatalog.ext_iff u v
 refine zbv Try.func14 (by rfl) (by rfl) (by rw [Try.ntmps14]; exact Nat.le_of_ble_eq_true rfl) rfl (by decide) ?_
 rw [Try.ntmps14]
 refine AW_k [(0, _), (1, _)] ⟨rfl, rfl, trivial⟩ ?_
 refine AW_r rfl rfl fun K hK => ?_
 simp
 repeat' first | (refine ⟨by omega, ?_⟩) | (intro _)
 refine hK _ ?_; clear hK K
 refine zbm ?_
 refine AW_r rfl rfl fun K hK => ?_
 simp
 repeat' first | (refine zc3 (zbi zc0 (zbi zc0 zbu)) (eqCSetS _ _ (by first | assumption | omega)) rfl ?_; simp) | (refine ⟨by omega, ?_⟩) | (intro _)
 refine hK _ ?_; clear hK K
 refine zbl rfl (fun hc33 => ?_) (fun hc33 => ?_)
 ·try simp at hc33
  all_goals
   refine AW_r rfl rfl fun K hK => ?_
   simp
   repeat' first | (refine ⟨fun _ => ?_, fun _ => ?_⟩) | (refine ⟨by omega, ?_⟩) | (intro _)
   all_goals (refine hK _ ?_; clear hK K)
   all_goals
    refine zbo (zb5 ?_)
    simp
    all_goals first | (refine zcb (he.mpr ?_); simp_all [zbe, zbc]; done) | (refine zb6 fun h => ?_; rw [he] at h; simp_all [zbe, zbc, zbw]; done) | (refine (zcb (he.mpr ?_)).symm; simp_all [zbe, zbc]; done) | (refine (zb6 fun h => ?_).symm; rw [he] at h; simp_all [zbe, zbc, zbw]; done)
 try simp at hc33
 refine zbn ?_
 refine zbr ?_
 refine AW_r rfl rfl fun K hK => ?_
 simp
 repeat' first | (refine ⟨fun _ => ?_, fun _ => ?_⟩) | (refine ⟨by omega, ?_⟩) | (intro _)
 all_goals (refine hK _ ?_; clear hK K)
 all_goals
  refine zbo (zb5 ?_)
  simp
  all_goals first | (refine zcb (he.mpr ?_); simp_all [zbe, zbc]; done) | (refine zb6 fun h => ?_; rw [he] at h; simp_all [zbe, zbc, zbw]; done) | (refine (zcb (he.mpr ?_)).symm; simp_all [zbe, zbc]; done) | (refine (zb6 fun h => ?_).symm; rw [he] at h; simp_all [zbe, zbc, zbw]; done)
attribute [local simp] szR DtCmd.cells
attribute [-simp] DtCatalog.cells
theorem szCmd (u : DtCmd) (n : Int) (hn : 0 ≤ n ∧ n ≤ 1048576) (hw : DtCmd.wf u) : PCall Try.prog 9 [.agg (DtCmd.cells u), (.g (.int .i64 (n)))] (.g (.int .i64 (szR n (DtCmd.sz u)))) := by
 have ⟨w0, w1, w2, w3, w4, w5, w6, w7⟩ := hw
 have w32 : u.fSet.length ≤ 9223372036854775807 := w3
 have w42 : u.fName.length ≤ 9223372036854775807 := w4
 have w52 : u.fTag.length ≤ 9223372036854775807 := w5
 have w72 := w7.1
 have z7 := (zdc zch) u.fChunks
 refine zbv Try.func9 (by rfl) (by rfl) (by rw [Try.ntmps9]; exact Nat.le_of_ble_eq_true rfl) rfl (by decide) ?_
 rw [Try.ntmps9]
 refine AW_k [(0, _), (1, _)] ⟨rfl, rfl, trivial⟩ ?_
 refine AW_r rfl rfl fun K hK => ?_
 simp (disch := omega)
 repeat' first | (refine ⟨by omega, ?_⟩) | (intro _)
 refine hK _ ?_; clear hK K
 refine AW_r rfl rfl fun K hK => ?_
 simp (disch := omega)
 repeat' first | (refine ⟨by omega, ?_⟩) | (intro _)
 refine hK _ ?_; clear hK K
 refine zbm ?_
 refine AW_r rfl rfl fun K hK => ?_
 simp (disch := omega)
 repeat' first | (refine ⟨by omega, ?_⟩) | (intro _)
 refine hK _ ?_; clear hK K
 refine zbl rfl (fun hc34 => ?_) (fun hc34 => ?_)
 ·try simp at hc34
  all_goals
   refine AW_r rfl rfl fun K hK => ?_
   simp (disch := omega)
   repeat' first | (exfalso; omega) | (refine ⟨fun _ => ?_, fun _ => ?_⟩) | (refine ⟨by omega, ?_⟩) | (intro _)
   all_goals (refine hK _ ?_; clear hK K)
   all_goals
    refine zbo (zb5 ?_)
    simp (disch := omega) [DtCmd.sz]
    all_goals first | omega | (simp_all; done) | (split <;> omega) | (split <;> simp_all <;> omega) | (simp_all [szR]; omega)
 try simp at hc34
 refine zbn ?_
 refine zbr ?_
 refine AW_r rfl rfl fun K hK => ?_
 simp (disch := omega)
 repeat' first | (exfalso; omega) | (refine ⟨fun _ => ?_, fun _ => ?_⟩) | (refine ⟨by omega, ?_⟩) | (intro _)
 all_goals (refine hK _ ?_; clear hK K)
 all_goals
  refine zbm ?_
  refine AW_r rfl rfl fun K hK => ?_
  simp (disch := omega)
  repeat' first | (refine ⟨by omega, ?_⟩) | (intro _)
  refine hK _ ?_; clear hK K
  refine zbl rfl (fun hc35 => ?_) (fun hc35 => ?_)
  ·try simp at hc35
   all_goals
    refine AW_r rfl rfl fun K hK => ?_
    simp (disch := omega)
    repeat' first | (exfalso; omega) | (refine ⟨fun _ => ?_, fun _ => ?_⟩) | (refine ⟨by omega, ?_⟩) | (intro _)
    all_goals (refine hK _ ?_; clear hK K)
    all_goals
     refine zbo (zb5 ?_)
     simp (disch := omega) [DtCmd.sz]
     all_goals first | omega | (simp_all; done) | (split <;> omega) | (split <;> simp_all <;> omega) | (simp_all [szR]; omega)
  try simp at hc35
  refine zbn ?_
  refine zbr ?_
  refine AW_r rfl rfl fun K hK => ?_
  simp (disch := omega)
  repeat' first | (exfalso; omega) | (refine ⟨fun _ => ?_, fun _ => ?_⟩) | (refine ⟨by omega, ?_⟩) | (intro _)
  all_goals (refine hK _ ?_; clear hK K)
  all_goals
   refine zbm ?_
   refine AW_r rfl rfl fun K hK => ?_
   simp (disch := omega)
   repeat' first | (refine ⟨by omega, ?_⟩) | (intro _)
   refine hK _ ?_; clear hK K
   refine zbl rfl (fun hc36 => ?_) (fun hc36 => ?_)
   ·try simp at hc36
    all_goals
     refine AW_r rfl rfl fun K hK => ?_
     simp (disch := omega)
     repeat' first | (exfalso; omega) | (refine ⟨fun _ => ?_, fun _ => ?_⟩) | (refine ⟨by omega, ?_⟩) | (intro _)
     all_goals (refine hK _ ?_; clear hK K)
     all_goals
      refine zbo (zb5 ?_)
      simp (disch := omega) [DtCmd.sz]
      all_goals first | omega | (simp_all; done) | (split <;> omega) | (split <;> simp_all <;> omega) | (simp_all [szR]; omega)
   try simp at hc36
   refine zbn ?_
   refine zbr ?_
   refine AW_r rfl rfl fun K hK => ?_
   simp (disch := omega)
   repeat' first | (exfalso; omega) | (refine zc3 (zbi zc0 (zbi zct zbu)) (zz7 _ _ (by omega) (by assumption)) rfl ?_; simp (disch := omega)) | (refine ⟨fun _ => ?_, fun _ => ?_⟩) | (refine ⟨by omega, ?_⟩) | (intro _)
   all_goals (refine hK _ ?_; clear hK K)
   all_goals
    refine zbm ?_
    refine AW_r rfl rfl fun K hK => ?_
    simp (disch := omega)
    repeat' first | (refine ⟨by omega, ?_⟩) | (intro _)
    refine hK _ ?_; clear hK K
    refine zbl rfl (fun hc37 => ?_) (fun hc37 => ?_)
    ·try simp at hc37
     all_goals
      refine AW_r rfl rfl fun K hK => ?_
      simp (disch := omega)
      repeat' first | (exfalso; omega) | (refine ⟨fun _ => ?_, fun _ => ?_⟩) | (refine ⟨by omega, ?_⟩) | (intro _)
      all_goals (refine hK _ ?_; clear hK K)
      all_goals
       refine zbo (zb5 ?_)
       simp (disch := omega) [DtCmd.sz]
       all_goals first | omega | (simp_all; done) | (split <;> omega) | (split <;> simp_all <;> omega) | (simp_all [szR]; omega)
    try simp at hc37
    refine zbn ?_
    refine zbr ?_
    refine AW_r rfl rfl fun K hK => ?_
    simp (disch := omega)
    repeat' first | (exfalso; omega) | (refine ⟨fun _ => ?_, fun _ => ?_⟩) | (refine ⟨by omega, ?_⟩) | (intro _)
    all_goals (refine hK _ ?_; clear hK K)
    all_goals
     refine zbo (zb5 ?_)
     simp (disch := omega) [DtCmd.sz]
     all_goals first | omega | (simp_all; done) | (split <;> omega) | (split <;> simp_all <;> omega) | (simp_all [szR]; omega)
attribute [-simp] szR
theorem eqCmd (u v : DtCmd) (hs : DtCmd.sz u ≤ 1048576) : PCall Try.prog 15 [.agg (DtCmd.cells u), .agg (DtCmd.cells v)] (.g (.bool (eqB u v))) := by
 simp only [DtCmd.sz] at hs
 have z7 := (zdc zch) u.fChunks
 have s3 : (u.fSet.length : Int) ≤ 1048576 := by omega
 have s4 : (u.fName.length : Int) ≤ 1048576 := by omega
 have s5 : (u.fTag.length : Int) ≤ 1048576 := by omega
 have s7 : szS lenZ u.fChunks ≤ 1048576 := by omega
 have he := DtCmd.ext_iff u v
 refine zbv Try.func15 (by rfl) (by rfl) (by rw [Try.ntmps15]; exact Nat.le_of_ble_eq_true rfl) rfl (by decide) ?_
 rw [Try.ntmps15]
 refine AW_k [(0, _), (1, _)] ⟨rfl, rfl, trivial⟩ ?_
 refine AW_r rfl rfl fun K hK => ?_
 simp
 repeat' first | (refine ⟨by omega, ?_⟩) | (intro _)
 refine hK _ ?_; clear hK K
 refine zbm ?_
 refine AW_r rfl rfl fun K hK => ?_
 simp
 repeat' first | (refine ⟨by omega, ?_⟩) | (intro _)
 refine hK _ ?_; clear hK K
 refine zbl rfl (fun hc38 => ?_) (fun hc38 => ?_)
 ·try simp at hc38
  all_goals
   refine AW_r rfl rfl fun K hK => ?_
   simp
   repeat' first | (refine ⟨fun _ => ?_, fun _ => ?_⟩) | (refine ⟨by omega, ?_⟩) | (intro _)
   all_goals (refine hK _ ?_; clear hK K)
   all_goals
    refine zbo (zb5 ?_)
    simp
    all_goals first | (refine zcb (he.mpr ?_); simp_all [zbe, zbc]; done) | (refine zb6 fun h => ?_; rw [he] at h; simp_all [zbe, zbc, zbw]; done) | (refine (zcb (he.mpr ?_)).symm; simp_all [zbe, zbc]; done) | (refine (zb6 fun h => ?_).symm; rw [he] at h; simp_all [zbe, zbc, zbw]; done)
 try simp at hc38
 refine zbn ?_
 refine zbr ?_
 refine zbm ?_
 refine AW_r rfl rfl fun K hK => ?_
 simp
 repeat' first | (refine ⟨fun _ => ?_, fun _ => ?_⟩) | (refine ⟨by omega, ?_⟩) | (intro _)
 all_goals (refine hK _ ?_; clear hK K)
 all_goals
  refine zbl rfl (fun hc39 => ?_) (fun hc39 => ?_)
  ·try simp at hc39
   all_goals
    refine AW_r rfl rfl fun K hK => ?_
    simp
    repeat' first | (refine ⟨fun _ => ?_, fun _ => ?_⟩) | (refine ⟨by omega, ?_⟩) | (intro _)
    all_goals (refine hK _ ?_; clear hK K)
    all_goals
     refine zbo (zb5 ?_)
     simp
     all_goals first | (refine zcb (he.mpr ?_); simp_all [zbe, zbc]; done) | (refine zb6 fun h => ?_; rw [he] at h; simp_all [zbe, zbc, zbw]; done) | (refine (zcb (he.mpr ?_)).symm; simp_all [zbe, zbc]; done) | (refine (zb6 fun h => ?_).symm; rw [he] at h; simp_all [zbe, zbc, zbw]; done)
  try simp at hc39
  refine zbn ?_
  refine zbr ?_
  refine zbm ?_
  refine AW_r rfl rfl fun K hK => ?_
  simp
  repeat' first | (refine ⟨fun _ => ?_, fun _ => ?_⟩) | (refine ⟨by omega, ?_⟩) | (intro _)
  all_goals (refine hK _ ?_; clear hK K)
  all_goals
   refine zbl rfl (fun hc40 => ?_) (fun hc40 => ?_)
   ·try simp at hc40
    all_goals
     refine AW_r rfl rfl fun K hK => ?_
     simp
     repeat' first | (refine ⟨fun _ => ?_, fun _ => ?_⟩) | (refine ⟨by omega, ?_⟩) | (intro _)
     all_goals (refine hK _ ?_; clear hK K)
     all_goals
      refine zbo (zb5 ?_)
      simp
      all_goals first | (refine zcb (he.mpr ?_); simp_all [zbe, zbc]; done) | (refine zb6 fun h => ?_; rw [he] at h; simp_all [zbe, zbc, zbw]; done) | (refine (zcb (he.mpr ?_)).symm; simp_all [zbe, zbc]; done) | (refine (zb6 fun h => ?_).symm; rw [he] at h; simp_all [zbe, zbc, zbw]; done)
   try simp at hc40
   refine zbn ?_
   refine zbr ?_
   refine zbm ?_
   refine AW_r rfl rfl fun K hK => ?_
   simp
   repeat' first | (refine ⟨fun _ => ?_, fun _ => ?_⟩) | (refine ⟨by omega, ?_⟩) | (intro _)
   all_goals (refine hK _ ?_; clear hK K)
   all_goals
    refine zbl rfl (fun hc41 => ?_) (fun hc41 => ?_)
    ·try simp at hc41
     all_goals
      refine AW_r rfl rfl fun K hK => ?_
      simp
      repeat' first | (refine ⟨fun _ => ?_, fun _ => ?_⟩) | (refine ⟨by omega, ?_⟩) | (intro _)
      all_goals (refine hK _ ?_; clear hK K)
      all_goals
       refine zbo (zb5 ?_)
       simp
       all_goals first | (refine zcb (he.mpr ?_); simp_all [zbe, zbc]; done) | (refine zb6 fun h => ?_; rw [he] at h; simp_all [zbe, zbc, zbw]; done) | (refine (zcb (he.mpr ?_)).symm; simp_all [zbe, zbc]; done) | (refine (zb6 fun h => ?_).symm; rw [he] at h; simp_all [zbe, zbc, zbw]; done)
    try simp at hc41
    refine zbn ?_
    refine zbr ?_
    refine zbm ?_
    refine AW_r rfl rfl fun K hK => ?_
    simp
    repeat' first | (refine ⟨fun _ => ?_, fun _ => ?_⟩) | (refine ⟨by omega, ?_⟩) | (intro _)
    all_goals (refine hK _ ?_; clear hK K)
    all_goals
     refine zbl rfl (fun hc42 => ?_) (fun hc42 => ?_)
     ·try simp at hc42
      all_goals
       refine AW_r rfl rfl fun K hK => ?_
       simp
       repeat' first | (refine ⟨fun _ => ?_, fun _ => ?_⟩) | (refine ⟨by omega, ?_⟩) | (intro _)
       all_goals (refine hK _ ?_; clear hK K)
       all_goals
        refine zbo (zb5 ?_)
        simp
        all_goals first | (refine zcb (he.mpr ?_); simp_all [zbe, zbc]; done) | (refine zb6 fun h => ?_; rw [he] at h; simp_all [zbe, zbc, zbw]; done) | (refine (zcb (he.mpr ?_)).symm; simp_all [zbe, zbc]; done) | (refine (zb6 fun h => ?_).symm; rw [he] at h; simp_all [zbe, zbc, zbw]; done)
     try simp at hc42
     refine zbn ?_
     refine zbr ?_
     refine zbm ?_
     refine AW_r rfl rfl fun K hK => ?_
     simp
     repeat' first | (refine ⟨fun _ => ?_, fun _ => ?_⟩) | (refine ⟨by omega, ?_⟩) | (intro _)
     all_goals (refine hK _ ?_; clear hK K)
     all_goals
      refine zbl rfl (fun hc43 => ?_) (fun hc43 => ?_)
      ·try simp at hc43
       all_goals
        refine AW_r rfl rfl fun K hK => ?_
        simp
        repeat' first | (refine ⟨fun _ => ?_, fun _ => ?_⟩) | (refine ⟨by omega, ?_⟩) | (intro _)
        all_goals (refine hK _ ?_; clear hK K)
        all_goals
         refine zbo (zb5 ?_)
         simp
         all_goals first | (refine zcb (he.mpr ?_); simp_all [zbe, zbc]; done) | (refine zb6 fun h => ?_; rw [he] at h; simp_all [zbe, zbc, zbw]; done) | (refine (zcb (he.mpr ?_)).symm; simp_all [zbe, zbc]; done) | (refine (zb6 fun h => ?_).symm; rw [he] at h; simp_all [zbe, zbc, zbw]; done)
      try simp at hc43
      refine zbn ?_
      refine zbr ?_
      refine zbm ?_
      refine AW_r rfl rfl fun K hK => ?_
      simp
      repeat' first | (refine ⟨fun _ => ?_, fun _ => ?_⟩) | (refine ⟨by omega, ?_⟩) | (intro _)
      all_goals (refine hK _ ?_; clear hK K)
      all_goals
       refine zbl rfl (fun hc44 => ?_) (fun hc44 => ?_)
       ·try simp at hc44
        all_goals
         refine AW_r rfl rfl fun K hK => ?_
         simp
         repeat' first | (refine ⟨fun _ => ?_, fun _ => ?_⟩) | (refine ⟨by omega, ?_⟩) | (intro _)
         all_goals (refine hK _ ?_; clear hK K)
         all_goals
          refine zbo (zb5 ?_)
          simp
          all_goals first | (refine zcb (he.mpr ?_); simp_all [zbe, zbc]; done) | (refine zb6 fun h => ?_; rw [he] at h; simp_all [zbe, zbc, zbw]; done) | (refine (zcb (he.mpr ?_)).symm; simp_all [zbe, zbc]; done) | (refine (zb6 fun h => ?_).symm; rw [he] at h; simp_all [zbe, zbc, zbw]; done)
       try simp at hc44
       refine zbn ?_
       refine zbr ?_
       refine zbm ?_
       refine AW_r rfl rfl fun K hK => ?_
       simp
       repeat' first | (refine zc3 (zbi zc0 (zbi zc0 zbu)) (zq2 _ _ (by first | assumption | omega)) rfl ?_; simp) | (refine ⟨fun _ => ?_, fun _ => ?_⟩) | (refine ⟨by omega, ?_⟩) | (intro _)
       all_goals (refine hK _ ?_; clear hK K)
       all_goals
        refine zbl rfl (fun hc45 => ?_) (fun hc45 => ?_)
        ·try simp at hc45
         all_goals
          refine AW_r rfl rfl fun K hK => ?_
          simp
          repeat' first | (refine ⟨fun _ => ?_, fun _ => ?_⟩) | (refine ⟨by omega, ?_⟩) | (intro _)
          all_goals (refine hK _ ?_; clear hK K)
          all_goals
           refine zbo (zb5 ?_)
           simp
           all_goals first | (refine zcb (he.mpr ?_); simp_all [zbe, zbc]; done) | (refine zb6 fun h => ?_; rw [he] at h; simp_all [zbe, zbc, zbw]; done) | (refine (zcb (he.mpr ?_)).symm; simp_all [zbe, zbc]; done) | (refine (zb6 fun h => ?_).symm; rw [he] at h; simp_all [zbe, zbc, zbw]; done)
        try simp at hc45
        refine zbn ?_
        refine zbr ?_
        refine AW_r rfl rfl fun K hK => ?_
        simp
        repeat' first | (refine ⟨fun _ => ?_, fun _ => ?_⟩) | (refine ⟨by omega, ?_⟩) | (intro _)
        all_goals (refine hK _ ?_; clear hK K)
        all_goals
         refine zbo (zb5 ?_)
         simp
         all_goals first | (refine zcb (he.mpr ?_); simp_all [zbe, zbc]; done) | (refine zb6 fun h => ?_; rw [he] at h; simp_all [zbe, zbc, zbw]; done) | (refine (zcb (he.mpr ?_)).symm; simp_all [zbe, zbc]; done) | (refine (zb6 fun h => ?_).symm; rw [he] at h; simp_all [zbe, zbc, zbw]; done)
attribute [local simp] szR
attribute [-simp] DtCmd.cells
theorem zt5 (xs : List DtCmd) (n : Int) (hn : 0 ≤ n ∧ n ≤ 1048576) (hw : (wfS DtCmd.wf) xs) : PCall Try.prog 19 [.sl 8 (xs.map DtCmd.cells), (.g (.int .i64 (n)))] (.g (.int .i64 (szR n (szS DtCmd.sz xs)))) := by
 have hq := zcc DtCmd.sz_nonneg xs
 have hw1 := hw.1
 refine zbv Try.func19 (by rfl) (by rfl) (by rw [Try.ntmps19]; exact Nat.le_of_ble_eq_true rfl) rfl (by decide) ?_
 rw [Try.ntmps19]
 refine AW_k [(0, _), (1, _)] ⟨rfl, rfl, trivial⟩ ?_
 refine AW_r rfl rfl fun K hK => ?_
 simp (disch := omega)
 repeat' first | (refine ⟨by omega, ?_⟩) | (intro _)
 refine hK _ ?_; clear hK K
 refine AW_r rfl rfl fun K hK => ?_
 simp (disch := omega)
 repeat' first | (refine ⟨by omega, ?_⟩) | (intro _)
 refine hK _ ?_; clear hK K
 refine zbm ?_
 refine AW_r rfl rfl fun K hK => ?_
 simp (disch := omega)
 repeat' first | (refine ⟨by omega, ?_⟩) | (intro _)
 refine hK _ ?_; clear hK K
 refine zbl rfl (fun hc46 => ?_) (fun hc46 => ?_)
 ·try simp at hc46
  all_goals
   refine AW_r rfl rfl fun K hK => ?_
   simp (disch := omega)
   repeat' first | (exfalso; omega) | (refine ⟨fun _ => ?_, fun _ => ?_⟩) | (refine ⟨by omega, ?_⟩) | (intro _)
   all_goals (refine hK _ ?_; clear hK K)
   all_goals
    refine zbo (zb5 ?_)
    simp (disch := omega) [szS]
    all_goals first | omega | (split <;> omega)
 try simp at hc46
 refine zbn ?_
 refine zbr ?_
 refine zbm ?_
 refine AW_r rfl rfl fun K hK => ?_
 simp (disch := omega)
 repeat' first | (exfalso; omega) | (refine ⟨fun _ => ?_, fun _ => ?_⟩) | (refine ⟨by omega, ?_⟩) | (intro _)
 all_goals (refine hK _ ?_; clear hK K)
 all_goals
  refine zbs ?_
  refine zb4 (fun mM sS => ∃ (i : Nat), mM = xs.length - i ∧ (i ≤ xs.length ∧ 0 ≤ n - xs.length - sumZ DtCmd.sz (xs.take i)) ∧ sS = { env := lkE [(0, .sl 8 (xs.map DtCmd.cells)), (1, (.g (.int .i64 (n - xs.length - sumZ DtCmd.sz (xs.take i))))), (5, (.g (.int .i64 ((i : Nat)))))], ob := formOb [] [] }) ?_ ?_
  ·refine ⟨_, LeS.kp [(0, .sl 8 (xs.map DtCmd.cells)), (1, (.g (.int .i64 (n - xs.length - sumZ DtCmd.sz (xs.take (0)))))), (5, (.g (.int .i64 (((0) : Nat)))))] (by simp [KpE, zbf, zbt, zbd, zdz]; try first | rfl | omega), _, 0, rfl, ?_, rfl⟩
   ·simp [zdz]; omega
  ·rintro mM sS ⟨i, rfl, ⟨hi, hn⟩, rfl⟩
   have hz := zcc DtCmd.sz_nonneg (xs.take i)
   have hz2 := zf4 DtCmd.sz_nonneg xs i
   refine zbm ?_
   refine AW_r rfl rfl fun K hK => ?_
   simp (disch := omega) [DtCmd.cells]
   repeat' first | (refine ⟨by omega, ?_⟩) | (intro _)
   refine hK _ ?_; clear hK K
   refine zbl rfl (fun hc47 => ?_) (fun hc47 => ?_)
   ·try simp at hc47
    all_goals
     have hl := zqp (f := DtCmd.sz) xs i (by omega)
     have hwE : DtCmd.wf xs[i] := hw.2 _ (List.getElem_mem _)
     have hz3 := zf4 DtCmd.sz_nonneg xs (i + 1)
     have hzE := DtCmd.sz_nonneg xs[i]
     have hszR : szR (n - xs.length - sumZ DtCmd.sz (xs.take i)) (DtCmd.sz xs[i]) = n - xs.length - sumZ DtCmd.sz (xs.take (i + 1)) ∨ (szR (n - xs.length - sumZ DtCmd.sz (xs.take i)) (DtCmd.sz xs[i]) = -1 ∧ n - xs.length - sumZ DtCmd.sz (xs.take (i + 1)) < 0) := by unfold szR; split <;> omega
     refine zbn ?_
     refine zbr ?_
     refine zbm ?_
     refine zbs ?_
     refine AW_r rfl rfl fun K hK => ?_
     simp (disch := omega) [DtCmd.cells]
     repeat' first | (exfalso; omega) | (refine zc3 (zbi (zb7 rfl) (zbi zct zbu)) (szCmd _ _ (by omega) (by first | exact hwE | exact hw)) rfl ?_; simp (disch := omega) [DtCmd.cells]) | (refine ⟨fun _ => ?_, fun _ => ?_⟩) | (refine ⟨by omega, ?_⟩) | (intro _)
     all_goals (refine hK _ ?_; clear hK K)
     all_goals
      refine AW_r rfl rfl fun K hK => ?_
      simp (disch := omega) [DtCmd.cells]
      repeat' first | (refine ⟨by omega, ?_⟩) | (intro _)
      refine hK _ ?_; clear hK K
      refine zbl rfl (fun hc48 => ?_) (fun hc48 => ?_)
      ·try simp at hc48
       all_goals
        refine AW_r rfl rfl fun K hK => ?_
        simp (disch := omega) [DtCmd.cells]
        repeat' first | (exfalso; omega) | (refine ⟨fun _ => ?_, fun _ => ?_⟩) | (refine ⟨by omega, ?_⟩) | (intro _)
        all_goals (refine hK _ ?_; clear hK K)
        all_goals
         refine zbo (zb5 ?_)
         simp (disch := omega) [DtCmd.cells, szS]
         all_goals first | omega | (split <;> omega)
      try simp at hc48
      refine zbn ?_
      refine zbr ?_
      refine zc6 rfl rfl fun K hK => ?_
      simp (disch := omega) [DtCmd.cells]
      repeat' first | (exfalso; omega) | (refine ⟨fun _ => ?_, fun _ => ?_⟩) | (refine ⟨by omega, ?_⟩) | (intro _)
      all_goals (refine hK _ ?_; clear hK K)
      all_goals
       refine ⟨_, LeS.kp [(0, .sl 8 (xs.map DtCmd.cells)), (1, (.g (.int .i64 (n - xs.length - sumZ DtCmd.sz (xs.take (i + 1)))))), (5, (.g (.int .i64 (((i + 1) : Nat)))))] (by simp [KpE, zbf, zbt, zbd, zdz]; try first | rfl | omega), _, ?_, i + 1, rfl, ?_, rfl⟩
       ·omega
       ·omega
   try simp at hc47
   have hi2 : i = xs.length := by omega
   subst hi2
   simp only [List.take_length] at *
   refine zb9 ?_
   refine zbr ?_
   refine AW_r rfl rfl fun K hK => ?_
   simp (disch := omega) [DtCmd.cells]
   repeat' first | (exfalso; omega) | (refine ⟨fun _ => ?_, fun _ => ?_⟩) | (refine ⟨by omega, ?_⟩) | (intro _)
   all_goals (refine hK _ ?_; clear hK K)
   all_goals
    refine zbo (zb5 ?_)
    simp (disch := omega) [DtCmd.cells, szS]
    all_goals first | omega | (split <;> omega)
attribute [-simp] szR
theorem eqCmdS (xs ys : List DtCmd) (hs : szS DtCmd.sz xs ≤ 1048576) : PCall Try.prog 24 [.sl 8 (xs.map DtCmd.cells), .sl 8 (ys.map DtCmd.cells)] (.g (.bool (eqB xs ys))) := by
 have hn : xs.length ≤ 1048576 := by have := zcc DtCmd.sz_nonneg xs; simp only [szS] at hs; omega
 refine zbv Try.func24 (by rfl) (by rfl) (by rw [Try.ntmps24]; exact Nat.le_of_ble_eq_true rfl) rfl (by decide) ?_
 rw [Try.ntmps24]
 refine AW_k [(0, _), (1, _)] ⟨rfl, rfl, trivial⟩ ?_
 refine AW_r rfl rfl fun K hK => ?_
 simp (disch := omega)
 repeat' first | (refine ⟨by omega, ?_⟩) | (intro _)
 refine hK _ ?_; clear hK K
 refine zbm ?_
 refine AW_r rfl rfl fun K hK => ?_
 simp (disch := omega)
 repeat' first | (refine ⟨by omega, ?_⟩) | (intro _)
 refine hK _ ?_; clear hK K
 refine zbl rfl (fun hc50 => ?_) (fun hc50 => ?_)
 ·try simp at hc50
  all_goals
   refine AW_r rfl rfl fun K hK => ?_
   simp (disch := omega)
   repeat' first | (exfalso; omega) | (refine ⟨fun _ => ?_, fun _ => ?_⟩) | (refine ⟨by omega, ?_⟩) | (intro _)
   all_goals (refine hK _ ?_; clear hK K)
   all_goals
    refine zbo (zb5 ?_)
    simp (disch := omega)
    all_goals first | (exact zcb heq) | (refine zb6 fun heq => ?_; subst heq; simp_all [zbe, zbc, zbw]; done) | (refine (zb6 fun heq => ?_).symm; subst heq; simp_all [zbe, zbc, zbw]; done) | simp_all [zbw]
 try simp at hc50
 refine zbn ?_
 refine zbr ?_
 refine zbm ?_
 refine AW_r rfl rfl fun K hK => ?_
 simp (disch := omega)
 repeat' first | (exfalso; omega) | (refine ⟨fun _ => ?_, fun _ => ?_⟩) | (refine ⟨by omega, ?_⟩) | (intro _)
 all_goals (refine hK _ ?_; clear hK K)
 all_goals
  refine zbs ?_
  refine zb4 (fun mM sS => ∃ (i : Nat), mM = xs.length - i ∧ (i ≤ xs.length ∧ ∀ j, j < i → xs[j]? = ys[j]?) ∧ sS = { env := lkE [(0, .sl 8 (xs.map DtCmd.cells)), (1, .sl 8 (ys.map DtCmd.cells)), (5, (.g (.int .i64 ((i : Nat)))))], ob := formOb [] [] }) ?_ ?_
  ·refine ⟨_, LeS.kp [(0, .sl 8 (xs.map DtCmd.cells)), (1, .sl 8 (ys.map DtCmd.cells)), (5, (.g (.int .i64 (((0) : Nat)))))] (by simp [KpE, zbf, zbt, zbd]; try rfl), _, 0, rfl, ?_, rfl⟩
   ·simp
  ·rintro mM sS ⟨i, rfl, ⟨hi, hpre⟩, rfl⟩
   refine zbm ?_
   refine AW_r rfl rfl fun K hK => ?_
   simp (disch := omega) [DtCmd.cells]
   repeat' first | (refine ⟨by omega, ?_⟩) | (intro _)
   refine hK _ ?_; clear hK K
   refine zbl rfl (fun hc51 => ?_) (fun hc51 => ?_)
   ·try simp at hc51
    all_goals
     have h7 : i < ys.length := by omega
     have hsE : DtCmd.sz xs[i] ≤ 1048576 := by have := zcl DtCmd.sz_nonneg xs xs[i] (List.getElem_mem _); simp only [szS] at hs; omega
     refine zbn ?_
     refine zbr ?_
     refine zbm ?_
     refine zbs ?_
     refine AW_q rfl mix (by kernel_rfl) rfl fun K hK => ?_
     simp (disch := omega) [DtCmd.cells]
     repeat' first | (exfalso; omega) | (refine zc3 (zbi (zb7 rfl) (zbi (zb7 rfl) zbu)) (eqCmd _ _ (by first | assumption | omega)) rfl ?_; simp (disch := omega) [DtCmd.cells]) | (refine ⟨fun _ => ?_, fun _ => ?_⟩) | (refine ⟨by omega, ?_⟩) | (intro _)
     all_goals (refine hK _ ?_; clear hK K)
     all_goals
      refine zbl rfl (fun hc52 => ?_) (fun hc52 => ?_)
      ·try simp at hc52
       all_goals
        refine AW_r rfl rfl fun K hK => ?_
        simp (disch := omega) [DtCmd.cells]
        repeat' first | (exfalso; omega) | (refine ⟨fun _ => ?_, fun _ => ?_⟩) | (refine ⟨by omega, ?_⟩) | (intro _)
        all_goals (refine hK _ ?_; clear hK K)
        all_goals
         refine zbo (zb5 ?_)
         simp (disch := omega) [DtCmd.cells]
         all_goals first | (exact zcb heq) | (refine zb6 fun heq => ?_; subst heq; simp_all [zbe, zbc, zbw]; done) | (refine (zb6 fun heq => ?_).symm; subst heq; simp_all [zbe, zbc, zbw]; done) | simp_all [zbw]
      try simp at hc52
      refine zbn ?_
      refine zbr ?_
      refine zc6 rfl rfl fun K hK => ?_
      simp (disch := omega) [DtCmd.cells]
      repeat' first | (exfalso; omega) | (refine ⟨fun _ => ?_, fun _ => ?_⟩) | (refine ⟨by omega, ?_⟩) | (intro _)
      all_goals (refine hK _ ?_; clear hK K)
      all_goals
       refine ⟨_, LeS.kp [(0, .sl 8 (xs.map DtCmd.cells)), (1, .sl 8 (ys.map DtCmd.cells)), (5, (.g (.int .i64 (((i + 1) : Nat)))))] (by simp [KpE, zbf, zbt, zbd]; try rfl), _, ?_, i + 1, rfl, ?_, rfl⟩
       ·omega
       ·refine ⟨by omega, fun j hj => ?_⟩
        by_cases hji : j = i
        ·subst hji; simp_all [zbe, zbc]
        ·exact hpre j (by omega)
   try simp at hc51
   have hi2 : i = xs.length := by omega
   subst hi2
   have heq : xs = ys := List.ext_getElem? fun j => by
    by_cases hj : j < xs.length
    ·exact hpre j hj
    ·rw [List.getElem?_eq_none (by omega), List.getElem?_eq_none (by omega)]
   refine zb9 ?_
   refine zbr ?_
   refine AW_r rfl rfl fun K hK => ?_
   simp (disch := omega) [DtCmd.cells]
   repeat' first | (exfalso; omega) | (refine ⟨fun _ => ?_, fun _ => ?_⟩) | (refine ⟨by omega, ?_⟩) | (intro _)
   all_goals (refine hK _ ?_; clear hK K)
   all_goals
    refine zbo (zb5 ?_)
    simp (disch := omega) [DtCmd.cells]
    all_goals first | (exact zcb heq) | (refine zb6 fun heq => ?_; subst heq; simp_all [zbe, zbc, zbw]; done) | (refine (zb6 fun heq => ?_).symm; subst heq; simp_all [zbe, zbc, zbw]; done) | simp_all [zbw]
attribute [local simp] DtSaid.cells
theorem eqSaid (u v : DtSaid) (hs : DtSaid.sz u ≤ 1048576) : PCall Try.prog 118 [.agg (DtSaid.cells u), .agg (DtSaid.cells v)] (.g (.bool (eqB u v))) := by
 simp only [DtSaid.sz] at hs
 have s2 : (u.fText.length : Int) ≤ 1048576 := by omega
 have he := DtSaid.ext_iff u v
 refine zbv Try.func118 (by rfl) (by rfl) (by rw [Try.ntmps118]; exact Nat.le_of_ble_eq_true rfl) rfl (by decide) ?_
 rw [Try.ntmps118]
 refine AW_k [(0, _), (1, _)] ⟨rfl, rfl, trivial⟩ ?_
 refine AW_r rfl rfl fun K hK => ?_
 simp
 repeat' first | (refine ⟨by omega, ?_⟩) | (intro _)
 refine hK _ ?_; clear hK K
 refine zbm ?_
 refine AW_r rfl rfl fun K hK => ?_
 simp
 repeat' first | (refine ⟨by omega, ?_⟩) | (intro _)
 refine hK _ ?_; clear hK K
 refine zbl rfl (fun hc53 => ?_) (fun hc53 => ?_)
 ·try simp at hc53
  all_goals
   refine AW_r rfl rfl fun K hK => ?_
   simp
   repeat' first | (refine ⟨fun _ => ?_, fun _ => ?_⟩) | (refine ⟨by omega, ?_⟩) | (intro _)
   all_goals (refine hK _ ?_; clear hK K)
   all_goals
    refine zbo (zb5 ?_)
    simp
    all_goals first | (refine zcb (he.mpr ?_); simp_all [zbe, zbc]; done) | (refine zb6 fun h => ?_; rw [he] at h; simp_all [zbe, zbc, zbw]; done) | (refine (zcb (he.mpr ?_)).symm; simp_all [zbe, zbc]; done) | (refine (zb6 fun h => ?_).symm; rw [he] at h; simp_all [zbe, zbc, zbw]; done)
 try simp at hc53
 refine zbn ?_
 refine zbr ?_
 refine zbm ?_
 refine AW_r rfl rfl fun K hK => ?_
 simp
 repeat' first | (refine ⟨fun _ => ?_, fun _ => ?_⟩) | (refine ⟨by omega, ?_⟩) | (intro _)
 all_goals (refine hK _ ?_; clear hK K)
 all_goals
  refine zbl rfl (fun hc54 => ?_) (fun hc54 => ?_)
  ·try simp at hc54
   all_goals
    refine AW_r rfl rfl fun K hK => ?_
    simp
    repeat' first | (refine ⟨fun _ => ?_, fun _ => ?_⟩) | (refine ⟨by omega, ?_⟩) | (intro _)
    all_goals (refine hK _ ?_; clear hK K)
    all_goals
     refine zbo (zb5 ?_)
     simp
     all_goals first | (refine zcb (he.mpr ?_); simp_all [zbe, zbc]; done) | (refine zb6 fun h => ?_; rw [he] at h; simp_all [zbe, zbc, zbw]; done) | (refine (zcb (he.mpr ?_)).symm; simp_all [zbe, zbc]; done) | (refine (zb6 fun h => ?_).symm; rw [he] at h; simp_all [zbe, zbc, zbw]; done)
  try simp at hc54
  refine zbn ?_
  refine zbr ?_
  refine zbm ?_
  refine AW_r rfl rfl fun K hK => ?_
  simp
  repeat' first | (refine ⟨fun _ => ?_, fun _ => ?_⟩) | (refine ⟨by omega, ?_⟩) | (intro _)
  all_goals (refine hK _ ?_; clear hK K)
  all_goals
   refine zbl rfl (fun hc55 => ?_) (fun hc55 => ?_)
   ·try simp at hc55
    all_goals
     refine AW_r rfl rfl fun K hK => ?_
     simp
     repeat' first | (refine ⟨fun _ => ?_, fun _ => ?_⟩) | (refine ⟨by omega, ?_⟩) | (intro _)
     all_goals (refine hK _ ?_; clear hK K)
     all_goals
      refine zbo (zb5 ?_)
      simp
      all_goals first | (refine zcb (he.mpr ?_); simp_all [zbe, zbc]; done) | (refine zb6 fun h => ?_; rw [he] at h; simp_all [zbe, zbc, zbw]; done) | (refine (zcb (he.mpr ?_)).symm; simp_all [zbe, zbc]; done) | (refine (zb6 fun h => ?_).symm; rw [he] at h; simp_all [zbe, zbc, zbw]; done)
   try simp at hc55
   refine zbn ?_
   refine zbr ?_
   refine AW_r rfl rfl fun K hK => ?_
   simp
   repeat' first | (refine ⟨fun _ => ?_, fun _ => ?_⟩) | (refine ⟨by omega, ?_⟩) | (intro _)
   all_goals (refine hK _ ?_; clear hK K)
   all_goals
    refine zbo (zb5 ?_)
    simp
    all_goals first | (refine zcb (he.mpr ?_); simp_all [zbe, zbc]; done) | (refine zb6 fun h => ?_; rw [he] at h; simp_all [zbe, zbc, zbw]; done) | (refine (zcb (he.mpr ?_)).symm; simp_all [zbe, zbc]; done) | (refine (zb6 fun h => ?_).symm; rw [he] at h; simp_all [zbe, zbc, zbw]; done)
attribute [-simp] DtSaid.cells
theorem eqSaidS (xs ys : List DtSaid) (hs : szS DtSaid.sz xs ≤ 1048576) : PCall Try.prog 72 [.sl 3 (xs.map DtSaid.cells), .sl 3 (ys.map DtSaid.cells)] (.g (.bool (eqB xs ys))) := by
 have hn : xs.length ≤ 1048576 := by have := zcc DtSaid.sz_nonneg xs; simp only [szS] at hs; omega
 refine zbv Try.func72 (by rfl) (by rfl) (by rw [Try.ntmps72]; exact Nat.le_of_ble_eq_true rfl) rfl (by decide) ?_
 rw [Try.ntmps72]
 refine AW_k [(0, _), (1, _)] ⟨rfl, rfl, trivial⟩ ?_
 refine AW_r rfl rfl fun K hK => ?_
 simp (disch := omega)
 repeat' first | (refine ⟨by omega, ?_⟩) | (intro _)
 refine hK _ ?_; clear hK K
 refine zbm ?_
 refine AW_r rfl rfl fun K hK => ?_
 simp (disch := omega)
 repeat' first | (refine ⟨by omega, ?_⟩) | (intro _)
 refine hK _ ?_; clear hK K
 refine zbl rfl (fun hc56 => ?_) (fun hc56 => ?_)
 ·try simp at hc56
  all_goals
   refine AW_r rfl rfl fun K hK => ?_
   simp (disch := omega)
   repeat' first | (exfalso; omega) | (refine ⟨fun _ => ?_, fun _ => ?_⟩) | (refine ⟨by omega, ?_⟩) | (intro _)
   all_goals (refine hK _ ?_; clear hK K)
   all_goals
    refine zbo (zb5 ?_)
    simp (disch := omega)
    all_goals first | (exact zcb heq) | (refine zb6 fun heq => ?_; subst heq; simp_all [zbe, zbc, zbw]; done) | (refine (zb6 fun heq => ?_).symm; subst heq; simp_all [zbe, zbc, zbw]; done) | simp_all [zbw]
 try simp at hc56
 refine zbn ?_
 refine zbr ?_
 refine zbm ?_
 refine AW_r rfl rfl fun K hK => ?_
 simp (disch := omega)
 repeat' first | (exfalso; omega) | (refine ⟨fun _ => ?_, fun _ => ?_⟩) | (refine ⟨by omega, ?_⟩) | (intro _)
 all_goals (refine hK _ ?_; clear hK K)
 all_goals
  refine zbs ?_
  refine zb4 (fun mM sS => ∃ (i : Nat), mM = xs.length - i ∧ (i ≤ xs.length ∧ ∀ j, j < i → xs[j]? = ys[j]?) ∧ sS = { env := lkE [(0, .sl 3 (xs.map DtSaid.cells)), (1, .sl 3 (ys.map DtSaid.cells)), (5, (.g (.int .i64 ((i : Nat)))))], ob := formOb [] [] }) ?_ ?_
  ·refine ⟨_, LeS.kp [(0, .sl 3 (xs.map DtSaid.cells)), (1, .sl 3 (ys.map DtSaid.cells)), (5, (.g (.int .i64 (((0) : Nat)))))] (by simp [KpE, zbf, zbt, zbd]; try rfl), _, 0, rfl, ?_, rfl⟩
   ·simp
  ·rintro mM sS ⟨i, rfl, ⟨hi, hpre⟩, rfl⟩
   refine zbm ?_
   refine AW_r rfl rfl fun K hK => ?_
   simp (disch := omega) [DtSaid.cells]
   repeat' first | (refine ⟨by omega, ?_⟩) | (intro _)
   refine hK _ ?_; clear hK K
   refine zbl rfl (fun hc57 => ?_) (fun hc57 => ?_)
   ·try simp at hc57
    all_goals
     have h7 : i < ys.length := by omega
     have hsE : DtSaid.sz xs[i] ≤ 1048576 := by have := zcl DtSaid.sz_nonneg xs xs[i] (List.getElem_mem _); simp only [szS] at hs; omega
     refine zbn ?_
     refine zbr ?_
     refine zbm ?_
     refine zbs ?_
     refine AW_q rfl mix (by kernel_rfl) rfl fun K hK => ?_
     simp (disch := omega) [DtSaid.cells]
     repeat' first | (exfalso; omega) | (refine zc3 (zbi (zb7 rfl) (zbi (zb7 rfl) zbu)) (eqSaid _ _ (by first | assumption | omega)) rfl ?_; simp (disch := omega) [DtSaid.cells]) | (refine ⟨fun _ => ?_, fun _ => ?_⟩) | (refine ⟨by omega, ?_⟩) | (intro _)
     all_goals (refine hK _ ?_; clear hK K)
     all_goals
      refine zbl rfl (fun hc58 => ?_) (fun hc58 => ?_)
      ·try simp at hc58
       all_goals
        refine AW_r rfl rfl fun K hK => ?_
        simp (disch := omega) [DtSaid.cells]
        repeat' first | (exfalso; omega) | (refine ⟨fun _ => ?_, fun _ => ?_⟩) | (refine ⟨by omega, ?_⟩) | (intro _)
        all_goals (refine hK _ ?_; clear hK K)
        all_goals
         refine zbo (zb5 ?_)
         simp (disch := omega) [DtSaid.cells]
         all_goals first | (exact zcb heq) | (refine zb6 fun heq => ?_; subst heq; simp_all [zbe, zbc, zbw]; done) | (refine (zb6 fun heq => ?_).symm; subst heq; simp_all [zbe, zbc, zbw]; done) | simp_all [zbw]
      try simp at hc58
      refine zbn ?_
      refine zbr ?_
      refine zc6 rfl rfl fun K hK => ?_
      simp (disch := omega) [DtSaid.cells]
      repeat' first | (exfalso; omega) | (refine ⟨fun _ => ?_, fun _ => ?_⟩) | (refine ⟨by omega, ?_⟩) | (intro _)
      all_goals (refine hK _ ?_; clear hK K)
      all_goals
       refine ⟨_, LeS.kp [(0, .sl 3 (xs.map DtSaid.cells)), (1, .sl 3 (ys.map DtSaid.cells)), (5, (.g (.int .i64 (((i + 1) : Nat)))))] (by simp [KpE, zbf, zbt, zbd]; try rfl), _, ?_, i + 1, rfl, ?_, rfl⟩
       ·omega
       ·refine ⟨by omega, fun j hj => ?_⟩
        by_cases hji : j = i
        ·subst hji; simp_all [zbe, zbc]
        ·exact hpre j (by omega)
   try simp at hc57
   have hi2 : i = xs.length := by omega
   subst hi2
   have heq : xs = ys := List.ext_getElem? fun j => by
    by_cases hj : j < xs.length
    ·exact hpre j hj
    ·rw [List.getElem?_eq_none (by omega), List.getElem?_eq_none (by omega)]
   refine zb9 ?_
   refine zbr ?_
   refine AW_r rfl rfl fun K hK => ?_
   simp (disch := omega) [DtSaid.cells]
   repeat' first | (exfalso; omega) | (refine ⟨fun _ => ?_, fun _ => ?_⟩) | (refine ⟨by omega, ?_⟩) | (intro _)
   all_goals (refine hK _ ?_; clear hK K)
   all_goals
    refine zbo (zb5 ?_)
    simp (disch := omega) [DtSaid.cells]
    all_goals first | (exact zcb heq) | (refine zb6 fun heq => ?_; subst heq; simp_all [zbe, zbc, zbw]; done) | (refine (zb6 fun heq => ?_).symm; subst heq; simp_all [zbe, zbc, zbw]; done) | simp_all [zbw]
attribute [local simp] DtState.cells
attribute [local simp] DtCatalog.cells
theorem zjr (u v : DtState) (hs : DtState.sz u ≤ 1048576) : PCall Try.prog 30 [.agg (DtState.cells u), .agg (DtState.cells v)] (.g (.bool (eqB u v))) := by
 simp only [DtState.sz] at hs
 have z0 := DtCatalog.sz_nonneg u.fCat
 have z1 := (zdc DtSaid.sz_nonneg) u.fSaid
 have s0 : DtCatalog.sz u.fCat ≤ 1048576 := by omega
 have s1 : szS DtSaid.sz u.fSaid ≤ 1048576 := by omega
 have he := DtState.ext_iff u v
 refine zbv Try.func30 (by rfl) (by rfl) (by rw [Try.ntmps30]; exact Nat.le_of_ble_eq_true rfl) rfl (by decide) ?_
 rw [Try.ntmps30]
 refine AW_k [(0, _), (1, _)] ⟨rfl, rfl, trivial⟩ ?_
 refine AW_r rfl rfl fun K hK => ?_
 simp
 repeat' first | (refine ⟨by omega, ?_⟩) | (intro _)
 refine hK _ ?_; clear hK K
 refine zbm ?_
 refine AW_r rfl rfl fun K hK => ?_
 simp
 repeat' first | (refine zc3 (zbi (zb7 rfl) (zbi (zb7 rfl) zbu)) (zz8 _ _ (by first | assumption | omega)) rfl ?_; simp) | (refine ⟨by omega, ?_⟩) | (intro _)
 refine hK _ ?_; clear hK K
 refine zbl rfl (fun hc59 => ?_) (fun hc59 => ?_)
 ·try simp at hc59
  all_goals
   refine AW_r rfl rfl fun K hK => ?_
   simp
   repeat' first | (refine ⟨fun _ => ?_, fun _ => ?_⟩) | (refine ⟨by omega, ?_⟩) | (intro _)
   all_goals (refine hK _ ?_; clear hK K)
   all_goals
    refine zbo (zb5 ?_)
    simp
    all_goals first | (refine zcb (he.mpr ?_); simp_all [zbe, zbc]; done) | (refine zb6 fun h => ?_; rw [he] at h; simp_all [zbe, zbc, zbw]; done) | (refine (zcb (he.mpr ?_)).symm; simp_all [zbe, zbc]; done) | (refine (zb6 fun h => ?_).symm; rw [he] at h; simp_all [zbe, zbc, zbw]; done)
 try simp at hc59
 refine zbn ?_
 refine zbr ?_
 refine zbm ?_
 refine AW_r rfl rfl fun K hK => ?_
 simp
 repeat' first | (refine zc3 (zbi zc0 (zbi zc0 zbu)) (eqSaidS _ _ (by first | assumption | omega)) rfl ?_; simp) | (refine ⟨fun _ => ?_, fun _ => ?_⟩) | (refine ⟨by omega, ?_⟩) | (intro _)
 all_goals (refine hK _ ?_; clear hK K)
 all_goals
  refine zbl rfl (fun hc60 => ?_) (fun hc60 => ?_)
  ·try simp at hc60
   all_goals
    refine AW_r rfl rfl fun K hK => ?_
    simp
    repeat' first | (refine ⟨fun _ => ?_, fun _ => ?_⟩) | (refine ⟨by omega, ?_⟩) | (intro _)
    all_goals (refine hK _ ?_; clear hK K)
    all_goals
     refine zbo (zb5 ?_)
     simp
     all_goals first | (refine zcb (he.mpr ?_); simp_all [zbe, zbc]; done) | (refine zb6 fun h => ?_; rw [he] at h; simp_all [zbe, zbc, zbw]; done) | (refine (zcb (he.mpr ?_)).symm; simp_all [zbe, zbc]; done) | (refine (zb6 fun h => ?_).symm; rw [he] at h; simp_all [zbe, zbc, zbw]; done)
  try simp at hc60
  refine zbn ?_
  refine zbr ?_
  refine AW_r rfl rfl fun K hK => ?_
  simp
  repeat' first | (refine ⟨fun _ => ?_, fun _ => ?_⟩) | (refine ⟨by omega, ?_⟩) | (intro _)
  all_goals (refine hK _ ?_; clear hK K)
  all_goals
   refine zbo (zb5 ?_)
   simp
   all_goals first | (refine zcb (he.mpr ?_); simp_all [zbe, zbc]; done) | (refine zb6 fun h => ?_; rw [he] at h; simp_all [zbe, zbc, zbw]; done) | (refine (zcb (he.mpr ?_)).symm; simp_all [zbe, zbc]; done) | (refine (zb6 fun h => ?_).symm; rw [he] at h; simp_all [zbe, zbc, zbw]; done)
attribute [local simp] szR DtCall.cells
attribute [-simp] DtState.cells DtCatalog.cells
attribute [-simp] szR
attribute [local simp] DtCmd.cells
attribute [-simp] DtCmd.cells
attribute [local simp] DtCmd.cells
attribute [local simp] szR
attribute [-simp] DtCall.cells DtCmd.cells
attribute [-simp] szR
end Go.Proofs.Ytmheohnbkaoipaa.Vs
