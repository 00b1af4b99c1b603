import Derived.Test.YtmheohnbkaoipaaGreatVs9
import Derived.Test.YtmheohnbkaoipaaGreatSCT
open Go Go.Proofs Go.Proofs.YtmheohnbkaoipaaGreat.Vs
namespace Go.Proofs.YtmheohnbkaoipaaGreat.Vs
set_option linter.all false
set_option linter.unusedSimpArgs false
set_option linter.unusedVariables false
attribute [local simp] szR
theorem zrb (xs : List (List UInt8)) (n : Int) (hn : 0 ≤ n ∧ n ≤ 2097152) (hw : (wfS wfL) xs) : PCall Tryz.prog 17 [.sl 1 (xs.map cS), (.g (.int .i64 (n)))] (.g (.int .i64 (szR n (szS lenZ xs)))) := by
 have hq := zb9 zce xs
 have hw1 := hw.1
 refine zbu Tryz.func17 (by rfl) (by rfl) (by rw [Tryz.ntmps17]; exact Nat.le_of_ble_eq_true rfl) rfl (by decide) ?_
 rw [Tryz.ntmps17]
 refine AW_k [(0, _), (1, _)] ⟨rfl, rfl, trivial⟩ ?_
 refine AW_r rfl rfl fun K hK => ?_
 simp (disch := omega)
 repeat' first | (refine ⟨by omega, ?_⟩) | (intro _)
 refine hK _ ?_; clear hK K
 refine AW_r rfl rfl fun K hK => ?_
 simp (disch := omega)
 repeat' first | (refine ⟨by omega, ?_⟩) | (intro _)
 refine hK _ ?_; clear hK K
 refine zbm ?_
 refine AW_r rfl rfl fun K hK => ?_
 simp (disch := omega)
 repeat' first | (refine ⟨by omega, ?_⟩) | (intro _)
 refine hK _ ?_; clear hK K
 refine zbl rfl (fun hc1 => ?_) (fun hc1 => ?_)
 ·try simp at hc1
  all_goals
   refine AW_r rfl rfl fun K hK => ?_
   simp (disch := omega)
   repeat' first | (exfalso; omega) | (refine ⟨fun _ => ?_, fun _ => ?_⟩) | (refine ⟨by omega, ?_⟩) | (intro _)
   all_goals (refine hK _ ?_; clear hK K)
   all_goals
    refine zbo (zb4 ?_)
    simp (disch := omega) [szS]
    all_goals first | omega | (split <;> omega)
 try simp at hc1
 refine zbn ?_
 refine zbq ?_
 refine zbm ?_
 refine AW_r rfl rfl fun K hK => ?_
 simp (disch := omega)
 repeat' first | (exfalso; omega) | (refine ⟨fun _ => ?_, fun _ => ?_⟩) | (refine ⟨by omega, ?_⟩) | (intro _)
 all_goals (refine hK _ ?_; clear hK K)
 all_goals
  refine zbt ?_
  refine zb5 (fun mM sS => ∃ (i : Nat), mM = xs.length - i ∧ (i ≤ xs.length ∧ 0 ≤ n - xs.length - sumZ lenZ (xs.take i)) ∧ sS = { env := lkE [(0, .sl 1 (xs.map cS)), (1, (.g (.int .i64 (n - xs.length - sumZ lenZ (xs.take i))))), (5, (.g (.int .i64 ((i : Nat)))))], ob := formOb [] [] }) ?_ ?_
  ·refine ⟨_, LeS.kp [(0, .sl 1 (xs.map cS)), (1, (.g (.int .i64 (n - xs.length - sumZ lenZ (xs.take (0)))))), (5, (.g (.int .i64 (((0) : Nat)))))] (by simp [KpE, zbe, zbv, zbc, zdc]; try first | rfl | omega), _, 0, rfl, ?_, rfl⟩
   ·simp [zdc]; omega
  ·rintro mM sS ⟨i, rfl, ⟨hi, hn⟩, rfl⟩
   have hz := zb9 zce (xs.take i)
   have hz2 := zdg zce xs i
   refine zbm ?_
   refine AW_r rfl rfl fun K hK => ?_
   simp (disch := omega) [cS, lenZ]
   repeat' first | (refine ⟨by omega, ?_⟩) | (intro _)
   refine hK _ ?_; clear hK K
   refine zbl rfl (fun hc2 => ?_) (fun hc2 => ?_)
   ·try simp at hc2
    all_goals
     have hl := zh0 (f := lenZ) xs i (by omega)
     have hwE : wfL xs[i] := hw.2 _ (List.getElem_mem _)
     have hwE2 : xs[i].length ≤ 9223372036854775807 := hwE
     simp only [lenZ] at hl
     have hz3 := zdg zce xs (i + 1)
     refine zbn ?_
     refine zbq ?_
     refine zbm ?_
     refine zbt ?_
     refine AW_r rfl rfl fun K hK => ?_
     simp (disch := omega) [cS, lenZ]
     repeat' first | (exfalso; omega) | (refine ⟨fun _ => ?_, fun _ => ?_⟩) | (refine ⟨by omega, ?_⟩) | (intro _)
     all_goals (refine hK _ ?_; clear hK K)
     all_goals
      refine AW_r rfl rfl fun K hK => ?_
      simp (disch := omega) [cS, lenZ]
      repeat' first | (refine ⟨by omega, ?_⟩) | (intro _)
      refine hK _ ?_; clear hK K
      refine zbl rfl (fun hc3 => ?_) (fun hc3 => ?_)
      ·try simp at hc3
       all_goals
        refine AW_r rfl rfl fun K hK => ?_
        simp (disch := omega) [cS, lenZ]
        repeat' first | (exfalso; omega) | (refine ⟨fun _ => ?_, fun _ => ?_⟩) | (refine ⟨by omega, ?_⟩) | (intro _)
        all_goals (refine hK _ ?_; clear hK K)
        all_goals
         refine zbo (zb4 ?_)
         simp (disch := omega) [cS, lenZ, szS]
         all_goals first | omega | (split <;> omega)
      try simp at hc3
      refine zbn ?_
      refine zbq ?_
      refine zc6 rfl rfl fun K hK => ?_
      simp (disch := omega) [cS, lenZ]
      repeat' first | (exfalso; omega) | (refine ⟨fun _ => ?_, fun _ => ?_⟩) | (refine ⟨by omega, ?_⟩) | (intro _)
      all_goals (refine hK _ ?_; clear hK K)
      all_goals
       refine ⟨_, LeS.kp [(0, .sl 1 (xs.map cS)), (1, (.g (.int .i64 (n - xs.length - sumZ lenZ (xs.take (i + 1)))))), (5, (.g (.int .i64 (((i + 1) : Nat)))))] (by simp [KpE, zbe, zbv, zbc, zdc]; try first | rfl | omega), _, ?_, i + 1, rfl, ?_, rfl⟩
       ·omega
       ·omega
   try simp at hc2
   have hi2 : i = xs.length := by omega
   subst hi2
   simp only [List.take_length] at *
   refine zb7 ?_
   refine zbq ?_
   refine AW_r rfl rfl fun K hK => ?_
   simp (disch := omega) [cS, lenZ]
   repeat' first | (exfalso; omega) | (refine ⟨fun _ => ?_, fun _ => ?_⟩) | (refine ⟨by omega, ?_⟩) | (intro _)
   all_goals (refine hK _ ?_; clear hK K)
   all_goals
    refine zbo (zb4 ?_)
    simp (disch := omega) [cS, lenZ, szS]
    all_goals first | omega | (split <;> omega)
attribute [-simp] szR
theorem zrc (xs ys : List (List UInt8)) (hs : szS lenZ xs ≤ 2097152) : PCall Tryz.prog 35 [.sl 1 (xs.map cS), .sl 1 (ys.map cS)] (.g (.bool (eqB xs ys))) := by
 have hn : xs.length ≤ 2097152 := by have := zb9 zce xs; simp only [szS] at hs; omega
 refine zbu Tryz.func35 (by rfl) (by rfl) (by rw [Tryz.ntmps35]; exact Nat.le_of_ble_eq_true rfl) rfl (by decide) ?_
 rw [Tryz.ntmps35]
 refine AW_k [(0, _), (1, _)] ⟨rfl, rfl, trivial⟩ ?_
 refine AW_r rfl rfl fun K hK => ?_
 simp (disch := omega)
 repeat' first | (refine ⟨by omega, ?_⟩) | (intro _)
 refine hK _ ?_; clear hK K
 refine zbm ?_
 refine AW_r rfl rfl fun K hK => ?_
 simp (disch := omega)
 repeat' first | (refine ⟨by omega, ?_⟩) | (intro _)
 refine hK _ ?_; clear hK K
 refine zbl rfl (fun hc5 => ?_) (fun hc5 => ?_)
 ·try simp at hc5
  all_goals
   refine AW_r rfl rfl fun K hK => ?_
   simp (disch := omega)
   repeat' first | (exfalso; omega) | (refine ⟨fun _ => ?_, fun _ => ?_⟩) | (refine ⟨by omega, ?_⟩) | (intro _)
   all_goals (refine hK _ ?_; clear hK K)
   all_goals
    refine zbo (zb4 ?_)
    simp (disch := omega)
    all_goals first | (exact zcd heq) | (refine zb8 fun heq => ?_; subst heq; simp_all [zbf, zbd, zbw]; done) | (refine (zb8 fun heq => ?_).symm; subst heq; simp_all [zbf, zbd, zbw]; done) | simp_all [zbw]
 try simp at hc5
 refine zbn ?_
 refine zbq ?_
 refine zbm ?_
 refine AW_r rfl rfl fun K hK => ?_
 simp (disch := omega)
 repeat' first | (exfalso; omega) | (refine ⟨fun _ => ?_, fun _ => ?_⟩) | (refine ⟨by omega, ?_⟩) | (intro _)
 all_goals (refine hK _ ?_; clear hK K)
 all_goals
  refine zbt ?_
  refine zb5 (fun mM sS => ∃ (i : Nat), mM = xs.length - i ∧ (i ≤ xs.length ∧ ∀ j, j < i → xs[j]? = ys[j]?) ∧ sS = { env := lkE [(0, .sl 1 (xs.map cS)), (1, .sl 1 (ys.map cS)), (5, (.g (.int .i64 ((i : Nat)))))], ob := formOb [] [] }) ?_ ?_
  ·refine ⟨_, LeS.kp [(0, .sl 1 (xs.map cS)), (1, .sl 1 (ys.map cS)), (5, (.g (.int .i64 (((0) : Nat)))))] (by simp [KpE, zbe, zbv, zbc]; try rfl), _, 0, rfl, ?_, rfl⟩
   ·simp
  ·rintro mM sS ⟨i, rfl, ⟨hi, hpre⟩, rfl⟩
   refine zbm ?_
   refine AW_r rfl rfl fun K hK => ?_
   simp (disch := omega) [cS]
   repeat' first | (refine ⟨by omega, ?_⟩) | (intro _)
   refine hK _ ?_; clear hK K
   refine zbl rfl (fun hc6 => ?_) (fun hc6 => ?_)
   ·try simp at hc6
    all_goals
     have h7 : i < ys.length := by omega
     refine zbn ?_
     refine zbq ?_
     refine zbm ?_
     refine zbt ?_
     refine AW_q rfl mix (by kernel_rfl) rfl fun K hK => ?_
     simp (disch := omega) [cS]
     repeat' first | (exfalso; omega) | (refine ⟨fun _ => ?_, fun _ => ?_⟩) | (refine ⟨by omega, ?_⟩) | (intro _)
     all_goals (refine hK _ ?_; clear hK K)
     all_goals
      refine zbl rfl (fun hc7 => ?_) (fun hc7 => ?_)
      ·try simp at hc7
       all_goals
        refine AW_r rfl rfl fun K hK => ?_
        simp (disch := omega) [cS]
        repeat' first | (exfalso; omega) | (refine ⟨fun _ => ?_, fun _ => ?_⟩) | (refine ⟨by omega, ?_⟩) | (intro _)
        all_goals (refine hK _ ?_; clear hK K)
        all_goals
         refine zbo (zb4 ?_)
         simp (disch := omega) [cS]
         all_goals first | (exact zcd heq) | (refine zb8 fun heq => ?_; subst heq; simp_all [zbf, zbd, zbw]; done) | (refine (zb8 fun heq => ?_).symm; subst heq; simp_all [zbf, zbd, zbw]; done) | simp_all [zbw]
      try simp at hc7
      refine zbn ?_
      refine zbq ?_
      refine zc6 rfl rfl fun K hK => ?_
      simp (disch := omega) [cS]
      repeat' first | (exfalso; omega) | (refine ⟨fun _ => ?_, fun _ => ?_⟩) | (refine ⟨by omega, ?_⟩) | (intro _)
      all_goals (refine hK _ ?_; clear hK K)
      all_goals
       refine ⟨_, LeS.kp [(0, .sl 1 (xs.map cS)), (1, .sl 1 (ys.map cS)), (5, (.g (.int .i64 (((i + 1) : Nat)))))] (by simp [KpE, zbe, zbv, zbc]; try rfl), _, ?_, i + 1, rfl, ?_, rfl⟩
       ·omega
       ·refine ⟨by omega, fun j hj => ?_⟩
        by_cases hji : j = i
        ·subst hji; simp_all [zbf, zbd]
        ·exact hpre j (by omega)
   try simp at hc6
   have hi2 : i = xs.length := by omega
   subst hi2
   have heq : xs = ys := List.ext_getElem? fun j => by
    by_cases hj : j < xs.length
    ·exact hpre j hj
    ·rw [List.getElem?_eq_none (by omega), List.getElem?_eq_none (by omega)]
   refine zb7 ?_
   refine zbq ?_
   refine AW_r rfl rfl fun K hK => ?_
   simp (disch := omega) [cS]
   repeat' first | (exfalso; omega) | (refine ⟨fun _ => ?_, fun _ => ?_⟩) | (refine ⟨by omega, ?_⟩) | (intro _)
   all_goals (refine hK _ ?_; clear hK K)
   all_goals
    refine zbo (zb4 ?_)
    simp (disch := omega) [cS]
    all_goals first | (exact zcd heq) | (refine zb8 fun heq => ?_; subst heq; simp_all [zbf, zbd, zbw]; done) | (refine (zb8 fun heq => ?_).symm; subst heq; simp_all [zbf, zbd, zbw]; done) | simp_all [zbw]
attribute [local simp] szR DtCSnap.cells
theorem szCSnap (u : DtCSnap) (n : Int) (hn : 0 ≤ n ∧ n ≤ 2097152) (hw : DtCSnap.wf u) : PCall Tryz.prog 106 [.agg (DtCSnap.cells u), (.g (.int .i64 (n)))] (.g (.int .i64 (szR n (DtCSnap.sz u)))) := by
 have ⟨w0, w1, w2⟩ := hw
 have w02 : u.fName.length ≤ 9223372036854775807 := w0
 have w12 : u.fTag.length ≤ 9223372036854775807 := w1
 have w22 := w2.1
 have z2 := (zc2 zce) u.fChunks
 refine zbu Tryz.func106 (by rfl) (by rfl) (by rw [Tryz.ntmps106]; exact Nat.le_of_ble_eq_true rfl) rfl (by decide) ?_
 rw [Tryz.ntmps106]
 refine AW_k [(0, _), (1, _)] ⟨rfl, rfl, trivial⟩ ?_
 refine AW_r rfl rfl fun K hK => ?_
 simp (disch := omega)
 repeat' first | (refine ⟨by omega, ?_⟩) | (intro _)
 refine hK _ ?_; clear hK K
 refine AW_r rfl rfl fun K hK => ?_
 simp (disch := omega)
 repeat' first | (refine ⟨by omega, ?_⟩) | (intro _)
 refine hK _ ?_; clear hK K
 refine zbm ?_
 refine AW_r rfl rfl fun K hK => ?_
 simp (disch := omega)
 repeat' first | (refine ⟨by omega, ?_⟩) | (intro _)
 refine hK _ ?_; clear hK K
 refine zbl rfl (fun hc8 => ?_) (fun hc8 => ?_)
 ·try simp at hc8
  all_goals
   refine AW_r rfl rfl fun K hK => ?_
   simp (disch := omega)
   repeat' first | (exfalso; omega) | (refine ⟨fun _ => ?_, fun _ => ?_⟩) | (refine ⟨by omega, ?_⟩) | (intro _)
   all_goals (refine hK _ ?_; clear hK K)
   all_goals
    refine zbo (zb4 ?_)
    simp (disch := omega) [DtCSnap.sz]
    all_goals first | omega | (simp_all; done) | (split <;> omega) | (split <;> simp_all <;> omega) | (simp_all [szR]; omega)
 try simp at hc8
 refine zbn ?_
 refine zbq ?_
 refine AW_r rfl rfl fun K hK => ?_
 simp (disch := omega)
 repeat' first | (exfalso; omega) | (refine ⟨fun _ => ?_, fun _ => ?_⟩) | (refine ⟨by omega, ?_⟩) | (intro _)
 all_goals (refine hK _ ?_; clear hK K)
 all_goals
  refine zbm ?_
  refine AW_r rfl rfl fun K hK => ?_
  simp (disch := omega)
  repeat' first | (refine ⟨by omega, ?_⟩) | (intro _)
  refine hK _ ?_; clear hK K
  refine zbl rfl (fun hc9 => ?_) (fun hc9 => ?_)
  ·try simp at hc9
   all_goals
    refine AW_r rfl rfl fun K hK => ?_
    simp (disch := omega)
    repeat' first | (exfalso; omega) | (refine ⟨fun _ => ?_, fun _ => ?_⟩) | (refine ⟨by omega, ?_⟩) | (intro _)
    all_goals (refine hK _ ?_; clear hK K)
    all_goals
     refine zbo (zb4 ?_)
     simp (disch := omega) [DtCSnap.sz]
     all_goals first | omega | (simp_all; done) | (split <;> omega) | (split <;> simp_all <;> omega) | (simp_all [szR]; omega)
  try simp at hc9
  refine zbn ?_
  refine zbq ?_
  refine AW_r rfl rfl fun K hK => ?_
  simp (disch := omega)
  repeat' first | (exfalso; omega) | (refine zcx (zbh zdd (zbh zcp zbs)) (zrb _ _ (by omega) (by assumption)) rfl ?_; simp (disch := omega)) | (refine ⟨fun _ => ?_, fun _ => ?_⟩) | (refine ⟨by omega, ?_⟩) | (intro _)
  all_goals (refine hK _ ?_; clear hK K)
  all_goals
   refine zbm ?_
   refine AW_r rfl rfl fun K hK => ?_
   simp (disch := omega)
   repeat' first | (refine ⟨by omega, ?_⟩) | (intro _)
   refine hK _ ?_; clear hK K
   refine zbl rfl (fun hc10 => ?_) (fun hc10 => ?_)
   ·try simp at hc10
    all_goals
     refine AW_r rfl rfl fun K hK => ?_
     simp (disch := omega)
     repeat' first | (exfalso; omega) | (refine ⟨fun _ => ?_, fun _ => ?_⟩) | (refine ⟨by omega, ?_⟩) | (intro _)
     all_goals (refine hK _ ?_; clear hK K)
     all_goals
      refine zbo (zb4 ?_)
      simp (disch := omega) [DtCSnap.sz]
      all_goals first | omega | (simp_all; done) | (split <;> omega) | (split <;> simp_all <;> omega) | (simp_all [szR]; omega)
   try simp at hc10
   refine zbn ?_
   refine zbq ?_
   refine AW_r rfl rfl fun K hK => ?_
   simp (disch := omega)
   repeat' first | (exfalso; omega) | (refine ⟨fun _ => ?_, fun _ => ?_⟩) | (refine ⟨by omega, ?_⟩) | (intro _)
   all_goals (refine hK _ ?_; clear hK K)
   all_goals
    refine zbo (zb4 ?_)
    simp (disch := omega) [DtCSnap.sz]
    all_goals first | omega | (simp_all; done) | (split <;> omega) | (split <;> simp_all <;> omega) | (simp_all [szR]; omega)
attribute [-simp] szR
theorem eqCSnap (u v : DtCSnap) (hs : DtCSnap.sz u ≤ 2097152) : PCall Tryz.prog 109 [.agg (DtCSnap.cells u), .agg (DtCSnap.cells v)] (.g (.bool (eqB u v))) := by
 simp only [DtCSnap.sz] at hs
 have z2 := (zc2 zce) u.fChunks
 have s0 : (u.fName.length : Int) ≤ 2097152 := by omega
 have s1 : (u.fTag.length : Int) ≤ 2097152 := by omega
 have s2 : szS lenZ u.fChunks ≤ 2097152 := by omega
 have he := DtCSnap.ext_iff u v
 refine zbu Tryz.func109 (by rfl) (by rfl) (by rw [Tryz.ntmps109]; exact Nat.le_of_ble_eq_true rfl) rfl (by decide) ?_
 rw [Tryz.ntmps109]
 refine AW_k [(0, _), (1, _)] ⟨rfl, rfl, trivial⟩ ?_
 refine AW_r rfl rfl fun K hK => ?_
 simp
 repeat' first | (refine ⟨by omega, ?_⟩) | (intro _)
 refine hK _ ?_; clear hK K
 refine zbm ?_
 refine AW_r rfl rfl fun K hK => ?_
 simp
 repeat' first | (refine ⟨by omega, ?_⟩) | (intro _)
 refine hK _ ?_; clear hK K
 refine zbl rfl (fun hc11 => ?_) (fun hc11 => ?_)
 ·try simp at hc11
  all_goals
   refine AW_r rfl rfl fun K hK => ?_
   simp
   repeat' first | (refine ⟨fun _ => ?_, fun _ => ?_⟩) | (refine ⟨by omega, ?_⟩) | (intro _)
   all_goals (refine hK _ ?_; clear hK K)
   all_goals
    refine zbo (zb4 ?_)
    simp
    all_goals first | (refine zcd (he.mpr ?_); simp_all [zbf, zbd]; done) | (refine zb8 fun h => ?_; rw [he] at h; simp_all [zbf, zbd, zbw]; done) | (refine (zcd (he.mpr ?_)).symm; simp_all [zbf, zbd]; done) | (refine (zb8 fun h => ?_).symm; rw [he] at h; simp_all [zbf, zbd, zbw]; done)
 try simp at hc11
 refine zbn ?_
 refine zbq ?_
 refine zbm ?_
 refine AW_r rfl rfl fun K hK => ?_
 simp
 repeat' first | (refine ⟨fun _ => ?_, fun _ => ?_⟩) | (refine ⟨by omega, ?_⟩) | (intro _)
 all_goals (refine hK _ ?_; clear hK K)
 all_goals
  refine zbl rfl (fun hc12 => ?_) (fun hc12 => ?_)
  ·try simp at hc12
   all_goals
    refine AW_r rfl rfl fun K hK => ?_
    simp
    repeat' first | (refine ⟨fun _ => ?_, fun _ => ?_⟩) | (refine ⟨by omega, ?_⟩) | (intro _)
    all_goals (refine hK _ ?_; clear hK K)
    all_goals
     refine zbo (zb4 ?_)
     simp
     all_goals first | (refine zcd (he.mpr ?_); simp_all [zbf, zbd]; done) | (refine zb8 fun h => ?_; rw [he] at h; simp_all [zbf, zbd, zbw]; done) | (refine (zcd (he.mpr ?_)).symm; simp_all [zbf, zbd]; done) | (refine (zb8 fun h => ?_).symm; rw [he] at h; simp_all [zbf, zbd, zbw]; done)
  try simp at hc12
  refine zbn ?_
  refine zbq ?_
  refine zbm ?_
  refine AW_r rfl rfl fun K hK => ?_
  simp
  repeat' first | (refine zcx (zbh zdd (zbh zdd zbs)) (zrc _ _ (by first | assumption | omega)) rfl ?_; simp) | (refine ⟨fun _ => ?_, fun _ => ?_⟩) | (refine ⟨by omega, ?_⟩) | (intro _)
  all_goals (refine hK _ ?_; clear hK K)
  all_goals
   refine zbl rfl (fun hc13 => ?_) (fun hc13 => ?_)
   ·try simp at hc13
    all_goals
     refine AW_r rfl rfl fun K hK => ?_
     simp
     repeat' first | (refine ⟨fun _ => ?_, fun _ => ?_⟩) | (refine ⟨by omega, ?_⟩) | (intro _)
     all_goals (refine hK _ ?_; clear hK K)
     all_goals
      refine zbo (zb4 ?_)
      simp
      all_goals first | (refine zcd (he.mpr ?_); simp_all [zbf, zbd]; done) | (refine zb8 fun h => ?_; rw [he] at h; simp_all [zbf, zbd, zbw]; done) | (refine (zcd (he.mpr ?_)).symm; simp_all [zbf, zbd]; done) | (refine (zb8 fun h => ?_).symm; rw [he] at h; simp_all [zbf, zbd, zbw]; done)
   try simp at hc13
   refine zbn ?_
   refine zbq ?_
   refine AW_r rfl rfl fun K hK => ?_
   simp
   repeat' first | (refine ⟨fun _ => ?_, fun _ => ?_⟩) | (refine ⟨by omega, ?_⟩) | (intro _)
   all_goals (refine hK _ ?_; clear hK K)
   all_goals
    refine zbo (zb4 ?_)
    simp
    all_goals first | (refine zcd (he.mpr ?_); simp_all [zbf, zbd]; done) | (refine zb8 fun h => ?_; rw [he] at h; simp_all [zbf, zbd, zbw]; done) | (refine (zcd (he.mpr ?_)).symm; simp_all [zbf, zbd]; done) | (refine (zb8 fun h => ?_).symm; rw [he] at h; simp_all [zbf, zbd, zbw]; done)
attribute [local simp] szR
attribute [-simp] DtCSnap.cells
theorem szCSnapS (xs : List DtCSnap) (n : Int) (hn : 0 ≤ n ∧ n ≤ 2097152) (hw : (wfS DtCSnap.wf) xs) : PCall Tryz.prog 97 [.sl 3 (xs.map DtCSnap.cells), (.g (.int .i64 (n)))] (.g (.int .i64 (szR n (szS DtCSnap.sz xs)))) := by
 have hq := zb9 DtCSnap.sz_nonneg xs
 have hw1 := hw.1
 refine zbu Tryz.func97 (by rfl) (by rfl) (by rw [Tryz.ntmps97]; exact Nat.le_of_ble_eq_true rfl) rfl (by decide) ?_
 rw [Tryz.ntmps97]
 refine AW_k [(0, _), (1, _)] ⟨rfl, rfl, trivial⟩ ?_
 refine AW_r rfl rfl fun K hK => ?_
 simp (disch := omega)
 repeat' first | (refine ⟨by omega, ?_⟩) | (intro _)
 refine hK _ ?_; clear hK K
 refine AW_r rfl rfl fun K hK => ?_
 simp (disch := omega)
 repeat' first | (refine ⟨by omega, ?_⟩) | (intro _)
 refine hK _ ?_; clear hK K
 refine zbm ?_
 refine AW_r rfl rfl fun K hK => ?_
 simp (disch := omega)
 repeat' first | (refine ⟨by omega, ?_⟩) | (intro _)
 refine hK _ ?_; clear hK K
 refine zbl rfl (fun hc14 => ?_) (fun hc14 => ?_)
 ·try simp at hc14
  all_goals
   refine AW_r rfl rfl fun K hK => ?_
   simp (disch := omega)
   repeat' first | (exfalso; omega) | (refine ⟨fun _ => ?_, fun _ => ?_⟩) | (refine ⟨by omega, ?_⟩) | (intro _)
   all_goals (refine hK _ ?_; clear hK K)
   all_goals
    refine zbo (zb4 ?_)
    simp (disch := omega) [szS]
    all_goals first | omega | (split <;> omega)
 try simp at hc14
 refine zbn ?_
 refine zbq ?_
 refine zbm ?_
 refine AW_r rfl rfl fun K hK => ?_
 simp (disch := omega)
 repeat' first | (exfalso; omega) | (refine ⟨fun _ => ?_, fun _ => ?_⟩) | (refine ⟨by omega, ?_⟩) | (intro _)
 all_goals (refine hK _ ?_; clear hK K)
 all_goals
  refine zbt ?_
  refine zb5 (fun mM sS => ∃ (i : Nat), mM = xs.length - i ∧ (i ≤ xs.length ∧ 0 ≤ n - xs.length - sumZ DtCSnap.sz (xs.take i)) ∧ sS = { env := lkE [(0, .sl 3 (xs.map DtCSnap.cells)), (1, (.g (.int .i64 (n - xs.length - sumZ DtCSnap.sz (xs.take i))))), (5, (.g (.int .i64 ((i : Nat)))))], ob := formOb [] [] }) ?_ ?_
  ·refine ⟨_, LeS.kp [(0, .sl 3 (xs.map DtCSnap.cells)), (1, (.g (.int .i64 (n - xs.length - sumZ DtCSnap.sz (xs.take (0)))))), (5, (.g (.int .i64 (((0) : Nat)))))] (by simp [KpE, zbe, zbv, zbc, zdc]; try first | rfl | omega), _, 0, rfl, ?_, rfl⟩
   ·simp [zdc]; omega
  ·rintro mM sS ⟨i, rfl, ⟨hi, hn⟩, rfl⟩
   have hz := zb9 DtCSnap.sz_nonneg (xs.take i)
   have hz2 := zdg DtCSnap.sz_nonneg xs i
   refine zbm ?_
   refine AW_r rfl rfl fun K hK => ?_
   simp (disch := omega) [DtCSnap.cells]
   repeat' first | (refine ⟨by omega, ?_⟩) | (intro _)
   refine hK _ ?_; clear hK K
   refine zbl rfl (fun hc15 => ?_) (fun hc15 => ?_)
   ·try simp at hc15
    all_goals
     have hl := zh0 (f := DtCSnap.sz) xs i (by omega)
     have hwE : DtCSnap.wf xs[i] := hw.2 _ (List.getElem_mem _)
     have hz3 := zdg DtCSnap.sz_nonneg xs (i + 1)
     have hzE := DtCSnap.sz_nonneg xs[i]
     have hszR : szR (n - xs.length - sumZ DtCSnap.sz (xs.take i)) (DtCSnap.sz xs[i]) = n - xs.length - sumZ DtCSnap.sz (xs.take (i + 1)) ∨ (szR (n - xs.length - sumZ DtCSnap.sz (xs.take i)) (DtCSnap.sz xs[i]) = -1 ∧ n - xs.length - sumZ DtCSnap.sz (xs.take (i + 1)) < 0) := by unfold szR; split <;> omega
     refine zbn ?_
     refine zbq ?_
     refine zbm ?_
     refine zbt ?_
     refine AW_r rfl rfl fun K hK => ?_
     simp (disch := omega) [DtCSnap.cells]
     repeat' first | (exfalso; omega) | (refine zcx (zbh (zbz rfl) (zbh zcp zbs)) (szCSnap _ _ (by omega) (by first | exact hwE | exact hw)) rfl ?_; simp (disch := omega) [DtCSnap.cells]) | (refine ⟨fun _ => ?_, fun _ => ?_⟩) | (refine ⟨by omega, ?_⟩) | (intro _)
     all_goals (refine hK _ ?_; clear hK K)
     all_goals
      refine AW_r rfl rfl fun K hK => ?_
      simp (disch := omega) [DtCSnap.cells]
      repeat' first | (refine ⟨by omega, ?_⟩) | (intro _)
      refine hK _ ?_; clear hK K
      refine zbl rfl (fun hc16 => ?_) (fun hc16 => ?_)
      ·try simp at hc16
       all_goals
        refine AW_r rfl rfl fun K hK => ?_
        simp (disch := omega) [DtCSnap.cells]
        repeat' first | (exfalso; omega) | (refine ⟨fun _ => ?_, fun _ => ?_⟩) | (refine ⟨by omega, ?_⟩) | (intro _)
        all_goals (refine hK _ ?_; clear hK K)
        all_goals
         refine zbo (zb4 ?_)
         simp (disch := omega) [DtCSnap.cells, szS]
         all_goals first | omega | (split <;> omega)
      try simp at hc16
      refine zbn ?_
      refine zbq ?_
      refine zc6 rfl rfl fun K hK => ?_
      simp (disch := omega) [DtCSnap.cells]
      repeat' first | (exfalso; omega) | (refine ⟨fun _ => ?_, fun _ => ?_⟩) | (refine ⟨by omega, ?_⟩) | (intro _)
      all_goals (refine hK _ ?_; clear hK K)
      all_goals
       refine ⟨_, LeS.kp [(0, .sl 3 (xs.map DtCSnap.cells)), (1, (.g (.int .i64 (n - xs.length - sumZ DtCSnap.sz (xs.take (i + 1)))))), (5, (.g (.int .i64 (((i + 1) : Nat)))))] (by simp [KpE, zbe, zbv, zbc, zdc]; try first | rfl | omega), _, ?_, i + 1, rfl, ?_, rfl⟩
       ·omega
       ·omega
   try simp at hc15
   have hi2 : i = xs.length := by omega
   subst hi2
   simp only [List.take_length] at *
   refine zb7 ?_
   refine zbq ?_
   refine AW_r rfl rfl fun K hK => ?_
   simp (disch := omega) [DtCSnap.cells]
   repeat' first | (exfalso; omega) | (refine ⟨fun _ => ?_, fun _ => ?_⟩) | (refine ⟨by omega, ?_⟩) | (intro _)
   all_goals (refine hK _ ?_; clear hK K)
   all_goals
    refine zbo (zb4 ?_)
    simp (disch := omega) [DtCSnap.cells, szS]
    all_goals first | omega | (split <;> omega)
attribute [-simp] szR
theorem eqCSnapS (xs ys : List DtCSnap) (hs : szS DtCSnap.sz xs ≤ 2097152) : PCall Tryz.prog 104 [.sl 3 (xs.map DtCSnap.cells), .sl 3 (ys.map DtCSnap.cells)] (.g (.bool (eqB xs ys))) := by
 have hn : xs.length ≤ 2097152 := by have := zb9 DtCSnap.sz_nonneg xs; simp only [szS] at hs; omega
 refine zbu Tryz.func104 (by rfl) (by rfl) (by rw [Tryz.ntmps104]; exact Nat.le_of_ble_eq_true rfl) rfl (by decide) ?_
 rw [Tryz.ntmps104]
 refine AW_k [(0, _), (1, _)] ⟨rfl, rfl, trivial⟩ ?_
 refine AW_r rfl rfl fun K hK => ?_
 simp (disch := omega)
 repeat' first | (refine ⟨by omega, ?_⟩) | (intro _)
 refine hK _ ?_; clear hK K
 refine zbm ?_
 refine AW_r rfl rfl fun K hK => ?_
 simp (disch := omega)
 repeat' first | (refine ⟨by omega, ?_⟩) | (intro _)
 refine hK _ ?_; clear hK K
 refine zbl rfl (fun hc18 => ?_) (fun hc18 => ?_)
 ·try simp at hc18
  all_goals
   refine AW_r rfl rfl fun K hK => ?_
   simp (disch := omega)
   repeat' first | (exfalso; omega) | (refine ⟨fun _ => ?_, fun _ => ?_⟩) | (refine ⟨by omega, ?_⟩) | (intro _)
   all_goals (refine hK _ ?_; clear hK K)
   all_goals
    refine zbo (zb4 ?_)
    simp (disch := omega)
    all_goals first | (exact zcd heq) | (refine zb8 fun heq => ?_; subst heq; simp_all [zbf, zbd, zbw]; done) | (refine (zb8 fun heq => ?_).symm; subst heq; simp_all [zbf, zbd, zbw]; done) | simp_all [zbw]
 try simp at hc18
 refine zbn ?_
 refine zbq ?_
 refine zbm ?_
 refine AW_r rfl rfl fun K hK => ?_
 simp (disch := omega)
 repeat' first | (exfalso; omega) | (refine ⟨fun _ => ?_, fun _ => ?_⟩) | (refine ⟨by omega, ?_⟩) | (intro _)
 all_goals (refine hK _ ?_; clear hK K)
 all_goals
  refine zbt ?_
  refine zb5 (fun mM sS => ∃ (i : Nat), mM = xs.length - i ∧ (i ≤ xs.length ∧ ∀ j, j < i → xs[j]? = ys[j]?) ∧ sS = { env := lkE [(0, .sl 3 (xs.map DtCSnap.cells)), (1, .sl 3 (ys.map DtCSnap.cells)), (5, (.g (.int .i64 ((i : Nat)))))], ob := formOb [] [] }) ?_ ?_
  ·refine ⟨_, LeS.kp [(0, .sl 3 (xs.map DtCSnap.cells)), (1, .sl 3 (ys.map DtCSnap.cells)), (5, (.g (.int .i64 (((0) : Nat)))))] (by simp [KpE, zbe, zbv, zbc]; try rfl), _, 0, rfl, ?_, rfl⟩
   ·simp
  ·rintro mM sS ⟨i, rfl, ⟨hi, hpre⟩, rfl⟩
   refine zbm ?_
   refine AW_r rfl rfl fun K hK => ?_
   simp (disch := omega) [DtCSnap.cells]
   repeat' first | (refine ⟨by omega, ?_⟩) | (intro _)
   refine hK _ ?_; clear hK K
   refine zbl rfl (fun hc19 => ?_) (fun hc19 => ?_)
   ·try simp at hc19
    all_goals
     have h7 : i < ys.length := by omega
     have hsE : DtCSnap.sz xs[i] ≤ 2097152 := by have := zcn DtCSnap.sz_nonneg xs xs[i] (List.getElem_mem _); simp only [szS] at hs; omega
     refine zbn ?_
     refine zbq ?_
     refine zbm ?_
     refine zbt ?_
     refine AW_q rfl mix (by kernel_rfl) rfl fun K hK => ?_
     simp (disch := omega) [DtCSnap.cells]
     repeat' first | (exfalso; omega) | (refine zcx (zbh (zbz rfl) (zbh (zbz rfl) zbs)) (eqCSnap _ _ (by first | assumption | omega)) rfl ?_; simp (disch := omega) [DtCSnap.cells]) | (refine ⟨fun _ => ?_, fun _ => ?_⟩) | (refine ⟨by omega, ?_⟩) | (intro _)
     all_goals (refine hK _ ?_; clear hK K)
     all_goals
      refine zbl rfl (fun hc20 => ?_) (fun hc20 => ?_)
      ·try simp at hc20
       all_goals
        refine AW_r rfl rfl fun K hK => ?_
        simp (disch := omega) [DtCSnap.cells]
        repeat' first | (exfalso; omega) | (refine ⟨fun _ => ?_, fun _ => ?_⟩) | (refine ⟨by omega, ?_⟩) | (intro _)
        all_goals (refine hK _ ?_; clear hK K)
        all_goals
         refine zbo (zb4 ?_)
         simp (disch := omega) [DtCSnap.cells]
         all_goals first | (exact zcd heq) | (refine zb8 fun heq => ?_; subst heq; simp_all [zbf, zbd, zbw]; done) | (refine (zb8 fun heq => ?_).symm; subst heq; simp_all [zbf, zbd, zbw]; done) | simp_all [zbw]
      try simp at hc20
      refine zbn ?_
      refine zbq ?_
      refine zc6 rfl rfl fun K hK => ?_
      simp (disch := omega) [DtCSnap.cells]
      repeat' first | (exfalso; omega) | (refine ⟨fun _ => ?_, fun _ => ?_⟩) | (refine ⟨by omega, ?_⟩) | (intro _)
      all_goals (refine hK _ ?_; clear hK K)
      all_goals
       refine ⟨_, LeS.kp [(0, .sl 3 (xs.map DtCSnap.cells)), (1, .sl 3 (ys.map DtCSnap.cells)), (5, (.g (.int .i64 (((i + 1) : Nat)))))] (by simp [KpE, zbe, zbv, zbc]; try rfl), _, ?_, i + 1, rfl, ?_, rfl⟩
       ·omega
       ·refine ⟨by omega, fun j hj => ?_⟩
        by_cases hji : j = i
        ·subst hji; simp_all [zbf, zbd]
        ·exact hpre j (by omega)
   try simp at hc19
   have hi2 : i = xs.length := by omega
   subst hi2
   have heq : xs = ys := List.ext_getElem? fun j => by
    by_cases hj : j < xs.length
    ·exact hpre j hj
    ·rw [List.getElem?_eq_none (by omega), List.getElem?_eq_none (by omega)]
   refine zb7 ?_
   refine zbq ?_
   refine AW_r rfl rfl fun K hK => ?_
   simp (disch := omega) [DtCSnap.cells]
   repeat' first | (exfalso; omega) | (refine ⟨fun _ => ?_, fun _ => ?_⟩) | (refine ⟨by omega, ?_⟩) | (intro _)
   all_goals (refine hK _ ?_; clear hK K)
   all_goals
    refine zbo (zb4 ?_)
    simp (disch := omega) [DtCSnap.cells]
    all_goals first | (exact zcd heq) | (refine zb8 fun heq => ?_; subst heq; simp_all [zbf, zbd, zbw]; done) | (refine (zb8 fun heq => ?_).symm; subst heq; simp_all [zbf, zbd, zbw]; done) | simp_all [zbw]
attribute [local simp] szR DtCSet.cells
theorem szCSet (u : DtCSet) (n : Int) (hn : 0 ≤ n ∧ n ≤ 2097152) (hw : DtCSet.wf u) : PCall Tryz.prog 74 [.agg (DtCSet.cells u), (.g (.int .i64 (n)))] (.g (.int .i64 (szR n (DtCSet.sz u)))) := by
 have ⟨w0, w1⟩ := hw
 have w02 : u.fName.length ≤ 9223372036854775807 := w0
 have w12 := w1.1
 have z1 := (zc2 DtCSnap.sz_nonneg) u.fSnaps
 refine zbu Tryz.func74 (by rfl) (by rfl) (by rw [Tryz.ntmps74]; exact Nat.le_of_ble_eq_true rfl) rfl (by decide) ?_
 rw [Tryz.ntmps74]
 refine AW_k [(0, _), (1, _)] ⟨rfl, rfl, trivial⟩ ?_
 refine AW_r rfl rfl fun K hK => ?_
 simp (disch := omega)
 repeat' first | (refine ⟨by omega, ?_⟩) | (intro _)
 refine hK _ ?_; clear hK K
 refine AW_r rfl rfl fun K hK => ?_
 simp (disch := omega)
 repeat' first | (refine ⟨by omega, ?_⟩) | (intro _)
 refine hK _ ?_; clear hK K
 refine zbm ?_
 refine AW_r rfl rfl fun K hK => ?_
 simp (disch := omega)
 repeat' first | (refine ⟨by omega, ?_⟩) | (intro _)
 refine hK _ ?_; clear hK K
 refine zbl rfl (fun hc21 => ?_) (fun hc21 => ?_)
 ·try simp at hc21
  all_goals
   refine AW_r rfl rfl fun K hK => ?_
   simp (disch := omega)
   repeat' first | (exfalso; omega) | (refine ⟨fun _ => ?_, fun _ => ?_⟩) | (refine ⟨by omega, ?_⟩) | (intro _)
   all_goals (refine hK _ ?_; clear hK K)
   all_goals
    refine zbo (zb4 ?_)
    simp (disch := omega) [DtCSet.sz]
    all_goals first | omega | (simp_all; done) | (split <;> omega) | (split <;> simp_all <;> omega) | (simp_all [szR]; omega)
 try simp at hc21
 refine zbn ?_
 refine zbq ?_
 refine AW_r rfl rfl fun K hK => ?_
 simp (disch := omega)
 repeat' first | (exfalso; omega) | (refine zcx (zbh zdd (zbh zcp zbs)) (szCSnapS _ _ (by omega) (by assumption)) rfl ?_; simp (disch := omega)) | (refine ⟨fun _ => ?_, fun _ => ?_⟩) | (refine ⟨by omega, ?_⟩) | (intro _)
 all_goals (refine hK _ ?_; clear hK K)
 all_goals
  refine zbm ?_
  refine AW_r rfl rfl fun K hK => ?_
  simp (disch := omega)
  repeat' first | (refine ⟨by omega, ?_⟩) | (intro _)
  refine hK _ ?_; clear hK K
  refine zbl rfl (fun hc22 => ?_) (fun hc22 => ?_)
  ·try simp at hc22
   all_goals
    refine AW_r rfl rfl fun K hK => ?_
    simp (disch := omega)
    repeat' first | (exfalso; omega) | (refine ⟨fun _ => ?_, fun _ => ?_⟩) | (refine ⟨by omega, ?_⟩) | (intro _)
    all_goals (refine hK _ ?_; clear hK K)
    all_goals
     refine zbo (zb4 ?_)
     simp (disch := omega) [DtCSet.sz]
     all_goals first | omega | (simp_all; done) | (split <;> omega) | (split <;> simp_all <;> omega) | (simp_all [szR]; omega)
  try simp at hc22
  refine zbn ?_
  refine zbq ?_
  refine AW_r rfl rfl fun K hK => ?_
  simp (disch := omega)
  repeat' first | (exfalso; omega) | (refine ⟨fun _ => ?_, fun _ => ?_⟩) | (refine ⟨by omega, ?_⟩) | (intro _)
  all_goals (refine hK _ ?_; clear hK K)
  all_goals
   refine zbo (zb4 ?_)
   simp (disch := omega) [DtCSet.sz]
   all_goals first | omega | (simp_all; done) | (split <;> omega) | (split <;> simp_all <;> omega) | (simp_all [szR]; omega)
attribute [-simp] szR
theorem eqCSet (u v : DtCSet) (hs : DtCSet.sz u ≤ 2097152) : PCall Tryz.prog 94 [.agg (DtCSet.cells u), .agg (DtCSet.cells v)] (.g (.bool (eqB u v))) := by
 simp only [DtCSet.sz] at hs
 have z1 := (zc2 DtCSnap.sz_nonneg) u.fSnaps
 have s0 : (u.fName.length : Int) ≤ 2097152 := by omega
 have s1 : szS DtCSnap.sz u.fSnaps ≤ 2097152 := by omega
 have he := DtCSet.ext_iff u v
 refine zbu Tryz.func94 (by rfl) (by rfl) (by rw [Tryz.ntmps94]; exact Nat.le_of_ble_eq_true rfl) rfl (by decide) ?_
 rw [Tryz.ntmps94]
 refine AW_k [(0, _), (1, _)] ⟨rfl, rfl, trivial⟩ ?_
 refine AW_r rfl rfl fun K hK => ?_
 simp
 repeat' first | (refine ⟨by omega, ?_⟩) | (intro _)
 refine hK _ ?_; clear hK K
 refine zbm ?_
 refine AW_r rfl rfl fun K hK => ?_
 simp
 repeat' first | (refine ⟨by omega, ?_⟩) | (intro _)
 refine hK _ ?_; clear hK K
 refine zbl rfl (fun hc23 => ?_) (fun hc23 => ?_)
 ·try simp at hc23
  all_goals
   refine AW_r rfl rfl fun K hK => ?_
   simp
   repeat' first | (refine ⟨fun _ => ?_, fun _ => ?_⟩) | (refine ⟨by omega, ?_⟩) | (intro _)
   all_goals (refine hK _ ?_; clear hK K)
   all_goals
    refine zbo (zb4 ?_)
    simp
    all_goals first | (refine zcd (he.mpr ?_); simp_all [zbf, zbd]; done) | (refine zb8 fun h => ?_; rw [he] at h; simp_all [zbf, zbd, zbw]; done) | (refine (zcd (he.mpr ?_)).symm; simp_all [zbf, zbd]; done) | (refine (zb8 fun h => ?_).symm; rw [he] at h; simp_all [zbf, zbd, zbw]; done)
 try simp at hc23
 refine zbn ?_
 refine zbq ?_
 refine zbm ?_
 refine AW_r rfl rfl fun K hK => ?_
 simp
 repeat' first | (refine zcx (zbh zdd (zbh zdd zbs)) (eqCSnapS _ _ (by first | assumption | omega)) rfl ?_; simp) | (refine ⟨fun _ => ?_, fun _ => ?_⟩) | (refine ⟨by omega, ?_⟩) | (intro _)
 all_goals (refine hK _ ?_; clear hK K)
 all_goals
  refine zbl rfl (fun hc24 => ?_) (fun hc24 => ?_)
  ·try simp at hc24
   all_goals
    refine AW_r rfl rfl fun K hK => ?_
    simp
    repeat' first | (refine ⟨fun _ => ?_, fun _ => ?_⟩) | (refine ⟨by omega, ?_⟩) | (intro _)
    all_goals (refine hK _ ?_; clear hK K)
    all_goals
     refine zbo (zb4 ?_)
     simp
     all_goals first | (refine zcd (he.mpr ?_); simp_all [zbf, zbd]; done) | (refine zb8 fun h => ?_; rw [he] at h; simp_all [zbf, zbd, zbw]; done) | (refine (zcd (he.mpr ?_)).symm; simp_all [zbf, zbd]; done) | (refine (zb8 fun h => ?_).symm; rw [he] at h; simp_all [zbf, zbd, zbw]; done)
  try simp at hc24
  refine zbn ?_
  refine zbq ?_
  refine AW_r rfl rfl fun K hK => ?_
  simp
  repeat' first | (refine ⟨fun _ => ?_, fun _ => ?_⟩) | (refine ⟨by omega, ?_⟩) | (intro _)
  all_goals (refine hK _ ?_; clear hK K)
  all_goals
   refine zbo (zb4 ?_)
   simp
   all_goals first | (refine zcd (he.mpr ?_); simp_all [zbf, zbd]; done) | (refine zb8 fun h => ?_; rw [he] at h; simp_all [zbf, zbd, zbw]; done) | (refine (zcd (he.mpr ?_)).symm; simp_all [zbf, zbd]; done) | (refine (zb8 fun h => ?_).symm; rw [he] at h; simp_all [zbf, zbd, zbw]; done)
attribute [local simp] szR
attribute [-simp] DtCSet.cells
theorem szCSetS (xs : List DtCSet) (n : Int) (hn : 0 ≤ n ∧ n ≤ 2097152) (hw : (wfS DtCSet.wf) xs) : PCall Tryz.prog 41 [.sl 2 (xs.map DtCSet.cells), (.g (.int .i64 (n)))] (.g (.int .i64 (szR n (szS DtCSet.sz xs)))) := by
 have hq := zb9 DtCSet.sz_nonneg xs
 have hw1 := hw.1
 refine zbu Tryz.func41 (by rfl) (by rfl) (by rw [Tryz.ntmps41]; exact Nat.le_of_ble_eq_true rfl) rfl (by decide) ?_
 rw [Tryz.ntmps41]
 refine AW_k [(0, _), (1, _)] ⟨rfl, rfl, trivial⟩ ?_
 refine AW_r rfl rfl fun K hK => ?_
 simp (disch := omega)
 repeat' first | (refine ⟨by omega, ?_⟩) | (intro _)
 refine hK _ ?_; clear hK K
 refine AW_r rfl rfl fun K hK => ?_
 simp (disch := omega)
 repeat' first | (refine ⟨by omega, ?_⟩) | (intro _)
 refine hK _ ?_; clear hK K
 refine zbm ?_
 refine AW_r rfl rfl fun K hK => ?_
 simp (disch := omega)
 repeat' first | (refine ⟨by omega, ?_⟩) | (intro _)
 refine hK _ ?_; clear hK K
 refine zbl rfl (fun hc25 => ?_) (fun hc25 => ?_)
 ·try simp at hc25
  all_goals
   refine AW_r rfl rfl fun K hK => ?_
   simp (disch := omega)
   repeat' first | (exfalso; omega) | (refine ⟨fun _ => ?_, fun _ => ?_⟩) | (refine ⟨by omega, ?_⟩) | (intro _)
   all_goals (refine hK _ ?_; clear hK K)
   all_goals
    refine zbo (zb4 ?_)
    simp (disch := omega) [szS]
    all_goals first | omega | (split <;> omega)
 try simp at hc25
 refine zbn ?_
 refine zbq ?_
 refine zbm ?_
 refine AW_r rfl rfl fun K hK => ?_
 simp (disch := omega)
 repeat' first | (exfalso; omega) | (refine ⟨fun _ => ?_, fun _ => ?_⟩) | (refine ⟨by omega, ?_⟩) | (intro _)
 all_goals (refine hK _ ?_; clear hK K)
 all_goals
  refine zbt ?_
  refine zb5 (fun mM sS => ∃ (i : Nat), mM = xs.length - i ∧ (i ≤ xs.length ∧ 0 ≤ n - xs.length - sumZ DtCSet.sz (xs.take i)) ∧ sS = { env := lkE [(0, .sl 2 (xs.map DtCSet.cells)), (1, (.g (.int .i64 (n - xs.length - sumZ DtCSet.sz (xs.take i))))), (5, (.g (.int .i64 ((i : Nat)))))], ob := formOb [] [] }) ?_ ?_
  ·refine ⟨_, LeS.kp [(0, .sl 2 (xs.map DtCSet.cells)), (1, (.g (.int .i64 (n - xs.length - sumZ DtCSet.sz (xs.take (0)))))), (5, (.g (.int .i64 (((0) : Nat)))))] (by simp [KpE, zbe, zbv, zbc, zdc]; try first | rfl | omega), _, 0, rfl, ?_, rfl⟩
   ·simp [zdc]; omega
  ·rintro mM sS ⟨i, rfl, ⟨hi, hn⟩, rfl⟩
   have hz := zb9 DtCSet.sz_nonneg (xs.take i)
   have hz2 := zdg DtCSet.sz_nonneg xs i
   refine zbm ?_
   refine AW_r rfl rfl fun K hK => ?_
   simp (disch := omega) [DtCSet.cells]
   repeat' first | (refine ⟨by omega, ?_⟩) | (intro _)
   refine hK _ ?_; clear hK K
   refine zbl rfl (fun hc26 => ?_) (fun hc26 => ?_)
   ·try simp at hc26
    all_goals
     have hl := zh0 (f := DtCSet.sz) xs i (by omega)
     have hwE : DtCSet.wf xs[i] := hw.2 _ (List.getElem_mem _)
     have hz3 := zdg DtCSet.sz_nonneg xs (i + 1)
     have hzE := DtCSet.sz_nonneg xs[i]
     have hszR : szR (n - xs.length - sumZ DtCSet.sz (xs.take i)) (DtCSet.sz xs[i]) = n - xs.length - sumZ DtCSet.sz (xs.take (i + 1)) ∨ (szR (n - xs.length - sumZ DtCSet.sz (xs.take i)) (DtCSet.sz xs[i]) = -1 ∧ n - xs.length - sumZ DtCSet.sz (xs.take (i + 1)) < 0) := by unfold szR; split <;> omega
     refine zbn ?_
     refine zbq ?_
     refine zbm ?_
     refine zbt ?_
     refine AW_r rfl rfl fun K hK => ?_
     simp (disch := omega) [DtCSet.cells]
     repeat' first | (exfalso; omega) | (refine zcx (zbh (zbz rfl) (zbh zcp zbs)) (szCSet _ _ (by omega) (by first | exact hwE | exact hw)) rfl ?_; simp (disch := omega) [DtCSet.cells]) | (refine ⟨fun _ => ?_, fun _ => ?_⟩) | (refine ⟨by omega, ?_⟩) | (intro _)
     all_goals (refine hK _ ?_; clear hK K)
     all_goals
      refine AW_r rfl rfl fun K hK => ?_
      simp (disch := omega) [DtCSet.cells]
      repeat' first | (refine ⟨by omega, ?_⟩) | (intro _)
      refine hK _ ?_; clear hK K
      refine zbl rfl (fun hc27 => ?_) (fun hc27 => ?_)
      ·try simp at hc27
       all_goals
        refine AW_r rfl rfl fun K hK => ?_
        simp (disch := omega) [DtCSet.cells]
        repeat' first | (exfalso; omega) | (refine ⟨fun _ => ?_, fun _ => ?_⟩) | (refine ⟨by omega, ?_⟩) | (intro _)
        all_goals (refine hK _ ?_; clear hK K)
        all_goals
         refine zbo (zb4 ?_)
         simp (disch := omega) [DtCSet.cells, szS]
         all_goals first | omega | (split <;> omega)
      try simp at hc27
      refine zbn ?_
      refine zbq ?_
      refine zc6 rfl rfl fun K hK => ?_
      simp (disch := omega) [DtCSet.cells]
      repeat' first | (exfalso; omega) | (refine ⟨fun _ => ?_, fun _ => ?_⟩) | (refine ⟨by omega, ?_⟩) | (intro _)
      all_goals (refine hK _ ?_; clear hK K)
      all_goals
       refine ⟨_, LeS.kp [(0, .sl 2 (xs.map DtCSet.cells)), (1, (.g (.int .i64 (n - xs.length - sumZ DtCSet.sz (xs.take (i + 1)))))), (5, (.g (.int .i64 (((i + 1) : Nat)))))] (by simp [KpE, zbe, zbv, zbc, zdc]; try first | rfl | omega), _, ?_, i + 1, rfl, ?_, rfl⟩
       ·omega
       ·omega
   try simp at hc26
   have hi2 : i = xs.length := by omega
   subst hi2
   simp only [List.take_length] at *
   refine zb7 ?_
   refine zbq ?_
   refine AW_r rfl rfl fun K hK => ?_
   simp (disch := omega) [DtCSet.cells]
   repeat' first | (exfalso; omega) | (refine ⟨fun _ => ?_, fun _ => ?_⟩) | (refine ⟨by omega, ?_⟩) | (intro _)
   all_goals (refine hK _ ?_; clear hK K)
   all_goals
    refine zbo (zb4 ?_)
    simp (disch := omega) [DtCSet.cells, szS]
    all_goals first | omega | (split <;> omega)
attribute [-simp] szR
theorem eqCSetS (xs ys : List DtCSet) (hs : szS DtCSet.sz xs ≤ 2097152) : PCall Tryz.prog 69 [.sl 2 (xs.map DtCSet.cells), .sl 2 (ys.map DtCSet.cells)] (.g (.bool (eqB xs ys))) := by
 have hn : xs.length ≤ 2097152 := by have := zb9 DtCSet.sz_nonneg xs; simp only [szS] at hs; omega
 refine zbu Tryz.func69 (by rfl) (by rfl) (by rw [Tryz.ntmps69]; exact Nat.le_of_ble_eq_true rfl) rfl (by decide) ?_
 rw [Tryz.ntmps69]
 refine AW_k [(0, _), (1, _)] ⟨rfl, rfl, trivial⟩ ?_
 refine AW_r rfl rfl fun K hK => ?_
 simp (disch := omega)
 repeat' first | (refine ⟨by omega, ?_⟩) | (intro _)
 refine hK _ ?_; clear hK K
 refine zbm ?_
 refine AW_r rfl rfl fun K hK => ?_
 simp (disch := omega)
 repeat' first | (refine ⟨by omega, ?_⟩) | (intro _)
 refine hK _ ?_; clear hK K
 refine zbl rfl (fun hc29 => ?_) (fun hc29 => ?_)
 ·try simp at hc29
  all_goals
   refine AW_r rfl rfl fun K hK => ?_
   simp (disch := omega)
   repeat' first | (exfalso; omega) | (refine ⟨fun _ => ?_, fun _ => ?_⟩) | (refine ⟨by omega, ?_⟩) | (intro _)
   all_goals (refine hK _ ?_; clear hK K)
   all_goals
    refine zbo (zb4 ?_)
    simp (disch := omega)
    all_goals first | (exact zcd heq) | (refine zb8 fun heq => ?_; subst heq; simp_all [zbf, zbd, zbw]; done) | (refine (zb8 fun heq => ?_).symm; subst heq; simp_all [zbf, zbd, zbw]; done) | simp_all [zbw]
 try simp at hc29
 refine zbn ?_
 refine zbq ?_
 refine zbm ?_
 refine AW_r rfl rfl fun K hK => ?_
 simp (disch := omega)
 repeat' first | (exfalso; omega) | (refine ⟨fun _ => ?_, fun _ => ?_⟩) | (refine ⟨by omega, ?_⟩) | (intro _)
 all_goals (refine hK _ ?_; clear hK K)
 all_goals
  refine zbt ?_
  refine zb5 (fun mM sS => ∃ (i : Nat), mM = xs.length - i ∧ (i ≤ xs.length ∧ ∀ j, j < i → xs[j]? = ys[j]?) ∧ sS = { env := lkE [(0, .sl 2 (xs.map DtCSet.cells)), (1, .sl 2 (ys.map DtCSet.cells)), (5, (.g (.int .i64 ((i : Nat)))))], ob := formOb [] [] }) ?_ ?_
  ·refine ⟨_, LeS.kp [(0, .sl 2 (xs.map DtCSet.cells)), (1, .sl 2 (ys.map DtCSet.cells)), (5, (.g (.int .i64 (((0) : Nat)))))] (by simp [KpE, zbe, zbv, zbc]; try rfl), _, 0, rfl, ?_, rfl⟩
   ·simp
  ·rintro mM sS ⟨i, rfl, ⟨hi, hpre⟩, rfl⟩
   refine zbm ?_
   refine AW_r rfl rfl fun K hK => ?_
   simp (disch := omega) [DtCSet.cells]
   repeat' first | (refine ⟨by omega, ?_⟩) | (intro _)
   refine hK _ ?_; clear hK K
   refine zbl rfl (fun hc30 => ?_) (fun hc30 => ?_)
   ·try simp at hc30
    all_goals
     have h7 : i < ys.length := by omega
     have hsE : DtCSet.sz xs[i] ≤ 2097152 := by have := zcn DtCSet.sz_nonneg xs xs[i] (List.getElem_mem _); simp only [szS] at hs; omega
     refine zbn ?_
     refine zbq ?_
     refine zbm ?_
     refine zbt ?_
     refine AW_q rfl mix (by kernel_rfl) rfl fun K hK => ?_
     simp (disch := omega) [DtCSet.cells]
     repeat' first | (exfalso; omega) | (refine zcx (zbh (zbz rfl) (zbh (zbz rfl) zbs)) (eqCSet _ _ (by first | assumption | omega)) rfl ?_; simp (disch := omega) [DtCSet.cells]) | (refine ⟨fun _ => ?_, fun _ => ?_⟩) | (refine ⟨by omega, ?_⟩) | (intro _)
     all_goals (refine hK _ ?_; clear hK K)
     all_goals
      refine zbl rfl (fun hc31 => ?_) (fun hc31 => ?_)
      ·try simp at hc31
       all_goals
        refine AW_r rfl rfl fun K hK => ?_
        simp (disch := omega) [DtCSet.cells]
        repeat' first | (exfalso; omega) | (refine ⟨fun _ => ?_, fun _ => ?_⟩) | (refine ⟨by omega, ?_⟩) | (intro _)
        all_goals (refine hK _ ?_; clear hK K)
        all_goals
         refine zbo (zb4 ?_)
         simp (disch := omega) [DtCSet.cells]
         all_goals first | (exact zcd heq) | (refine zb8 fun heq => ?_; subst heq; simp_all [zbf, zbd, zbw]; done) | (refine (zb8 fun heq => ?_).symm; subst heq; simp_all [zbf, zbd, zbw]; done) | simp_all [zbw]
      try simp at hc31
      refine zbn ?_
      refine zbq ?_
      refine zc6 rfl rfl fun K hK => ?_
      simp (disch := omega) [DtCSet.cells]
      repeat' first | (exfalso; omega) | (refine ⟨fun _ => ?_, fun _ => ?_⟩) | (refine ⟨by omega, ?_⟩) | (intro _)
      all_goals (refine hK _ ?_; clear hK K)
      all_goals
       refine ⟨_, LeS.kp [(0, .sl 2 (xs.map DtCSet.cells)), (1, .sl 2 (ys.map DtCSet.cells)), (5, (.g (.int .i64 (((i + 1) : Nat)))))] (by simp [KpE, zbe, zbv, zbc]; try rfl), _, ?_, i + 1, rfl, ?_, rfl⟩
       ·omega
       ·refine ⟨by omega, fun j hj => ?_⟩
        by_cases hji : j = i
        ·subst hji; simp_all [zbf, zbd]
        ·exact hpre j (by omega)
   try simp at hc30
   have hi2 : i = xs.length := by omega
   subst hi2
   have heq : xs = ys := List.ext_getElem? fun j => by
    by_cases hj : j < xs.length
    ·exact hpre j hj
    ·rw [List.getElem?_eq_none (by omega), List.getElem?_eq_none (by omega)]
   refine zb7 ?_
   refine zbq ?_
   refine AW_r rfl rfl fun K hK => ?_
   simp (disch := omega) [DtCSet.cells]
   repeat' first | (exfalso; omega) | (refine ⟨fun _ => ?_, fun _ => ?_⟩) | (refine ⟨by omega, ?_⟩) | (intro _)
   all_goals (refine hK _ ?_; clear hK K)
   all_goals
    refine zbo (zb4 ?_)
    simp (disch := omega) [DtCSet.cells]
    all_goals first | (exact zcd heq) | (refine zb8 fun heq => ?_; subst heq; simp_all [zbf, zbd, zbw]; done) | (refine (zb8 fun heq => ?_).symm; subst heq; simp_all [zbf, zbd, zbw]; done) | simp_all [zbw]
attribute [local simp] szR DtCatalog.cells
theorem zz8 (u : DtCatalog) (n : Int) (hn : 0 ≤ n ∧ n ≤ 2097152) (hw : DtCatalog.wf u) : PCall Tryz.prog 15 [.agg (DtCatalog.cells u), (.g (.int .i64 (n)))] (.g (.int .i64 (szR n (DtCatalog.sz u)))) := by
 have w0 : (wfS DtCSet.wf) u.fSets := hw
 have w02 := w0.1
 have z0 := (zc2 DtCSet.sz_nonneg) u.fSets
 refine zbu Tryz.func15 (by rfl) (by rfl) (by rw [Tryz.ntmps15]; exact Nat.le_of_ble_eq_true rfl) rfl (by decide) ?_
 rw [Tryz.ntmps15]
 refine AW_k [(0, _), (1, _)] ⟨rfl, rfl, trivial⟩ ?_
 refine AW_r rfl rfl fun K hK => ?_
 simp (disch := omega)
 repeat' first | (refine ⟨by omega, ?_⟩) | (intro _)
 refine hK _ ?_; clear hK K
 refine AW_r rfl rfl fun K hK => ?_
 simp (disch := omega)
 repeat' first | (exfalso; omega) | (refine zcx (zbh zdd (zbh zcp zbs)) (szCSetS _ _ (by omega) (by assumption)) rfl ?_; simp (disch := omega)) | (refine ⟨by omega, ?_⟩) | (intro _)
 refine hK _ ?_; clear hK K
 refine zbm ?_
 refine AW_r rfl rfl fun K hK => ?_
 simp (disch := omega)
 repeat' first | (refine ⟨by omega, ?_⟩) | (intro _)
 refine hK _ ?_; clear hK K
 refine zbl rfl (fun hc32 => ?_) (fun hc32 => ?_)
 ·try simp at hc32
  all_goals
   refine AW_r rfl rfl fun K hK => ?_
   simp (disch := omega)
   repeat' first | (exfalso; omega) | (refine ⟨fun _ => ?_, fun _ => ?_⟩) | (refine ⟨by omega, ?_⟩) | (intro _)
   all_goals (refine hK _ ?_; clear hK K)
   all_goals
    refine zbo (zb4 ?_)
    simp (disch := omega) [DtCatalog.sz]
    all_goals first | omega | (simp_all; done) | (split <;> omega) | (split <;> simp_all <;> omega) | (simp_all [szR]; omega)
 try simp at hc32
 refine zbn ?_
 refine zbq ?_
 refine AW_r rfl rfl fun K hK => ?_
 simp (disch := omega)
 repeat' first | (exfalso; omega) | (refine ⟨fun _ => ?_, fun _ => ?_⟩) | (refine ⟨by omega, ?_⟩) | (intro _)
 all_goals (refine hK _ ?_; clear hK K)
 all_goals
  refine zbo (zb4 ?_)
  simp (disch := omega) [DtCatalog.sz]
  all_goals first | omega | (simp_all; done) | (split <;> omega) | (split <;> simp_all <;> omega) | (simp_all [szR]; omega)
attribute [-simp] szR
theorem zz9 (u v : DtCatalog) (hs : DtCatalog.sz u ≤ 2097152) : PCall Tryz.prog 33 [.agg (DtCatalog.cells u), .agg (DtCatalog.cells v)] (.g (.bool (eqB u v))) := by
 simp only [DtCatalog.sz] at hs
 have z0 := (zc2 DtCSet.sz_nonneg) u.fSets
 have s0 : szS DtCSet.sz u.fSets ≤ 2097152 := by omega
 have he := DtCatalog.ext_iff u v
 refine zbu Tryz.func33 (by rfl) (by rfl) (by rw [Tryz.ntmps33]; exact Nat.le_of_ble_eq_true rfl) rfl (by decide) ?_
 rw [Tryz.ntmps33]
 refine AW_k [(0, _), (1, _)] ⟨rfl, rfl, trivial⟩ ?_
 refine AW_r rfl rfl fun K hK => ?_
 simp
 repeat' first | (refine ⟨by omega, ?_⟩) | (intro _)
 refine hK _ ?_; clear hK K
 refine zbm ?_
 refine AW_r rfl rfl fun K hK => ?_
 simp
 repeat' first | (refine zcx (zbh zdd (zbh zdd zbs)) (eqCSetS _ _ (by first | assumption | omega)) rfl ?_; simp) | (refine ⟨by omega, ?_⟩) | (intro _)
 refine hK _ ?_; clear hK K
 refine zbl rfl (fun hc33 => ?_) (fun hc33 => ?_)
 ·try simp at hc33
  all_goals
   refine AW_r rfl rfl fun K hK => ?_
   simp
   repeat' first | (refine ⟨fun _ => ?_, fun _ => ?_⟩) | (refine ⟨by omega, ?_⟩) | (intro _)
   all_goals (refine hK _ ?_; clear hK K)
   all_goals
    refine zbo (zb4 ?_)
    simp
    all_goals first | (refine zcd (he.mpr ?_); simp_all [zbf, zbd]; done) | (refine zb8 fun h => ?_; rw [he] at h; simp_all [zbf, zbd, zbw]; done) | (refine (zcd (he.mpr ?_)).symm; simp_all [zbf, zbd]; done) | (refine (zb8 fun h => ?_).symm; rw [he] at h; simp_all [zbf, zbd, zbw]; done)
 try simp at hc33
 refine zbn ?_
 refine zbq ?_
 refine AW_r rfl rfl fun K hK => ?_
 simp
 repeat' first | (refine ⟨fun _ => ?_, fun _ => ?_⟩) | (refine ⟨by omega, ?_⟩) | (intro _)
 all_goals (refine hK _ ?_; clear hK K)
 all_goals
  refine zbo (zb4 ?_)
  simp
  all_goals first | (refine zcd (he.mpr ?_); simp_all [zbf, zbd]; done) | (refine zb8 fun h => ?_; rw [he] at h; simp_all [zbf, zbd, zbw]; done) | (refine (zcd (he.mpr ?_)).symm; simp_all [zbf, zbd]; done) | (refine (zb8 fun h => ?_).symm; rw [he] at h; simp_all [zbf, zbd, zbw]; done)
attribute [local simp] szR DtSaid.cells
attribute [-simp] DtCatalog.cells
theorem szSaid (u : DtSaid) (n : Int) (hn : 0 ≤ n ∧ n ≤ 2097152) (hw : DtSaid.wf u) : PCall Tryz.prog 42 [.agg (DtSaid.cells u), (.g (.int .i64 (n)))] (.g (.int .i64 (szR n (DtSaid.sz u)))) := by
 have ⟨w0, w1, w2⟩ := hw
 have w22 : u.fText.length ≤ 9223372036854775807 := w2
 refine zbu Tryz.func42 (by rfl) (by rfl) (by rw [Tryz.ntmps42]; exact Nat.le_of_ble_eq_true rfl) rfl (by decide) ?_
 rw [Tryz.ntmps42]
 refine AW_k [(0, _), (1, _)] ⟨rfl, rfl, trivial⟩ ?_
 refine AW_r rfl rfl fun K hK => ?_
 simp (disch := omega)
 repeat' first | (refine ⟨by omega, ?_⟩) | (intro _)
 refine hK _ ?_; clear hK K
 refine AW_r rfl rfl fun K hK => ?_
 simp (disch := omega)
 repeat' first | (refine ⟨by omega, ?_⟩) | (intro _)
 refine hK _ ?_; clear hK K
 refine zbm ?_
 refine AW_r rfl rfl fun K hK => ?_
 simp (disch := omega)
 repeat' first | (refine ⟨by omega, ?_⟩) | (intro _)
 refine hK _ ?_; clear hK K
 refine zbl rfl (fun hc34 => ?_) (fun hc34 => ?_)
 ·try simp at hc34
  all_goals
   refine AW_r rfl rfl fun K hK => ?_
   simp (disch := omega)
   repeat' first | (exfalso; omega) | (refine ⟨fun _ => ?_, fun _ => ?_⟩) | (refine ⟨by omega, ?_⟩) | (intro _)
   all_goals (refine hK _ ?_; clear hK K)
   all_goals
    refine zbo (zb4 ?_)
    simp (disch := omega) [DtSaid.sz]
    all_goals first | omega | (simp_all; done) | (split <;> omega) | (split <;> simp_all <;> omega) | (simp_all [szR]; omega)
 try simp at hc34
 refine zbn ?_
 refine zbq ?_
 refine AW_r rfl rfl fun K hK => ?_
 simp (disch := omega)
 repeat' first | (exfalso; omega) | (refine ⟨fun _ => ?_, fun _ => ?_⟩) | (refine ⟨by omega, ?_⟩) | (intro _)
 all_goals (refine hK _ ?_; clear hK K)
 all_goals
  refine zbo (zb4 ?_)
  simp (disch := omega) [DtSaid.sz]
  all_goals first | omega | (simp_all; done) | (split <;> omega) | (split <;> simp_all <;> omega) | (simp_all [szR]; omega)
attribute [-simp] szR
theorem toSaid (u : DtSaid) (hs : DtSaid.sz u ≤ 2097152) : PCall Tryz.prog 52 [.agg (DtSaid.cells u)] (.agg (DtSaid.cells u)) := by
 simp only [DtSaid.sz] at hs
 have s2 : (u.fText.length : Int) ≤ 2097152 := by omega
 refine zbu Tryz.func52 (by rfl) (by rfl) (by rw [Tryz.ntmps52]; exact Nat.le_of_ble_eq_true rfl) rfl (by decide) ?_
 rw [Tryz.ntmps52]
 refine AW_k [(0, _)] ⟨rfl, trivial⟩ ?_
 refine AW_r rfl rfl fun K hK => ?_
 simp
 repeat' first | (refine ⟨by omega, ?_⟩) | (intro _)
 refine hK _ ?_; clear hK K
 refine AW_r rfl rfl fun K hK => ?_
 simp
 repeat' first | (refine ⟨by omega, ?_⟩) | (intro _)
 refine hK _ ?_; clear hK K
 refine AW_r rfl rfl fun K hK => ?_
 simp
 repeat' first | (refine ⟨by omega, ?_⟩) | (intro _)
 refine hK _ ?_; clear hK K
 refine AW_r rfl rfl fun K hK => ?_
 simp
 repeat' first | (refine ⟨by omega, ?_⟩) | (intro _)
 refine hK _ ?_; clear hK K
 refine AW_r rfl rfl fun K hK => ?_
 simp
 repeat' first | (refine ⟨by omega, ?_⟩) | (intro _)
 refine hK _ ?_; clear hK K
 refine AW_r rfl rfl fun K hK => ?_
 simp
 repeat' first | (refine ⟨by omega, ?_⟩) | (intro _)
 refine hK _ ?_; clear hK K
 refine zbo (zb4 ?_)
 simp
 all_goals first | omega | (simp_all; done) | (simp [List.take_of_length_le]; done) | ((try simp_all); (try simp (disch := omega) only [zbi, Int.tdiv_eq_ediv_of_nonneg, Int.tmod_eq_emod_of_nonneg, and_true, true_and]); done) | ((try simp_all); (try simp (disch := omega) only [zbi, Int.tdiv_eq_ediv_of_nonneg, Int.tmod_eq_emod_of_nonneg, and_true, true_and] at *); omega)
theorem eqSaid (u v : DtSaid) (hs : DtSaid.sz u ≤ 2097152) : PCall Tryz.prog 70 [.agg (DtSaid.cells u), .agg (DtSaid.cells v)] (.g (.bool (eqB u v))) := by
 simp only [DtSaid.sz] at hs
 have s2 : (u.fText.length : Int) ≤ 2097152 := by omega
 have he := DtSaid.ext_iff u v
 refine zbu Tryz.func70 (by rfl) (by rfl) (by rw [Tryz.ntmps70]; exact Nat.le_of_ble_eq_true rfl) rfl (by decide) ?_
 rw [Tryz.ntmps70]
 refine AW_k [(0, _), (1, _)] ⟨rfl, rfl, trivial⟩ ?_
 refine AW_r rfl rfl fun K hK => ?_
 simp
 repeat' first | (refine ⟨by omega, ?_⟩) | (intro _)
 refine hK _ ?_; clear hK K
 refine zbm ?_
 refine AW_r rfl rfl fun K hK => ?_
 simp
 repeat' first | (refine ⟨by omega, ?_⟩) | (intro _)
 refine hK _ ?_; clear hK K
 refine zbl rfl (fun hc35 => ?_) (fun hc35 => ?_)
 ·try simp at hc35
  all_goals
   refine AW_r rfl rfl fun K hK => ?_
   simp
   repeat' first | (refine ⟨fun _ => ?_, fun _ => ?_⟩) | (refine ⟨by omega, ?_⟩) | (intro _)
   all_goals (refine hK _ ?_; clear hK K)
   all_goals
    refine zbo (zb4 ?_)
    simp
    all_goals first | (refine zcd (he.mpr ?_); simp_all [zbf, zbd]; done) | (refine zb8 fun h => ?_; rw [he] at h; simp_all [zbf, zbd, zbw]; done) | (refine (zcd (he.mpr ?_)).symm; simp_all [zbf, zbd]; done) | (refine (zb8 fun h => ?_).symm; rw [he] at h; simp_all [zbf, zbd, zbw]; done)
 try simp at hc35
 refine zbn ?_
 refine zbq ?_
 refine zbm ?_
 refine AW_r rfl rfl fun K hK => ?_
 simp
 repeat' first | (refine ⟨fun _ => ?_, fun _ => ?_⟩) | (refine ⟨by omega, ?_⟩) | (intro _)
 all_goals (refine hK _ ?_; clear hK K)
 all_goals
  refine zbl rfl (fun hc36 => ?_) (fun hc36 => ?_)
  ·try simp at hc36
   all_goals
    refine AW_r rfl rfl fun K hK => ?_
    simp
    repeat' first | (refine ⟨fun _ => ?_, fun _ => ?_⟩) | (refine ⟨by omega, ?_⟩) | (intro _)
    all_goals (refine hK _ ?_; clear hK K)
    all_goals
     refine zbo (zb4 ?_)
     simp
     all_goals first | (refine zcd (he.mpr ?_); simp_all [zbf, zbd]; done) | (refine zb8 fun h => ?_; rw [he] at h; simp_all [zbf, zbd, zbw]; done) | (refine (zcd (he.mpr ?_)).symm; simp_all [zbf, zbd]; done) | (refine (zb8 fun h => ?_).symm; rw [he] at h; simp_all [zbf, zbd, zbw]; done)
  try simp at hc36
  refine zbn ?_
  refine zbq ?_
  refine zbm ?_
  refine AW_r rfl rfl fun K hK => ?_
  simp
  repeat' first | (refine ⟨fun _ => ?_, fun _ => ?_⟩) | (refine ⟨by omega, ?_⟩) | (intro _)
  all_goals (refine hK _ ?_; clear hK K)
  all_goals
   refine zbl rfl (fun hc37 => ?_) (fun hc37 => ?_)
   ·try simp at hc37
    all_goals
     refine AW_r rfl rfl fun K hK => ?_
     simp
     repeat' first | (refine ⟨fun _ => ?_, fun _ => ?_⟩) | (refine ⟨by omega, ?_⟩) | (intro _)
     all_goals (refine hK _ ?_; clear hK K)
     all_goals
      refine zbo (zb4 ?_)
      simp
      all_goals first | (refine zcd (he.mpr ?_); simp_all [zbf, zbd]; done) | (refine zb8 fun h => ?_; rw [he] at h; simp_all [zbf, zbd, zbw]; done) | (refine (zcd (he.mpr ?_)).symm; simp_all [zbf, zbd]; done) | (refine (zb8 fun h => ?_).symm; rw [he] at h; simp_all [zbf, zbd, zbw]; done)
   try simp at hc37
   refine zbn ?_
   refine zbq ?_
   refine AW_r rfl rfl fun K hK => ?_
   simp
   repeat' first | (refine ⟨fun _ => ?_, fun _ => ?_⟩) | (refine ⟨by omega, ?_⟩) | (intro _)
   all_goals (refine hK _ ?_; clear hK K)
   all_goals
    refine zbo (zb4 ?_)
    simp
    all_goals first | (refine zcd (he.mpr ?_); simp_all [zbf, zbd]; done) | (refine zb8 fun h => ?_; rw [he] at h; simp_all [zbf, zbd, zbw]; done) | (refine (zcd (he.mpr ?_)).symm; simp_all [zbf, zbd]; done) | (refine (zb8 fun h => ?_).symm; rw [he] at h; simp_all [zbf, zbd, zbw]; done)
attribute [local simp] szR
attribute [-simp] DtSaid.cells
theorem szSaidS (xs : List DtSaid) (n : Int) (hn : 0 ≤ n ∧ n ≤ 2097152) (hw : (wfS DtSaid.wf) xs) : PCall Tryz.prog 16 [.sl 3 (xs.map DtSaid.cells), (.g (.int .i64 (n)))] (.g (.int .i64 (szR n (szS DtSaid.sz xs)))) := by
 have hq := zb9 DtSaid.sz_nonneg xs
 have hw1 := hw.1
 refine zbu Tryz.func16 (by rfl) (by rfl) (by rw [Tryz.ntmps16]; exact Nat.le_of_ble_eq_true rfl) rfl (by decide) ?_
 rw [Tryz.ntmps16]
 refine AW_k [(0, _), (1, _)] ⟨rfl, rfl, trivial⟩ ?_
 refine AW_r rfl rfl fun K hK => ?_
 simp (disch := omega)
 repeat' first | (refine ⟨by omega, ?_⟩) | (intro _)
 refine hK _ ?_; clear hK K
 refine AW_r rfl rfl fun K hK => ?_
 simp (disch := omega)
 repeat' first | (refine ⟨by omega, ?_⟩) | (intro _)
 refine hK _ ?_; clear hK K
 refine zbm ?_
 refine AW_r rfl rfl fun K hK => ?_
 simp (disch := omega)
 repeat' first | (refine ⟨by omega, ?_⟩) | (intro _)
 refine hK _ ?_; clear hK K
 refine zbl rfl (fun hc38 => ?_) (fun hc38 => ?_)
 ·try simp at hc38
  all_goals
   refine AW_r rfl rfl fun K hK => ?_
   simp (disch := omega)
   repeat' first | (exfalso; omega) | (refine ⟨fun _ => ?_, fun _ => ?_⟩) | (refine ⟨by omega, ?_⟩) | (intro _)
   all_goals (refine hK _ ?_; clear hK K)
   all_goals
    refine zbo (zb4 ?_)
    simp (disch := omega) [szS]
    all_goals first | omega | (split <;> omega)
 try simp at hc38
 refine zbn ?_
 refine zbq ?_
 refine zbm ?_
 refine AW_r rfl rfl fun K hK => ?_
 simp (disch := omega)
 repeat' first | (exfalso; omega) | (refine ⟨fun _ => ?_, fun _ => ?_⟩) | (refine ⟨by omega, ?_⟩) | (intro _)
 all_goals (refine hK _ ?_; clear hK K)
 all_goals
  refine zbt ?_
  refine zb5 (fun mM sS => ∃ (i : Nat), mM = xs.length - i ∧ (i ≤ xs.length ∧ 0 ≤ n - xs.length - sumZ DtSaid.sz (xs.take i)) ∧ sS = { env := lkE [(0, .sl 3 (xs.map DtSaid.cells)), (1, (.g (.int .i64 (n - xs.length - sumZ DtSaid.sz (xs.take i))))), (5, (.g (.int .i64 ((i : Nat)))))], ob := formOb [] [] }) ?_ ?_
  ·refine ⟨_, LeS.kp [(0, .sl 3 (xs.map DtSaid.cells)), (1, (.g (.int .i64 (n - xs.length - sumZ DtSaid.sz (xs.take (0)))))), (5, (.g (.int .i64 (((0) : Nat)))))] (by simp [KpE, zbe, zbv, zbc, zdc]; try first | rfl | omega), _, 0, rfl, ?_, rfl⟩
   ·simp [zdc]; omega
  ·rintro mM sS ⟨i, rfl, ⟨hi, hn⟩, rfl⟩
   have hz := zb9 DtSaid.sz_nonneg (xs.take i)
   have hz2 := zdg DtSaid.sz_nonneg xs i
   refine zbm ?_
   refine AW_r rfl rfl fun K hK => ?_
   simp (disch := omega) [DtSaid.cells]
   repeat' first | (refine ⟨by omega, ?_⟩) | (intro _)
   refine hK _ ?_; clear hK K
   refine zbl rfl (fun hc39 => ?_) (fun hc39 => ?_)
   ·try simp at hc39
    all_goals
     have hl := zh0 (f := DtSaid.sz) xs i (by omega)
     have hwE : DtSaid.wf xs[i] := hw.2 _ (List.getElem_mem _)
     have hz3 := zdg DtSaid.sz_nonneg xs (i + 1)
     have hzE := DtSaid.sz_nonneg xs[i]
     have hszR : szR (n - xs.length - sumZ DtSaid.sz (xs.take i)) (DtSaid.sz xs[i]) = n - xs.length - sumZ DtSaid.sz (xs.take (i + 1)) ∨ (szR (n - xs.length - sumZ DtSaid.sz (xs.take i)) (DtSaid.sz xs[i]) = -1 ∧ n - xs.length - sumZ DtSaid.sz (xs.take (i + 1)) < 0) := by unfold szR; split <;> omega
     refine zbn ?_
     refine zbq ?_
     refine zbm ?_
     refine zbt ?_
     refine AW_r rfl rfl fun K hK => ?_
     simp (disch := omega) [DtSaid.cells]
     repeat' first | (exfalso; omega) | (refine zcx (zbh (zbz rfl) (zbh zcp zbs)) (szSaid _ _ (by omega) (by first | exact hwE | exact hw)) rfl ?_; simp (disch := omega) [DtSaid.cells]) | (refine ⟨fun _ => ?_, fun _ => ?_⟩) | (refine ⟨by omega, ?_⟩) | (intro _)
     all_goals (refine hK _ ?_; clear hK K)
     all_goals
      refine AW_r rfl rfl fun K hK => ?_
      simp (disch := omega) [DtSaid.cells]
      repeat' first | (refine ⟨by omega, ?_⟩) | (intro _)
      refine hK _ ?_; clear hK K
      refine zbl rfl (fun hc40 => ?_) (fun hc40 => ?_)
      ·try simp at hc40
       all_goals
        refine AW_r rfl rfl fun K hK => ?_
        simp (disch := omega) [DtSaid.cells]
        repeat' first | (exfalso; omega) | (refine ⟨fun _ => ?_, fun _ => ?_⟩) | (refine ⟨by omega, ?_⟩) | (intro _)
        all_goals (refine hK _ ?_; clear hK K)
        all_goals
         refine zbo (zb4 ?_)
         simp (disch := omega) [DtSaid.cells, szS]
         all_goals first | omega | (split <;> omega)
      try simp at hc40
      refine zbn ?_
      refine zbq ?_
      refine zc6 rfl rfl fun K hK => ?_
      simp (disch := omega) [DtSaid.cells]
      repeat' first | (exfalso; omega) | (refine ⟨fun _ => ?_, fun _ => ?_⟩) | (refine ⟨by omega, ?_⟩) | (intro _)
      all_goals (refine hK _ ?_; clear hK K)
      all_goals
       refine ⟨_, LeS.kp [(0, .sl 3 (xs.map DtSaid.cells)), (1, (.g (.int .i64 (n - xs.length - sumZ DtSaid.sz (xs.take (i + 1)))))), (5, (.g (.int .i64 (((i + 1) : Nat)))))] (by simp [KpE, zbe, zbv, zbc, zdc]; try first | rfl | omega), _, ?_, i + 1, rfl, ?_, rfl⟩
       ·omega
       ·omega
   try simp at hc39
   have hi2 : i = xs.length := by omega
   subst hi2
   simp only [List.take_length] at *
   refine zb7 ?_
   refine zbq ?_
   refine AW_r rfl rfl fun K hK => ?_
   simp (disch := omega) [DtSaid.cells]
   repeat' first | (exfalso; omega) | (refine ⟨fun _ => ?_, fun _ => ?_⟩) | (refine ⟨by omega, ?_⟩) | (intro _)
   all_goals (refine hK _ ?_; clear hK K)
   all_goals
    refine zbo (zb4 ?_)
    simp (disch := omega) [DtSaid.cells, szS]
    all_goals first | omega | (split <;> omega)
attribute [-simp] szR
theorem eqSaidS (xs ys : List DtSaid) (hs : szS DtSaid.sz xs ≤ 2097152) : PCall Tryz.prog 34 [.sl 3 (xs.map DtSaid.cells), .sl 3 (ys.map DtSaid.cells)] (.g (.bool (eqB xs ys))) := by
 have hn : xs.length ≤ 2097152 := by have := zb9 DtSaid.sz_nonneg xs; simp only [szS] at hs; omega
 refine zbu Tryz.func34 (by rfl) (by rfl) (by rw [Tryz.ntmps34]; exact Nat.le_of_ble_eq_true rfl) rfl (by decide) ?_
 rw [Tryz.ntmps34]
 refine AW_k [(0, _), (1, _)] ⟨rfl, rfl, trivial⟩ ?_
 refine AW_r rfl rfl fun K hK => ?_
 simp (disch := omega)
 repeat' first | (refine ⟨by omega, ?_⟩) | (intro _)
 refine hK _ ?_; clear hK K
 refine zbm ?_
 refine AW_r rfl rfl fun K hK => ?_
 simp (disch := omega)
 repeat' first | (refine ⟨by omega, ?_⟩) | (intro _)
 refine hK _ ?_; clear hK K
 refine zbl rfl (fun hc42 => ?_) (fun hc42 => ?_)
 ·try simp at hc42
  all_goals
   refine AW_r rfl rfl fun K hK => ?_
   simp (disch := omega)
   repeat' first | (exfalso; omega) | (refine ⟨fun _ => ?_, fun _ => ?_⟩) | (refine ⟨by omega, ?_⟩) | (intro _)
   all_goals (refine hK _ ?_; clear hK K)
   all_goals
    refine zbo (zb4 ?_)
    simp (disch := omega)
    all_goals first | (exact zcd heq) | (refine zb8 fun heq => ?_; subst heq; simp_all [zbf, zbd, zbw]; done) | (refine (zb8 fun heq => ?_).symm; subst heq; simp_all [zbf, zbd, zbw]; done) | simp_all [zbw]
 try simp at hc42
 refine zbn ?_
 refine zbq ?_
 refine zbm ?_
 refine AW_r rfl rfl fun K hK => ?_
 simp (disch := omega)
 repeat' first | (exfalso; omega) | (refine ⟨fun _ => ?_, fun _ => ?_⟩) | (refine ⟨by omega, ?_⟩) | (intro _)
 all_goals (refine hK _ ?_; clear hK K)
 all_goals
  refine zbt ?_
  refine zb5 (fun mM sS => ∃ (i : Nat), mM = xs.length - i ∧ (i ≤ xs.length ∧ ∀ j, j < i → xs[j]? = ys[j]?) ∧ sS = { env := lkE [(0, .sl 3 (xs.map DtSaid.cells)), (1, .sl 3 (ys.map DtSaid.cells)), (5, (.g (.int .i64 ((i : Nat)))))], ob := formOb [] [] }) ?_ ?_
  ·refine ⟨_, LeS.kp [(0, .sl 3 (xs.map DtSaid.cells)), (1, .sl 3 (ys.map DtSaid.cells)), (5, (.g (.int .i64 (((0) : Nat)))))] (by simp [KpE, zbe, zbv, zbc]; try rfl), _, 0, rfl, ?_, rfl⟩
   ·simp
  ·rintro mM sS ⟨i, rfl, ⟨hi, hpre⟩, rfl⟩
   refine zbm ?_
   refine AW_r rfl rfl fun K hK => ?_
   simp (disch := omega) [DtSaid.cells]
   repeat' first | (refine ⟨by omega, ?_⟩) | (intro _)
   refine hK _ ?_; clear hK K
   refine zbl rfl (fun hc43 => ?_) (fun hc43 => ?_)
   ·try simp at hc43
    all_goals
     have h7 : i < ys.length := by omega
     have hsE : DtSaid.sz xs[i] ≤ 2097152 := by have := zcn DtSaid.sz_nonneg xs xs[i] (List.getElem_mem _); simp only [szS] at hs; omega
     refine zbn ?_
     refine zbq ?_
     refine zbm ?_
     refine zbt ?_
     refine AW_q rfl mix (by kernel_rfl) rfl fun K hK => ?_
     simp (disch := omega) [DtSaid.cells]
     repeat' first | (exfalso; omega) | (refine zcx (zbh (zbz rfl) (zbh (zbz rfl) zbs)) (eqSaid _ _ (by first | assumption | omega)) rfl ?_; simp (disch := omega) [DtSaid.cells]) | (refine ⟨fun _ => ?_, fun _ => ?_⟩) | (refine ⟨by omega, ?_⟩) | (intro _)
     all_goals (refine hK _ ?_; clear hK K)
     all_goals
      refine zbl rfl (fun hc44 => ?_) (fun hc44 => ?_)
      ·try simp at hc44
       all_goals
        refine AW_r rfl rfl fun K hK => ?_
        simp (disch := omega) [DtSaid.cells]
        repeat' first | (exfalso; omega) | (refine ⟨fun _ => ?_, fun _ => ?_⟩) | (refine ⟨by omega, ?_⟩) | (intro _)
        all_goals (refine hK _ ?_; clear hK K)
        all_goals
         refine zbo (zb4 ?_)
         simp (disch := omega) [DtSaid.cells]
         all_goals first | (exact zcd heq) | (refine zb8 fun heq => ?_; subst heq; simp_all [zbf, zbd, zbw]; done) | (refine (zb8 fun heq => ?_).symm; subst heq; simp_all [zbf, zbd, zbw]; done) | simp_all [zbw]
      try simp at hc44
      refine zbn ?_
      refine zbq ?_
      refine zc6 rfl rfl fun K hK => ?_
      simp (disch := omega) [DtSaid.cells]
      repeat' first | (exfalso; omega) | (refine ⟨fun _ => ?_, fun _ => ?_⟩) | (refine ⟨by omega, ?_⟩) | (intro _)
      all_goals (refine hK _ ?_; clear hK K)
      all_goals
       refine ⟨_, LeS.kp [(0, .sl 3 (xs.map DtSaid.cells)), (1, .sl 3 (ys.map DtSaid.cells)), (5, (.g (.int .i64 (((i + 1) : Nat)))))] (by simp [KpE, zbe, zbv, zbc]; try rfl), _, ?_, i + 1, rfl, ?_, rfl⟩
       ·omega
       ·refine ⟨by omega, fun j hj => ?_⟩
        by_cases hji : j = i
        ·subst hji; simp_all [zbf, zbd]
        ·exact hpre j (by omega)
   try simp at hc43
   have hi2 : i = xs.length := by omega
   subst hi2
   have heq : xs = ys := List.ext_getElem? fun j => by
    by_cases hj : j < xs.length
    ·exact hpre j hj
    ·rw [List.getElem?_eq_none (by omega), List.getElem?_eq_none (by omega)]
   refine zb7 ?_
   refine zbq ?_
   refine AW_r rfl rfl fun K hK => ?_
   simp (disch := omega) [DtSaid.cells]
   repeat' first | (exfalso; omega) | (refine ⟨fun _ => ?_, fun _ => ?_⟩) | (refine ⟨by omega, ?_⟩) | (intro _)
   all_goals (refine hK _ ?_; clear hK K)
   all_goals
    refine zbo (zb4 ?_)
    simp (disch := omega) [DtSaid.cells]
    all_goals first | (exact zcd heq) | (refine zb8 fun heq => ?_; subst heq; simp_all [zbf, zbd, zbw]; done) | (refine (zb8 fun heq => ?_).symm; subst heq; simp_all [zbf, zbd, zbw]; done) | simp_all [zbw]
attribute [local simp] szR DtState.cells
theorem zjt (u : DtState) (n : Int) (hn : 0 ≤ n ∧ n ≤ 2097152) (hw : DtState.wf u) : PCall Tryz.prog 4 [.agg (DtState.cells u), (.g (.int .i64 (n)))] (.g (.int .i64 (szR n (DtState.sz u)))) := by
 have ⟨w0, w1⟩ := hw
 have z0 := DtCatalog.sz_nonneg u.fCat
 have w12 := w1.1
 have z1 := (zc2 DtSaid.sz_nonneg) u.fSaid
 refine zbu Tryz.func4 (by rfl) (by rfl) (by rw [Tryz.ntmps4]; exact Nat.le_of_ble_eq_true rfl) rfl (by decide) ?_
 rw [Tryz.ntmps4]
 refine AW_k [(0, _), (1, _)] ⟨rfl, rfl, trivial⟩ ?_
 refine AW_r rfl rfl fun K hK => ?_
 simp (disch := omega)
 repeat' first | (refine ⟨by omega, ?_⟩) | (intro _)
 refine hK _ ?_; clear hK K
 refine AW_r rfl rfl fun K hK => ?_
 simp (disch := omega)
 repeat' first | (exfalso; omega) | (refine zcx (zbh (zbz rfl) (zbh zcp zbs)) (zz8 _ _ (by omega) (by assumption)) rfl ?_; simp (disch := omega)) | (refine ⟨by omega, ?_⟩) | (intro _)
 refine hK _ ?_; clear hK K
 refine zbm ?_
 refine AW_r rfl rfl fun K hK => ?_
 simp (disch := omega)
 repeat' first | (refine ⟨by omega, ?_⟩) | (intro _)
 refine hK _ ?_; clear hK K
 refine zbl rfl (fun hc45 => ?_) (fun hc45 => ?_)
 ·try simp at hc45
  all_goals
   refine AW_r rfl rfl fun K hK => ?_
   simp (disch := omega)
   repeat' first | (exfalso; omega) | (refine ⟨fun _ => ?_, fun _ => ?_⟩) | (refine ⟨by omega, ?_⟩) | (intro _)
   all_goals (refine hK _ ?_; clear hK K)
   all_goals
    refine zbo (zb4 ?_)
    simp (disch := omega) [DtState.sz]
    all_goals first | omega | (simp_all; done) | (split <;> omega) | (split <;> simp_all <;> omega) | (simp_all [szR]; omega)
 try simp at hc45
 refine zbn ?_
 refine zbq ?_
 refine AW_r rfl rfl fun K hK => ?_
 simp (disch := omega)
 repeat' first | (exfalso; omega) | (refine zcx (zbh zdd (zbh zcp zbs)) (szSaidS _ _ (by omega) (by assumption)) rfl ?_; simp (disch := omega)) | (refine ⟨fun _ => ?_, fun _ => ?_⟩) | (refine ⟨by omega, ?_⟩) | (intro _)
 all_goals (refine hK _ ?_; clear hK K)
 all_goals
  refine zbm ?_
  refine AW_r rfl rfl fun K hK => ?_
  simp (disch := omega)
  repeat' first | (refine ⟨by omega, ?_⟩) | (intro _)
  refine hK _ ?_; clear hK K
  refine zbl rfl (fun hc46 => ?_) (fun hc46 => ?_)
  ·try simp at hc46
   all_goals
    refine AW_r rfl rfl fun K hK => ?_
    simp (disch := omega)
    repeat' first | (exfalso; omega) | (refine ⟨fun _ => ?_, fun _ => ?_⟩) | (refine ⟨by omega, ?_⟩) | (intro _)
    all_goals (refine hK _ ?_; clear hK K)
    all_goals
     refine zbo (zb4 ?_)
     simp (disch := omega) [DtState.sz]
     all_goals first | omega | (simp_all; done) | (split <;> omega) | (split <;> simp_all <;> omega) | (simp_all [szR]; omega)
  try simp at hc46
  refine zbn ?_
  refine zbq ?_
  refine AW_r rfl rfl fun K hK => ?_
  simp (disch := omega)
  repeat' first | (exfalso; omega) | (refine ⟨fun _ => ?_, fun _ => ?_⟩) | (refine ⟨by omega, ?_⟩) | (intro _)
  all_goals (refine hK _ ?_; clear hK K)
  all_goals
   refine zbo (zb4 ?_)
   simp (disch := omega) [DtState.sz]
   all_goals first | omega | (simp_all; done) | (split <;> omega) | (split <;> simp_all <;> omega) | (simp_all [szR]; omega)
attribute [-simp] szR
attribute [local simp] DtCatalog.cells
attribute [-simp] DtCatalog.cells
attribute [local simp] DtCatalog.cells
theorem zdt (u v : DtState) (hs : DtState.sz u ≤ 2097152) : PCall Tryz.prog 10 [.agg (DtState.cells u), .agg (DtState.cells v)] (.g (.bool (eqB u v))) := by
 simp only [DtState.sz] at hs
 have z0 := DtCatalog.sz_nonneg u.fCat
 have z1 := (zc2 DtSaid.sz_nonneg) u.fSaid
 have s0 : DtCatalog.sz u.fCat ≤ 2097152 := by omega
 have s1 : szS DtSaid.sz u.fSaid ≤ 2097152 := by omega
 have he := DtState.ext_iff u v
 refine zbu Tryz.func10 (by rfl) (by rfl) (by rw [Tryz.ntmps10]; exact Nat.le_of_ble_eq_true rfl) rfl (by decide) ?_
 rw [Tryz.ntmps10]
 refine AW_k [(0, _), (1, _)] ⟨rfl, rfl, trivial⟩ ?_
 refine AW_r rfl rfl fun K hK => ?_
 simp
 repeat' first | (refine ⟨by omega, ?_⟩) | (intro _)
 refine hK _ ?_; clear hK K
 refine zbm ?_
 refine AW_r rfl rfl fun K hK => ?_
 simp
 repeat' first | (refine zcx (zbh (zbz rfl) (zbh (zbz rfl) zbs)) (zz9 _ _ (by first | assumption | omega)) rfl ?_; simp) | (refine ⟨by omega, ?_⟩) | (intro _)
 refine hK _ ?_; clear hK K
 refine zbl rfl (fun hc47 => ?_) (fun hc47 => ?_)
 ·try simp at hc47
  all_goals
   refine AW_r rfl rfl fun K hK => ?_
   simp
   repeat' first | (refine ⟨fun _ => ?_, fun _ => ?_⟩) | (refine ⟨by omega, ?_⟩) | (intro _)
   all_goals (refine hK _ ?_; clear hK K)
   all_goals
    refine zbo (zb4 ?_)
    simp
    all_goals first | (refine zcd (he.mpr ?_); simp_all [zbf, zbd]; done) | (refine zb8 fun h => ?_; rw [he] at h; simp_all [zbf, zbd, zbw]; done) | (refine (zcd (he.mpr ?_)).symm; simp_all [zbf, zbd]; done) | (refine (zb8 fun h => ?_).symm; rw [he] at h; simp_all [zbf, zbd, zbw]; done)
 try simp at hc47
 refine zbn ?_
 refine zbq ?_
 refine zbm ?_
 refine AW_r rfl rfl fun K hK => ?_
 simp
 repeat' first | (refine zcx (zbh zdd (zbh zdd zbs)) (eqSaidS _ _ (by first | assumption | omega)) rfl ?_; simp) | (refine ⟨fun _ => ?_, fun _ => ?_⟩) | (refine ⟨by omega, ?_⟩) | (intro _)
 all_goals (refine hK _ ?_; clear hK K)
 all_goals
  refine zbl rfl (fun hc48 => ?_) (fun hc48 => ?_)
  ·try simp at hc48
   all_goals
    refine AW_r rfl rfl fun K hK => ?_
    simp
    repeat' first | (refine ⟨fun _ => ?_, fun _ => ?_⟩) | (refine ⟨by omega, ?_⟩) | (intro _)
    all_goals (refine hK _ ?_; clear hK K)
    all_goals
     refine zbo (zb4 ?_)
     simp
     all_goals first | (refine zcd (he.mpr ?_); simp_all [zbf, zbd]; done) | (refine zb8 fun h => ?_; rw [he] at h; simp_all [zbf, zbd, zbw]; done) | (refine (zcd (he.mpr ?_)).symm; simp_all [zbf, zbd]; done) | (refine (zb8 fun h => ?_).symm; rw [he] at h; simp_all [zbf, zbd, zbw]; done)
  try simp at hc48
  refine zbn ?_
  refine zbq ?_
  refine AW_r rfl rfl fun K hK => ?_
  simp
  repeat' first | (refine ⟨fun _ => ?_, fun _ => ?_⟩) | (refine ⟨by omega, ?_⟩) | (intro _)
  all_goals (refine hK _ ?_; clear hK K)
  all_goals
   refine zbo (zb4 ?_)
   simp
   all_goals first | (refine zcd (he.mpr ?_); simp_all [zbf, zbd]; done) | (refine zb8 fun h => ?_; rw [he] at h; simp_all [zbf, zbd, zbw]; done) | (refine (zcd (he.mpr ?_)).symm; simp_all [zbf, zbd]; done) | (refine (zb8 fun h => ?_).symm; rw [he] at h; simp_all [zbf, zbd, zbw]; done)
attribute [local simp] szR DtCmd.cells
attribute [-simp] DtState.cells DtCatalog.cells
theorem szCmd (u : DtCmd) (n : Int) (hn : 0 ≤ n ∧ n ≤ 2097152) (hw : DtCmd.wf u) : PCall Tryz.prog 5 [.agg (DtCmd.cells u), (.g (.int .i64 (n)))] (.g (.int .i64 (szR n (DtCmd.sz u)))) := by
 have ⟨w0, w1, w2, w3, w4, w5, w6, w7⟩ := hw
 have w32 : u.fSet.length ≤ 9223372036854775807 := w3
 have w42 : u.fName.length ≤ 9223372036854775807 := w4
 have w52 : u.fTag.length ≤ 9223372036854775807 := w5
 have w72 := w7.1
 have z7 := (zc2 zce) u.fChunks
 refine zbu Tryz.func5 (by rfl) (by rfl) (by rw [Tryz.ntmps5]; exact Nat.le_of_ble_eq_true rfl) rfl (by decide) ?_
 rw [Tryz.ntmps5]
 refine AW_k [(0, _), (1, _)] ⟨rfl, rfl, trivial⟩ ?_
 refine AW_r rfl rfl fun K hK => ?_
 simp (disch := omega)
 repeat' first | (refine ⟨by omega, ?_⟩) | (intro _)
 refine hK _ ?_; clear hK K
 refine AW_r rfl rfl fun K hK => ?_
 simp (disch := omega)
 repeat' first | (refine ⟨by omega, ?_⟩) | (intro _)
 refine hK _ ?_; clear hK K
 refine zbm ?_
 refine AW_r rfl rfl fun K hK => ?_
 simp (disch := omega)
 repeat' first | (refine ⟨by omega, ?_⟩) | (intro _)
 refine hK _ ?_; clear hK K
 refine zbl rfl (fun hc49 => ?_) (fun hc49 => ?_)
 ·try simp at hc49
  all_goals
   refine AW_r rfl rfl fun K hK => ?_
   simp (disch := omega)
   repeat' first | (exfalso; omega) | (refine ⟨fun _ => ?_, fun _ => ?_⟩) | (refine ⟨by omega, ?_⟩) | (intro _)
   all_goals (refine hK _ ?_; clear hK K)
   all_goals
    refine zbo (zb4 ?_)
    simp (disch := omega) [DtCmd.sz]
    all_goals first | omega | (simp_all; done) | (split <;> omega) | (split <;> simp_all <;> omega) | (simp_all [szR]; omega)
 try simp at hc49
 refine zbn ?_
 refine zbq ?_
 refine AW_r rfl rfl fun K hK => ?_
 simp (disch := omega)
 repeat' first | (exfalso; omega) | (refine ⟨fun _ => ?_, fun _ => ?_⟩) | (refine ⟨by omega, ?_⟩) | (intro _)
 all_goals (refine hK _ ?_; clear hK K)
 all_goals
  refine zbm ?_
  refine AW_r rfl rfl fun K hK => ?_
  simp (disch := omega)
  repeat' first | (refine ⟨by omega, ?_⟩) | (intro _)
  refine hK _ ?_; clear hK K
  refine zbl rfl (fun hc50 => ?_) (fun hc50 => ?_)
  ·try simp at hc50
   all_goals
    refine AW_r rfl rfl fun K hK => ?_
    simp (disch := omega)
    repeat' first | (exfalso; omega) | (refine ⟨fun _ => ?_, fun _ => ?_⟩) | (refine ⟨by omega, ?_⟩) | (intro _)
    all_goals (refine hK _ ?_; clear hK K)
    all_goals
     refine zbo (zb4 ?_)
     simp (disch := omega) [DtCmd.sz]
     all_goals first | omega | (simp_all; done) | (split <;> omega) | (split <;> simp_all <;> omega) | (simp_all [szR]; omega)
  try simp at hc50
  refine zbn ?_
  refine zbq ?_
  refine AW_r rfl rfl fun K hK => ?_
  simp (disch := omega)
  repeat' first | (exfalso; omega) | (refine ⟨fun _ => ?_, fun _ => ?_⟩) | (refine ⟨by omega, ?_⟩) | (intro _)
  all_goals (refine hK _ ?_; clear hK K)
  all_goals
   refine zbm ?_
   refine AW_r rfl rfl fun K hK => ?_
   simp (disch := omega)
   repeat' first | (refine ⟨by omega, ?_⟩) | (intro _)
   refine hK _ ?_; clear hK K
   refine zbl rfl (fun hc51 => ?_) (fun hc51 => ?_)
   ·try simp at hc51
    all_goals
     refine AW_r rfl rfl fun K hK => ?_
     simp (disch := omega)
     repeat' first | (exfalso; omega) | (refine ⟨fun _ => ?_, fun _ => ?_⟩) | (refine ⟨by omega, ?_⟩) | (intro _)
     all_goals (refine hK _ ?_; clear hK K)
     all_goals
      refine zbo (zb4 ?_)
      simp (disch := omega) [DtCmd.sz]
      all_goals first | omega | (simp_all; done) | (split <;> omega) | (split <;> simp_all <;> omega) | (simp_all [szR]; omega)
   try simp at hc51
   refine zbn ?_
   refine zbq ?_
   refine AW_r rfl rfl fun K hK => ?_
   simp (disch := omega)
   repeat' first | (exfalso; omega) | (refine zcx (zbh zdd (zbh zcp zbs)) (zrb _ _ (by omega) (by assumption)) rfl ?_; simp (disch := omega)) | (refine ⟨fun _ => ?_, fun _ => ?_⟩) | (refine ⟨by omega, ?_⟩) | (intro _)
   all_goals (refine hK _ ?_; clear hK K)
   all_goals
    refine zbm ?_
    refine AW_r rfl rfl fun K hK => ?_
    simp (disch := omega)
    repeat' first | (refine ⟨by omega, ?_⟩) | (intro _)
    refine hK _ ?_; clear hK K
    refine zbl rfl (fun hc52 => ?_) (fun hc52 => ?_)
    ·try simp at hc52
     all_goals
      refine AW_r rfl rfl fun K hK => ?_
      simp (disch := omega)
      repeat' first | (exfalso; omega) | (refine ⟨fun _ => ?_, fun _ => ?_⟩) | (refine ⟨by omega, ?_⟩) | (intro _)
      all_goals (refine hK _ ?_; clear hK K)
      all_goals
       refine zbo (zb4 ?_)
       simp (disch := omega) [DtCmd.sz]
       all_goals first | omega | (simp_all; done) | (split <;> omega) | (split <;> simp_all <;> omega) | (simp_all [szR]; omega)
    try simp at hc52
    refine zbn ?_
    refine zbq ?_
    refine AW_r rfl rfl fun K hK => ?_
    simp (disch := omega)
    repeat' first | (exfalso; omega) | (refine ⟨fun _ => ?_, fun _ => ?_⟩) | (refine ⟨by omega, ?_⟩) | (intro _)
    all_goals (refine hK _ ?_; clear hK K)
    all_goals
     refine zbo (zb4 ?_)
     simp (disch := omega) [DtCmd.sz]
     all_goals first | omega | (simp_all; done) | (split <;> omega) | (split <;> simp_all <;> omega) | (simp_all [szR]; omega)
attribute [-simp] szR
theorem eqCmd (u v : DtCmd) (hs : DtCmd.sz u ≤ 2097152) : PCall Tryz.prog 11 [.agg (DtCmd.cells u), .agg (DtCmd.cells v)] (.g (.bool (eqB u v))) := by
 simp only [DtCmd.sz] at hs
 have z7 := (zc2 zce) u.fChunks
 have s3 : (u.fSet.length : Int) ≤ 2097152 := by omega
 have s4 : (u.fName.length : Int) ≤ 2097152 := by omega
 have s5 : (u.fTag.length : Int) ≤ 2097152 := by omega
 have s7 : szS lenZ u.fChunks ≤ 2097152 := by omega
 have he := DtCmd.ext_iff u v
 refine zbu Tryz.func11 (by rfl) (by rfl) (by rw [Tryz.ntmps11]; exact Nat.le_of_ble_eq_true rfl) rfl (by decide) ?_
 rw [Tryz.ntmps11]
 refine AW_k [(0, _), (1, _)] ⟨rfl, rfl, trivial⟩ ?_
 refine AW_r rfl rfl fun K hK => ?_
 simp
 repeat' first | (refine ⟨by omega, ?_⟩) | (intro _)
 refine hK _ ?_; clear hK K
 refine zbm ?_
 refine AW_r rfl rfl fun K hK => ?_
 simp
 repeat' first | (refine ⟨by omega, ?_⟩) | (intro _)
 refine hK _ ?_; clear hK K
 refine zbl rfl (fun hc53 => ?_) (fun hc53 => ?_)
 ·try simp at hc53
  all_goals
   refine AW_r rfl rfl fun K hK => ?_
   simp
   repeat' first | (refine ⟨fun _ => ?_, fun _ => ?_⟩) | (refine ⟨by omega, ?_⟩) | (intro _)
   all_goals (refine hK _ ?_; clear hK K)
   all_goals
    refine zbo (zb4 ?_)
    simp
    all_goals first | (refine zcd (he.mpr ?_); simp_all [zbf, zbd]; done) | (refine zb8 fun h => ?_; rw [he] at h; simp_all [zbf, zbd, zbw]; done) | (refine (zcd (he.mpr ?_)).symm; simp_all [zbf, zbd]; done) | (refine (zb8 fun h => ?_).symm; rw [he] at h; simp_all [zbf, zbd, zbw]; done)
 try simp at hc53
 refine zbn ?_
 refine zbq ?_
 refine zbm ?_
 refine AW_r rfl rfl fun K hK => ?_
 simp
 repeat' first | (refine ⟨fun _ => ?_, fun _ => ?_⟩) | (refine ⟨by omega, ?_⟩) | (intro _)
 all_goals (refine hK _ ?_; clear hK K)
 all_goals
  refine zbl rfl (fun hc54 => ?_) (fun hc54 => ?_)
  ·try simp at hc54
   all_goals
    refine AW_r rfl rfl fun K hK => ?_
    simp
    repeat' first | (refine ⟨fun _ => ?_, fun _ => ?_⟩) | (refine ⟨by omega, ?_⟩) | (intro _)
    all_goals (refine hK _ ?_; clear hK K)
    all_goals
     refine zbo (zb4 ?_)
     simp
     all_goals first | (refine zcd (he.mpr ?_); simp_all [zbf, zbd]; done) | (refine zb8 fun h => ?_; rw [he] at h; simp_all [zbf, zbd, zbw]; done) | (refine (zcd (he.mpr ?_)).symm; simp_all [zbf, zbd]; done) | (refine (zb8 fun h => ?_).symm; rw [he] at h; simp_all [zbf, zbd, zbw]; done)
  try simp at hc54
  refine zbn ?_
  refine zbq ?_
  refine zbm ?_
  refine AW_r rfl rfl fun K hK => ?_
  simp
  repeat' first | (refine ⟨fun _ => ?_, fun _ => ?_⟩) | (refine ⟨by omega, ?_⟩) | (intro _)
  all_goals (refine hK _ ?_; clear hK K)
  all_goals
   refine zbl rfl (fun hc55 => ?_) (fun hc55 => ?_)
   ·try simp at hc55
    all_goals
     refine AW_r rfl rfl fun K hK => ?_
     simp
     repeat' first | (refine ⟨fun _ => ?_, fun _ => ?_⟩) | (refine ⟨by omega, ?_⟩) | (intro _)
     all_goals (refine hK _ ?_; clear hK K)
     all_goals
      refine zbo (zb4 ?_)
      simp
      all_goals first | (refine zcd (he.mpr ?_); simp_all [zbf, zbd]; done) | (refine zb8 fun h => ?_; rw [he] at h; simp_all [zbf, zbd, zbw]; done) | (refine (zcd (he.mpr ?_)).symm; simp_all [zbf, zbd]; done) | (refine (zb8 fun h => ?_).symm; rw [he] at h; simp_all [zbf, zbd, zbw]; done)
   try simp at hc55
   refine zbn ?_
   refine zbq ?_
   refine zbm ?_
   refine AW_r rfl rfl fun K hK => ?_
   simp
   repeat' first | (refine ⟨fun _ => ?_, fun _ => ?_⟩) | (refine ⟨by omega, ?_⟩) | (intro _)
   all_goals (refine hK _ ?_; clear hK K)
   all_goals
    refine zbl rfl (fun hc56 => ?_) (fun hc56 => ?_)
    ·try simp at hc56
     all_goals
      refine AW_r rfl rfl fun K hK => ?_
      simp
      repeat' first | (refine ⟨fun _ => ?_, fun _ => ?_⟩) | (refine ⟨by omega, ?_⟩) | (intro _)
      all_goals (refine hK _ ?_; clear hK K)
      all_goals
       refine zbo (zb4 ?_)
       simp
       all_goals first | (refine zcd (he.mpr ?_); simp_all [zbf, zbd]; done) | (refine zb8 fun h => ?_; rw [he] at h; simp_all [zbf, zbd, zbw]; done) | (refine (zcd (he.mpr ?_)).symm; simp_all [zbf, zbd]; done) | (refine (zb8 fun h => ?_).symm; rw [he] at h; simp_all [zbf, zbd, zbw]; done)
    try simp at hc56
    refine zbn ?_
    refine zbq ?_
    refine zbm ?_
    refine AW_r rfl rfl fun K hK => ?_
    simp
    repeat' first | (refine ⟨fun _ => ?_, fun _ => ?_⟩) | (refine ⟨by omega, ?_⟩) | (intro _)
    all_goals (refine hK _ ?_; clear hK K)
    all_goals
     refine zbl rfl (fun hc57 => ?_) (fun hc57 => ?_)
     ·try simp at hc57
      all_goals
       refine AW_r rfl rfl fun K hK => ?_
       simp
       repeat' first | (refine ⟨fun _ => ?_, fun _ => ?_⟩) | (refine ⟨by omega, ?_⟩) | (intro _)
       all_goals (refine hK _ ?_; clear hK K)
       all_goals
        refine zbo (zb4 ?_)
        simp
        all_goals first | (refine zcd (he.mpr ?_); simp_all [zbf, zbd]; done) | (refine zb8 fun h => ?_; rw [he] at h; simp_all [zbf, zbd, zbw]; done) | (refine (zcd (he.mpr ?_)).symm; simp_all [zbf, zbd]; done) | (refine (zb8 fun h => ?_).symm; rw [he] at h; simp_all [zbf, zbd, zbw]; done)
     try simp at hc57
     refine zbn ?_
     refine zbq ?_
     refine zbm ?_
     refine AW_r rfl rfl fun K hK => ?_
     simp
     repeat' first | (refine ⟨fun _ => ?_, fun _ => ?_⟩) | (refine ⟨by omega, ?_⟩) | (intro _)
     all_goals (refine hK _ ?_; clear hK K)
     all_goals
      refine zbl rfl (fun hc58 => ?_) (fun hc58 => ?_)
      ·try simp at hc58
       all_goals
        refine AW_r rfl rfl fun K hK => ?_
        simp
        repeat' first | (refine ⟨fun _ => ?_, fun _ => ?_⟩) | (refine ⟨by omega, ?_⟩) | (intro _)
        all_goals (refine hK _ ?_; clear hK K)
        all_goals
         refine zbo (zb4 ?_)
         simp
         all_goals first | (refine zcd (he.mpr ?_); simp_all [zbf, zbd]; done) | (refine zb8 fun h => ?_; rw [he] at h; simp_all [zbf, zbd, zbw]; done) | (refine (zcd (he.mpr ?_)).symm; simp_all [zbf, zbd]; done) | (refine (zb8 fun h => ?_).symm; rw [he] at h; simp_all [zbf, zbd, zbw]; done)
      try simp at hc58
      refine zbn ?_
      refine zbq ?_
      refine zbm ?_
      refine AW_r rfl rfl fun K hK => ?_
      simp
      repeat' first | (refine ⟨fun _ => ?_, fun _ => ?_⟩) | (refine ⟨by omega, ?_⟩) | (intro _)
      all_goals (refine hK _ ?_; clear hK K)
      all_goals
       refine zbl rfl (fun hc59 => ?_) (fun hc59 => ?_)
       ·try simp at hc59
        all_goals
         refine AW_r rfl rfl fun K hK => ?_
         simp
         repeat' first | (refine ⟨fun _ => ?_, fun _ => ?_⟩) | (refine ⟨by omega, ?_⟩) | (intro _)
         all_goals (refine hK _ ?_; clear hK K)
         all_goals
          refine zbo (zb4 ?_)
          simp
          all_goals first | (refine zcd (he.mpr ?_); simp_all [zbf, zbd]; done) | (refine zb8 fun h => ?_; rw [he] at h; simp_all [zbf, zbd, zbw]; done) | (refine (zcd (he.mpr ?_)).symm; simp_all [zbf, zbd]; done) | (refine (zb8 fun h => ?_).symm; rw [he] at h; simp_all [zbf, zbd, zbw]; done)
       try simp at hc59
       refine zbn ?_
       refine zbq ?_
       refine zbm ?_
       refine AW_r rfl rfl fun K hK => ?_
       simp
       repeat' first | (refine zcx (zbh zdd (zbh zdd zbs)) (zrc _ _ (by first | assumption | omega)) rfl ?_; simp) | (refine ⟨fun _ => ?_, fun _ => ?_⟩) | (refine ⟨by omega, ?_⟩) | (intro _)
       all_goals (refine hK _ ?_; clear hK K)
       all_goals
        refine zbl rfl (fun hc60 => ?_) (fun hc60 => ?_)
        ·try simp at hc60
         all_goals
          refine AW_r rfl rfl fun K hK => ?_
          simp
          repeat' first | (refine ⟨fun _ => ?_, fun _ => ?_⟩) | (refine ⟨by omega, ?_⟩) | (intro _)
          all_goals (refine hK _ ?_; clear hK K)
          all_goals
           refine zbo (zb4 ?_)
           simp
           all_goals first | (refine zcd (he.mpr ?_); simp_all [zbf, zbd]; done) | (refine zb8 fun h => ?_; rw [he] at h; simp_all [zbf, zbd, zbw]; done) | (refine (zcd (he.mpr ?_)).symm; simp_all [zbf, zbd]; done) | (refine (zb8 fun h => ?_).symm; rw [he] at h; simp_all [zbf, zbd, zbw]; done)
        try simp at hc60
        refine zbn ?_
        refine zbq ?_
        refine AW_r rfl rfl fun K hK => ?_
        simp
        repeat' first | (refine ⟨fun _ => ?_, fun _ => ?_⟩) | (refine ⟨by omega, ?_⟩) | (intro _)
        all_goals (refine hK _ ?_; clear hK K)
        all_goals
         refine zbo (zb4 ?_)
         simp
         all_goals first | (refine zcd (he.mpr ?_); simp_all [zbf, zbd]; done) | (refine zb8 fun h => ?_; rw [he] at h; simp_all [zbf, zbd, zbw]; done) | (refine (zcd (he.mpr ?_)).symm; simp_all [zbf, zbd]; done) | (refine (zb8 fun h => ?_).symm; rw [he] at h; simp_all [zbf, zbd, zbw]; done)
end Go.Proofs.YtmheohnbkaoipaaGreat.Vs
