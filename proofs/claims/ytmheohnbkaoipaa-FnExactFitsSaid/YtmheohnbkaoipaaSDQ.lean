import Derived.Test.YtmheohnbkaoipaaVs9
import Derived.Test.YtmheohnbkaoipaaSCT
open Go Go.Proofs Go.Proofs.Ytmheohnbkaoipaa.Vs
namespace Go.Proofs.Ytmheohnbkaoipaa.Vs
set_option linter.all false
set_option linter.unusedSimpArgs false
set_option linter.unusedVariables false
attribute [local simp] szR
theorem zx6 (xs : List (List UInt8)) (n : Int) (hn : 0 ≤ n ∧ n ≤ 1048576) (hw : (wfS wfL) xs) : PCall Try.prog 46 [.sl 1 (xs.map cS), (.g (.int .i64 (n)))] (.g (.int .i64 (szR n (szS lenZ xs)))) := by
 have hq := zb9 zcn xs
 have hw1 := hw.1
 refine zbq Try.func46 (by rfl) (by rfl) (by rw [Try.ntmps46]; exact Nat.le_of_ble_eq_true rfl) rfl (by decide) ?_
 rw [Try.ntmps46]
 refine AW_k [(0, _), (1, _)] ⟨rfl, rfl, trivial⟩ ?_
 refine AW_r rfl rfl fun K hK => ?_
 simp (disch := omega)
 repeat' first | (refine ⟨by omega, ?_⟩) | (intro _)
 refine hK _ ?_; clear hK K
 refine AW_r rfl rfl fun K hK => ?_
 simp (disch := omega)
 repeat' first | (refine ⟨by omega, ?_⟩) | (intro _)
 refine hK _ ?_; clear hK K
 refine zbl ?_
 refine AW_r rfl rfl fun K hK => ?_
 simp (disch := omega)
 repeat' first | (refine ⟨by omega, ?_⟩) | (intro _)
 refine hK _ ?_; clear hK K
 refine zbk rfl (fun hc1 => ?_) (fun hc1 => ?_)
 ·try simp at hc1
  all_goals
   refine AW_r rfl rfl fun K hK => ?_
   simp (disch := omega)
   repeat' first | (exfalso; omega) | (refine ⟨fun _ => ?_, fun _ => ?_⟩) | (refine ⟨by omega, ?_⟩) | (intro _)
   all_goals (refine hK _ ?_; clear hK K)
   all_goals
    refine zbn (zb0 ?_)
    simp (disch := omega) [szS]
    all_goals first | omega | (split <;> omega)
 try simp at hc1
 refine zbm ?_
 refine zbr ?_
 refine zbl ?_
 refine AW_r rfl rfl fun K hK => ?_
 simp (disch := omega)
 repeat' first | (exfalso; omega) | (refine ⟨fun _ => ?_, fun _ => ?_⟩) | (refine ⟨by omega, ?_⟩) | (intro _)
 all_goals (refine hK _ ?_; clear hK K)
 all_goals
  refine zbs ?_
  refine zb3 (fun mM sS => ∃ (i : Nat), mM = xs.length - i ∧ (i ≤ xs.length ∧ 0 ≤ n - xs.length - sumZ lenZ (xs.take i)) ∧ sS = { env := lkE [(0, .sl 1 (xs.map cS)), (1, (.g (.int .i64 (n - xs.length - sumZ lenZ (xs.take i))))), (5, (.g (.int .i64 ((i : Nat)))))], ob := formOb [] [] }) ?_ ?_
  ·refine ⟨_, LeS.kp [(0, .sl 1 (xs.map cS)), (1, (.g (.int .i64 (n - xs.length - sumZ lenZ (xs.take (0)))))), (5, (.g (.int .i64 (((0) : Nat)))))] (by simp [KpE, zbf, zbt, zbd, zdu]; try first | rfl | omega), _, 0, rfl, ?_, rfl⟩
   ·simp [zdu]; omega
  ·rintro mM sS ⟨i, rfl, ⟨hi, hn⟩, rfl⟩
   have hz := zb9 zcn (xs.take i)
   have hz2 := zfn zcn xs i
   refine zbl ?_
   refine AW_r rfl rfl fun K hK => ?_
   simp (disch := omega) [cS, lenZ]
   repeat' first | (refine ⟨by omega, ?_⟩) | (intro _)
   refine hK _ ?_; clear hK K
   refine zbk rfl (fun hc2 => ?_) (fun hc2 => ?_)
   ·try simp at hc2
    all_goals
     have hl := zp6 (f := lenZ) xs i (by omega)
     have hwE : wfL xs[i] := hw.2 _ (List.getElem_mem _)
     have hwE2 : xs[i].length ≤ 9223372036854775807 := hwE
     simp only [lenZ] at hl
     have hz3 := zfn zcn xs (i + 1)
     refine zbm ?_
     refine zbr ?_
     refine zbl ?_
     refine zbs ?_
     refine AW_r rfl rfl fun K hK => ?_
     simp (disch := omega) [cS, lenZ]
     repeat' first | (exfalso; omega) | (refine ⟨fun _ => ?_, fun _ => ?_⟩) | (refine ⟨by omega, ?_⟩) | (intro _)
     all_goals (refine hK _ ?_; clear hK K)
     all_goals
      refine AW_r rfl rfl fun K hK => ?_
      simp (disch := omega) [cS, lenZ]
      repeat' first | (refine ⟨by omega, ?_⟩) | (intro _)
      refine hK _ ?_; clear hK K
      refine zbk rfl (fun hc3 => ?_) (fun hc3 => ?_)
      ·try simp at hc3
       all_goals
        refine AW_r rfl rfl fun K hK => ?_
        simp (disch := omega) [cS, lenZ]
        repeat' first | (exfalso; omega) | (refine ⟨fun _ => ?_, fun _ => ?_⟩) | (refine ⟨by omega, ?_⟩) | (intro _)
        all_goals (refine hK _ ?_; clear hK K)
        all_goals
         refine zbn (zb0 ?_)
         simp (disch := omega) [cS, lenZ, szS]
         all_goals first | omega | (split <;> omega)
      try simp at hc3
      refine zbm ?_
      refine zbr ?_
      refine zc1 rfl rfl fun K hK => ?_
      simp (disch := omega) [cS, lenZ]
      repeat' first | (exfalso; omega) | (refine ⟨fun _ => ?_, fun _ => ?_⟩) | (refine ⟨by omega, ?_⟩) | (intro _)
      all_goals (refine hK _ ?_; clear hK K)
      all_goals
       refine ⟨_, LeS.kp [(0, .sl 1 (xs.map cS)), (1, (.g (.int .i64 (n - xs.length - sumZ lenZ (xs.take (i + 1)))))), (5, (.g (.int .i64 (((i + 1) : Nat)))))] (by simp [KpE, zbf, zbt, zbd, zdu]; try first | rfl | omega), _, ?_, i + 1, rfl, ?_, rfl⟩
       ·omega
       ·omega
   try simp at hc2
   have hi2 : i = xs.length := by omega
   subst hi2
   simp only [List.take_length] at *
   refine zb8 ?_
   refine zbr ?_
   refine AW_r rfl rfl fun K hK => ?_
   simp (disch := omega) [cS, lenZ]
   repeat' first | (exfalso; omega) | (refine ⟨fun _ => ?_, fun _ => ?_⟩) | (refine ⟨by omega, ?_⟩) | (intro _)
   all_goals (refine hK _ ?_; clear hK K)
   all_goals
    refine zbn (zb0 ?_)
    simp (disch := omega) [cS, lenZ, szS]
    all_goals first | omega | (split <;> omega)
attribute [-simp] szR
theorem zx7 (xs : List (List UInt8)) (hs : szS lenZ xs ≤ 1048576) : PCall Try.prog 54 [.sl 1 (xs.map cS)] (.sl 1 (xs.map cS)) := by
 have hn : xs.length ≤ 1048576 := by have := zb9 zcn xs; simp only [szS] at hs; omega
 refine zbq Try.func54 (by rfl) (by rfl) (by rw [Try.ntmps54]; exact Nat.le_of_ble_eq_true rfl) rfl (by decide) ?_
 rw [Try.ntmps54]
 refine AW_k [(0, _)] ⟨rfl, trivial⟩ ?_
 refine AW_r rfl rfl fun K hK => ?_
 simp (disch := omega)
 repeat' first | (refine ⟨by omega, ?_⟩) | (intro _)
 refine hK _ ?_; clear hK K
 refine AW_r rfl rfl fun K hK => ?_
 simp (disch := omega)
 repeat' first | (refine ⟨by omega, ?_⟩) | (intro _)
 refine hK _ ?_; clear hK K
 refine zbl ?_
 refine AW_r rfl rfl fun K hK => ?_
 simp (disch := omega)
 repeat' first | (refine ⟨by omega, ?_⟩) | (intro _)
 refine hK _ ?_; clear hK K
 refine zbs ?_
 refine zb3 (fun mM sS => ∃ (i : Nat) (ys : List (List AV)), mM = xs.length - i ∧ (i ≤ xs.length ∧ ys.length = xs.length ∧ (∀ j, j < i → ys[j]? = (xs.map cS)[j]?) ∧ (∀ y ∈ ys, y.length = 1)) ∧ sS = { env := lkE [(0, .sl 1 (xs.map cS)), (3, .arr 128 0 xs.length), (4, (.g (.int .i64 ((i : Nat)))))], ob := upd (formOb [] []) 128 (some (.flat 1 ys)) }) ?_ ?_
 ·refine ⟨_, LeS.kp [(0, .sl 1 (xs.map cS)), (3, .arr 128 0 xs.length), (4, (.g (.int .i64 (((0) : Nat)))))] (by simp [KpE, zbf, zbt, zbd]; try rfl), _, 0, List.replicate xs.length [.s []], rfl, ?_, rfl⟩
  ·simp
 ·rintro mM sS ⟨i, ys, rfl, ⟨hi, hl, hpre, hone⟩, rfl⟩
  refine zbl ?_
  refine AW_r rfl rfl fun K hK => ?_
  simp (disch := omega) [cS]
  repeat' first | (refine ⟨by omega, ?_⟩) | (intro _)
  refine hK _ ?_; clear hK K
  refine zbk rfl (fun hc4 => ?_) (fun hc4 => ?_)
  ·try simp at hc4
   all_goals
    obtain ⟨c1, h6⟩ : ∃ c1, ys[i]'(by omega) = [c1] := List.length_eq_one_iff.1 (hone _ (List.getElem_mem _))
    refine zbm ?_
    refine zbr ?_
    refine zbl ?_
    refine zbs ?_
    refine zc1 rfl rfl fun K hK => ?_
    simp (disch := omega) [cS, h6]
    repeat' first | (exfalso; omega) | (refine ⟨fun _ => ?_, fun _ => ?_⟩) | (refine ⟨by omega, ?_⟩) | (intro _)
    all_goals (refine hK _ ?_; clear hK K)
    all_goals
     refine zbr ?_
     refine zc1 rfl rfl fun K hK => ?_
     simp (disch := omega) [cS, h6]
     repeat' first | (refine ⟨by omega, ?_⟩) | (intro _)
     refine hK _ ?_; clear hK K
     refine ⟨_, LeS.kp [(0, .sl 1 (xs.map cS)), (3, .arr 128 0 xs.length), (4, (.g (.int .i64 (((i + 1) : Nat)))))] (by simp [KpE, zbf, zbt, zbd]; try rfl), _, ?_, i + 1, ys.set i (cS xs[i]), rfl, ?_, ?_⟩
     ·omega
     ·refine ⟨by omega, by simpa using hl, fun j hj => ?_, fun y hy => ?_⟩
      ·by_cases hji : j = i
       ·subst hji; rw [List.getElem?_set_self (by omega), List.getElem?_map, List.getElem?_eq_getElem (by omega)]; rfl
       ·rw [List.getElem?_set_ne (by omega)]; exact hpre j (by omega)
      ·rcases List.mem_or_eq_of_mem_set hy with hy | rfl
       ·exact hone y hy
       ·rfl
     ·simp [cS]
  try simp at hc4
  have hi2 : i = xs.length := by omega
  subst hi2
  have hys : ys = xs.map cS := List.ext_getElem? fun j => by
   by_cases hj : j < xs.length
   ·exact hpre j hj
   ·rw [List.getElem?_eq_none (by omega), List.getElem?_eq_none (by simp; omega)]
  subst hys
  refine zb8 ?_
  refine zbr ?_
  refine AW_r rfl rfl fun K hK => ?_
  simp (disch := omega) [cS]
  repeat' first | (exfalso; omega) | (refine ⟨fun _ => ?_, fun _ => ?_⟩) | (refine ⟨by omega, ?_⟩) | (intro _)
  all_goals (refine hK _ ?_; clear hK K)
  all_goals
   refine zbn (zb0 ?_)
   simp (disch := omega) [cS]
   all_goals first | omega | (simp_all; done) | (simp [List.take_of_length_le]; done) | ((try simp_all); (try simp (disch := omega) only [zbo, Int.tdiv_eq_ediv_of_nonneg, Int.tmod_eq_emod_of_nonneg, and_true, true_and]); done) | ((try simp_all); (try simp (disch := omega) only [zbo, Int.tdiv_eq_ediv_of_nonneg, Int.tmod_eq_emod_of_nonneg, and_true, true_and] at *); omega)
theorem zx8 (xs ys : List (List UInt8)) (hs : szS lenZ xs ≤ 1048576) : PCall Try.prog 23 [.sl 1 (xs.map cS), .sl 1 (ys.map cS)] (.g (.bool (eqB xs ys))) := by
 have hn : xs.length ≤ 1048576 := by have := zb9 zcn xs; simp only [szS] at hs; omega
 refine zbq Try.func23 (by rfl) (by rfl) (by rw [Try.ntmps23]; exact Nat.le_of_ble_eq_true rfl) rfl (by decide) ?_
 rw [Try.ntmps23]
 refine AW_k [(0, _), (1, _)] ⟨rfl, rfl, trivial⟩ ?_
 refine AW_r rfl rfl fun K hK => ?_
 simp (disch := omega)
 repeat' first | (refine ⟨by omega, ?_⟩) | (intro _)
 refine hK _ ?_; clear hK K
 refine zbl ?_
 refine AW_r rfl rfl fun K hK => ?_
 simp (disch := omega)
 repeat' first | (refine ⟨by omega, ?_⟩) | (intro _)
 refine hK _ ?_; clear hK K
 refine zbk rfl (fun hc5 => ?_) (fun hc5 => ?_)
 ·try simp at hc5
  all_goals
   refine AW_r rfl rfl fun K hK => ?_
   simp (disch := omega)
   repeat' first | (exfalso; omega) | (refine ⟨fun _ => ?_, fun _ => ?_⟩) | (refine ⟨by omega, ?_⟩) | (intro _)
   all_goals (refine hK _ ?_; clear hK K)
   all_goals
    refine zbn (zb0 ?_)
    simp (disch := omega)
    all_goals first | (exact zcp heq) | (refine zce fun heq => ?_; subst heq; simp_all [zbe, zbc, zbv]; done) | (refine (zce fun heq => ?_).symm; subst heq; simp_all [zbe, zbc, zbv]; done) | simp_all [zbv]
 try simp at hc5
 refine zbm ?_
 refine zbr ?_
 refine zbl ?_
 refine AW_r rfl rfl fun K hK => ?_
 simp (disch := omega)
 repeat' first | (exfalso; omega) | (refine ⟨fun _ => ?_, fun _ => ?_⟩) | (refine ⟨by omega, ?_⟩) | (intro _)
 all_goals (refine hK _ ?_; clear hK K)
 all_goals
  refine zbs ?_
  refine zb3 (fun mM sS => ∃ (i : Nat), mM = xs.length - i ∧ (i ≤ xs.length ∧ ∀ j, j < i → xs[j]? = ys[j]?) ∧ sS = { env := lkE [(0, .sl 1 (xs.map cS)), (1, .sl 1 (ys.map cS)), (5, (.g (.int .i64 ((i : Nat)))))], ob := formOb [] [] }) ?_ ?_
  ·refine ⟨_, LeS.kp [(0, .sl 1 (xs.map cS)), (1, .sl 1 (ys.map cS)), (5, (.g (.int .i64 (((0) : Nat)))))] (by simp [KpE, zbf, zbt, zbd]; try rfl), _, 0, rfl, ?_, rfl⟩
   ·simp
  ·rintro mM sS ⟨i, rfl, ⟨hi, hpre⟩, rfl⟩
   refine zbl ?_
   refine AW_r rfl rfl fun K hK => ?_
   simp (disch := omega) [cS]
   repeat' first | (refine ⟨by omega, ?_⟩) | (intro _)
   refine hK _ ?_; clear hK K
   refine zbk rfl (fun hc6 => ?_) (fun hc6 => ?_)
   ·try simp at hc6
    all_goals
     have h7 : i < ys.length := by omega
     refine zbm ?_
     refine zbr ?_
     refine zbl ?_
     refine zbs ?_
     refine AW_q rfl mix (by kernel_rfl) rfl fun K hK => ?_
     simp (disch := omega) [cS]
     repeat' first | (exfalso; omega) | (refine ⟨fun _ => ?_, fun _ => ?_⟩) | (refine ⟨by omega, ?_⟩) | (intro _)
     all_goals (refine hK _ ?_; clear hK K)
     all_goals
      refine zbk rfl (fun hc7 => ?_) (fun hc7 => ?_)
      ·try simp at hc7
       all_goals
        refine AW_r rfl rfl fun K hK => ?_
        simp (disch := omega) [cS]
        repeat' first | (exfalso; omega) | (refine ⟨fun _ => ?_, fun _ => ?_⟩) | (refine ⟨by omega, ?_⟩) | (intro _)
        all_goals (refine hK _ ?_; clear hK K)
        all_goals
         refine zbn (zb0 ?_)
         simp (disch := omega) [cS]
         all_goals first | (exact zcp heq) | (refine zce fun heq => ?_; subst heq; simp_all [zbe, zbc, zbv]; done) | (refine (zce fun heq => ?_).symm; subst heq; simp_all [zbe, zbc, zbv]; done) | simp_all [zbv]
      try simp at hc7
      refine zbm ?_
      refine zbr ?_
      refine zc1 rfl rfl fun K hK => ?_
      simp (disch := omega) [cS]
      repeat' first | (exfalso; omega) | (refine ⟨fun _ => ?_, fun _ => ?_⟩) | (refine ⟨by omega, ?_⟩) | (intro _)
      all_goals (refine hK _ ?_; clear hK K)
      all_goals
       refine ⟨_, LeS.kp [(0, .sl 1 (xs.map cS)), (1, .sl 1 (ys.map cS)), (5, (.g (.int .i64 (((i + 1) : Nat)))))] (by simp [KpE, zbf, zbt, zbd]; try rfl), _, ?_, i + 1, rfl, ?_, rfl⟩
       ·omega
       ·refine ⟨by omega, fun j hj => ?_⟩
        by_cases hji : j = i
        ·subst hji; simp_all [zbe, zbc]
        ·exact hpre j (by omega)
   try simp at hc6
   have hi2 : i = xs.length := by omega
   subst hi2
   have heq : xs = ys := List.ext_getElem? fun j => by
    by_cases hj : j < xs.length
    ·exact hpre j hj
    ·rw [List.getElem?_eq_none (by omega), List.getElem?_eq_none (by omega)]
   refine zb8 ?_
   refine zbr ?_
   refine AW_r rfl rfl fun K hK => ?_
   simp (disch := omega) [cS]
   repeat' first | (exfalso; omega) | (refine ⟨fun _ => ?_, fun _ => ?_⟩) | (refine ⟨by omega, ?_⟩) | (intro _)
   all_goals (refine hK _ ?_; clear hK K)
   all_goals
    refine zbn (zb0 ?_)
    simp (disch := omega) [cS]
    all_goals first | (exact zcp heq) | (refine zce fun heq => ?_; subst heq; simp_all [zbe, zbc, zbv]; done) | (refine (zce fun heq => ?_).symm; subst heq; simp_all [zbe, zbc, zbv]; done) | simp_all [zbv]
attribute [local simp] szR DtCSnap.cells
attribute [-simp] szR
attribute [local simp] szR
attribute [-simp] DtCSnap.cells
attribute [-simp] szR
attribute [local simp] szR DtCSet.cells
attribute [-simp] szR
attribute [local simp] szR
attribute [-simp] DtCSet.cells
attribute [-simp] szR
attribute [local simp] szR DtCatalog.cells
attribute [-simp] szR
attribute [local simp] szR DtCmd.cells
attribute [-simp] DtCatalog.cells
theorem szCmd (u : DtCmd) (n : Int) (hn : 0 ≤ n ∧ n ≤ 1048576) (hw : DtCmd.wf u) : PCall Try.prog 9 [.agg (DtCmd.cells u), (.g (.int .i64 (n)))] (.g (.int .i64 (szR n (DtCmd.sz u)))) := by
 have ⟨w0, w1, w2, w3, w4, w5, w6, w7⟩ := hw
 have w32 : u.fSet.length ≤ 9223372036854775807 := w3
 have w42 : u.fName.length ≤ 9223372036854775807 := w4
 have w52 : u.fTag.length ≤ 9223372036854775807 := w5
 have w72 := w7.1
 have z7 := (zdg zcn) u.fChunks
 refine zbq Try.func9 (by rfl) (by rfl) (by rw [Try.ntmps9]; exact Nat.le_of_ble_eq_true rfl) rfl (by decide) ?_
 rw [Try.ntmps9]
 refine AW_k [(0, _), (1, _)] ⟨rfl, rfl, trivial⟩ ?_
 refine AW_r rfl rfl fun K hK => ?_
 simp (disch := omega)
 repeat' first | (refine ⟨by omega, ?_⟩) | (intro _)
 refine hK _ ?_; clear hK K
 refine AW_r rfl rfl fun K hK => ?_
 simp (disch := omega)
 repeat' first | (refine ⟨by omega, ?_⟩) | (intro _)
 refine hK _ ?_; clear hK K
 refine zbl ?_
 refine AW_r rfl rfl fun K hK => ?_
 simp (disch := omega)
 repeat' first | (refine ⟨by omega, ?_⟩) | (intro _)
 refine hK _ ?_; clear hK K
 refine zbk rfl (fun hc34 => ?_) (fun hc34 => ?_)
 ·try simp at hc34
  all_goals
   refine AW_r rfl rfl fun K hK => ?_
   simp (disch := omega)
   repeat' first | (exfalso; omega) | (refine ⟨fun _ => ?_, fun _ => ?_⟩) | (refine ⟨by omega, ?_⟩) | (intro _)
   all_goals (refine hK _ ?_; clear hK K)
   all_goals
    refine zbn (zb0 ?_)
    simp (disch := omega) [DtCmd.sz]
    all_goals first | omega | (simp_all; done) | (split <;> omega) | (split <;> simp_all <;> omega) | (simp_all [szR]; omega)
 try simp at hc34
 refine zbm ?_
 refine zbr ?_
 refine AW_r rfl rfl fun K hK => ?_
 simp (disch := omega)
 repeat' first | (exfalso; omega) | (refine ⟨fun _ => ?_, fun _ => ?_⟩) | (refine ⟨by omega, ?_⟩) | (intro _)
 all_goals (refine hK _ ?_; clear hK K)
 all_goals
  refine zbl ?_
  refine AW_r rfl rfl fun K hK => ?_
  simp (disch := omega)
  repeat' first | (refine ⟨by omega, ?_⟩) | (intro _)
  refine hK _ ?_; clear hK K
  refine zbk rfl (fun hc35 => ?_) (fun hc35 => ?_)
  ·try simp at hc35
   all_goals
    refine AW_r rfl rfl fun K hK => ?_
    simp (disch := omega)
    repeat' first | (exfalso; omega) | (refine ⟨fun _ => ?_, fun _ => ?_⟩) | (refine ⟨by omega, ?_⟩) | (intro _)
    all_goals (refine hK _ ?_; clear hK K)
    all_goals
     refine zbn (zb0 ?_)
     simp (disch := omega) [DtCmd.sz]
     all_goals first | omega | (simp_all; done) | (split <;> omega) | (split <;> simp_all <;> omega) | (simp_all [szR]; omega)
  try simp at hc35
  refine zbm ?_
  refine zbr ?_
  refine AW_r rfl rfl fun K hK => ?_
  simp (disch := omega)
  repeat' first | (exfalso; omega) | (refine ⟨fun _ => ?_, fun _ => ?_⟩) | (refine ⟨by omega, ?_⟩) | (intro _)
  all_goals (refine hK _ ?_; clear hK K)
  all_goals
   refine zbl ?_
   refine AW_r rfl rfl fun K hK => ?_
   simp (disch := omega)
   repeat' first | (refine ⟨by omega, ?_⟩) | (intro _)
   refine hK _ ?_; clear hK K
   refine zbk rfl (fun hc36 => ?_) (fun hc36 => ?_)
   ·try simp at hc36
    all_goals
     refine AW_r rfl rfl fun K hK => ?_
     simp (disch := omega)
     repeat' first | (exfalso; omega) | (refine ⟨fun _ => ?_, fun _ => ?_⟩) | (refine ⟨by omega, ?_⟩) | (intro _)
     all_goals (refine hK _ ?_; clear hK K)
     all_goals
      refine zbn (zb0 ?_)
      simp (disch := omega) [DtCmd.sz]
      all_goals first | omega | (simp_all; done) | (split <;> omega) | (split <;> simp_all <;> omega) | (simp_all [szR]; omega)
   try simp at hc36
   refine zbm ?_
   refine zbr ?_
   refine AW_r rfl rfl fun K hK => ?_
   simp (disch := omega)
   repeat' first | (exfalso; omega) | (refine zcx (zbh zcs (zbh zct zbp)) (zx6 _ _ (by omega) (by assumption)) rfl ?_; simp (disch := omega)) | (refine ⟨fun _ => ?_, fun _ => ?_⟩) | (refine ⟨by omega, ?_⟩) | (intro _)
   all_goals (refine hK _ ?_; clear hK K)
   all_goals
    refine zbl ?_
    refine AW_r rfl rfl fun K hK => ?_
    simp (disch := omega)
    repeat' first | (refine ⟨by omega, ?_⟩) | (intro _)
    refine hK _ ?_; clear hK K
    refine zbk rfl (fun hc37 => ?_) (fun hc37 => ?_)
    ·try simp at hc37
     all_goals
      refine AW_r rfl rfl fun K hK => ?_
      simp (disch := omega)
      repeat' first | (exfalso; omega) | (refine ⟨fun _ => ?_, fun _ => ?_⟩) | (refine ⟨by omega, ?_⟩) | (intro _)
      all_goals (refine hK _ ?_; clear hK K)
      all_goals
       refine zbn (zb0 ?_)
       simp (disch := omega) [DtCmd.sz]
       all_goals first | omega | (simp_all; done) | (split <;> omega) | (split <;> simp_all <;> omega) | (simp_all [szR]; omega)
    try simp at hc37
    refine zbm ?_
    refine zbr ?_
    refine AW_r rfl rfl fun K hK => ?_
    simp (disch := omega)
    repeat' first | (exfalso; omega) | (refine ⟨fun _ => ?_, fun _ => ?_⟩) | (refine ⟨by omega, ?_⟩) | (intro _)
    all_goals (refine hK _ ?_; clear hK K)
    all_goals
     refine zbn (zb0 ?_)
     simp (disch := omega) [DtCmd.sz]
     all_goals first | omega | (simp_all; done) | (split <;> omega) | (split <;> simp_all <;> omega) | (simp_all [szR]; omega)
attribute [-simp] szR
theorem toCmd (u : DtCmd) (hs : DtCmd.sz u ≤ 1048576) : PCall Try.prog 12 [.agg (DtCmd.cells u)] (.agg (DtCmd.cells u)) := by
 simp only [DtCmd.sz] at hs
 have z7 := (zdg zcn) u.fChunks
 have s3 : (u.fSet.length : Int) ≤ 1048576 := by omega
 have s4 : (u.fName.length : Int) ≤ 1048576 := by omega
 have s5 : (u.fTag.length : Int) ≤ 1048576 := by omega
 have s7 : szS lenZ u.fChunks ≤ 1048576 := by omega
 refine zbq Try.func12 (by rfl) (by rfl) (by rw [Try.ntmps12]; exact Nat.le_of_ble_eq_true rfl) rfl (by decide) ?_
 rw [Try.ntmps12]
 refine AW_k [(0, _)] ⟨rfl, trivial⟩ ?_
 refine AW_r rfl rfl fun K hK => ?_
 simp
 repeat' first | (refine ⟨by omega, ?_⟩) | (intro _)
 refine hK _ ?_; clear hK K
 refine AW_r rfl rfl fun K hK => ?_
 simp
 repeat' first | (refine ⟨by omega, ?_⟩) | (intro _)
 refine hK _ ?_; clear hK K
 refine AW_r rfl rfl fun K hK => ?_
 simp
 repeat' first | (refine ⟨by omega, ?_⟩) | (intro _)
 refine hK _ ?_; clear hK K
 refine AW_r rfl rfl fun K hK => ?_
 simp
 repeat' first | (refine ⟨by omega, ?_⟩) | (intro _)
 refine hK _ ?_; clear hK K
 refine AW_r rfl rfl fun K hK => ?_
 simp
 repeat' first | (refine ⟨by omega, ?_⟩) | (intro _)
 refine hK _ ?_; clear hK K
 refine AW_r rfl rfl fun K hK => ?_
 simp
 repeat' first | (refine ⟨by omega, ?_⟩) | (intro _)
 refine hK _ ?_; clear hK K
 refine AW_r rfl rfl fun K hK => ?_
 simp
 repeat' first | (refine ⟨by omega, ?_⟩) | (intro _)
 refine hK _ ?_; clear hK K
 refine AW_r rfl rfl fun K hK => ?_
 simp
 repeat' first | (refine ⟨by omega, ?_⟩) | (intro _)
 refine hK _ ?_; clear hK K
 refine AW_r rfl rfl fun K hK => ?_
 simp
 repeat' first | (refine ⟨by omega, ?_⟩) | (intro _)
 refine hK _ ?_; clear hK K
 refine AW_r rfl rfl fun K hK => ?_
 simp
 repeat' first | (refine zcx (zbh zcs zbp) (zx7 _ (by first | assumption | omega)) rfl ?_; simp) | (refine ⟨by omega, ?_⟩) | (intro _)
 refine hK _ ?_; clear hK K
 refine AW_r rfl rfl fun K hK => ?_
 simp
 repeat' first | (refine ⟨by omega, ?_⟩) | (intro _)
 refine hK _ ?_; clear hK K
 refine zbn (zb0 ?_)
 simp
 all_goals first | omega | (simp_all; done) | (simp [List.take_of_length_le]; done) | ((try simp_all); (try simp (disch := omega) only [zbo, Int.tdiv_eq_ediv_of_nonneg, Int.tmod_eq_emod_of_nonneg, and_true, true_and]); done) | ((try simp_all); (try simp (disch := omega) only [zbo, Int.tdiv_eq_ediv_of_nonneg, Int.tmod_eq_emod_of_nonneg, and_true, true_and] at *); omega)
theorem eqCmd (u v : DtCmd) (hs : DtCmd.sz u ≤ 1048576) : PCall Try.prog 15 [.agg (DtCmd.cells u), .agg (DtCmd.cells v)] (.g (.bool (eqB u v))) := by
 simp only [DtCmd.sz] at hs
 have z7 := (zdg zcn) u.fChunks
 have s3 : (u.fSet.length : Int) ≤ 1048576 := by omega
 have s4 : (u.fName.length : Int) ≤ 1048576 := by omega
 have s5 : (u.fTag.length : Int) ≤ 1048576 := by omega
 have s7 : szS lenZ u.fChunks ≤ 1048576 := by omega
 have he := DtCmd.ext_iff u v
 refine zbq Try.func15 (by rfl) (by rfl) (by rw [Try.ntmps15]; exact Nat.le_of_ble_eq_true rfl) rfl (by decide) ?_
 rw [Try.ntmps15]
 refine AW_k [(0, _), (1, _)] ⟨rfl, rfl, trivial⟩ ?_
 refine AW_r rfl rfl fun K hK => ?_
 simp
 repeat' first | (refine ⟨by omega, ?_⟩) | (intro _)
 refine hK _ ?_; clear hK K
 refine zbl ?_
 refine AW_r rfl rfl fun K hK => ?_
 simp
 repeat' first | (refine ⟨by omega, ?_⟩) | (intro _)
 refine hK _ ?_; clear hK K
 refine zbk rfl (fun hc38 => ?_) (fun hc38 => ?_)
 ·try simp at hc38
  all_goals
   refine AW_r rfl rfl fun K hK => ?_
   simp
   repeat' first | (refine ⟨fun _ => ?_, fun _ => ?_⟩) | (refine ⟨by omega, ?_⟩) | (intro _)
   all_goals (refine hK _ ?_; clear hK K)
   all_goals
    refine zbn (zb0 ?_)
    simp
    all_goals first | (refine zcp (he.mpr ?_); simp_all [zbe, zbc]; done) | (refine zce fun h => ?_; rw [he] at h; simp_all [zbe, zbc, zbv]; done) | (refine (zcp (he.mpr ?_)).symm; simp_all [zbe, zbc]; done) | (refine (zce fun h => ?_).symm; rw [he] at h; simp_all [zbe, zbc, zbv]; done)
 try simp at hc38
 refine zbm ?_
 refine zbr ?_
 refine zbl ?_
 refine AW_r rfl rfl fun K hK => ?_
 simp
 repeat' first | (refine ⟨fun _ => ?_, fun _ => ?_⟩) | (refine ⟨by omega, ?_⟩) | (intro _)
 all_goals (refine hK _ ?_; clear hK K)
 all_goals
  refine zbk rfl (fun hc39 => ?_) (fun hc39 => ?_)
  ·try simp at hc39
   all_goals
    refine AW_r rfl rfl fun K hK => ?_
    simp
    repeat' first | (refine ⟨fun _ => ?_, fun _ => ?_⟩) | (refine ⟨by omega, ?_⟩) | (intro _)
    all_goals (refine hK _ ?_; clear hK K)
    all_goals
     refine zbn (zb0 ?_)
     simp
     all_goals first | (refine zcp (he.mpr ?_); simp_all [zbe, zbc]; done) | (refine zce fun h => ?_; rw [he] at h; simp_all [zbe, zbc, zbv]; done) | (refine (zcp (he.mpr ?_)).symm; simp_all [zbe, zbc]; done) | (refine (zce fun h => ?_).symm; rw [he] at h; simp_all [zbe, zbc, zbv]; done)
  try simp at hc39
  refine zbm ?_
  refine zbr ?_
  refine zbl ?_
  refine AW_r rfl rfl fun K hK => ?_
  simp
  repeat' first | (refine ⟨fun _ => ?_, fun _ => ?_⟩) | (refine ⟨by omega, ?_⟩) | (intro _)
  all_goals (refine hK _ ?_; clear hK K)
  all_goals
   refine zbk rfl (fun hc40 => ?_) (fun hc40 => ?_)
   ·try simp at hc40
    all_goals
     refine AW_r rfl rfl fun K hK => ?_
     simp
     repeat' first | (refine ⟨fun _ => ?_, fun _ => ?_⟩) | (refine ⟨by omega, ?_⟩) | (intro _)
     all_goals (refine hK _ ?_; clear hK K)
     all_goals
      refine zbn (zb0 ?_)
      simp
      all_goals first | (refine zcp (he.mpr ?_); simp_all [zbe, zbc]; done) | (refine zce fun h => ?_; rw [he] at h; simp_all [zbe, zbc, zbv]; done) | (refine (zcp (he.mpr ?_)).symm; simp_all [zbe, zbc]; done) | (refine (zce fun h => ?_).symm; rw [he] at h; simp_all [zbe, zbc, zbv]; done)
   try simp at hc40
   refine zbm ?_
   refine zbr ?_
   refine zbl ?_
   refine AW_r rfl rfl fun K hK => ?_
   simp
   repeat' first | (refine ⟨fun _ => ?_, fun _ => ?_⟩) | (refine ⟨by omega, ?_⟩) | (intro _)
   all_goals (refine hK _ ?_; clear hK K)
   all_goals
    refine zbk rfl (fun hc41 => ?_) (fun hc41 => ?_)
    ·try simp at hc41
     all_goals
      refine AW_r rfl rfl fun K hK => ?_
      simp
      repeat' first | (refine ⟨fun _ => ?_, fun _ => ?_⟩) | (refine ⟨by omega, ?_⟩) | (intro _)
      all_goals (refine hK _ ?_; clear hK K)
      all_goals
       refine zbn (zb0 ?_)
       simp
       all_goals first | (refine zcp (he.mpr ?_); simp_all [zbe, zbc]; done) | (refine zce fun h => ?_; rw [he] at h; simp_all [zbe, zbc, zbv]; done) | (refine (zcp (he.mpr ?_)).symm; simp_all [zbe, zbc]; done) | (refine (zce fun h => ?_).symm; rw [he] at h; simp_all [zbe, zbc, zbv]; done)
    try simp at hc41
    refine zbm ?_
    refine zbr ?_
    refine zbl ?_
    refine AW_r rfl rfl fun K hK => ?_
    simp
    repeat' first | (refine ⟨fun _ => ?_, fun _ => ?_⟩) | (refine ⟨by omega, ?_⟩) | (intro _)
    all_goals (refine hK _ ?_; clear hK K)
    all_goals
     refine zbk rfl (fun hc42 => ?_) (fun hc42 => ?_)
     ·try simp at hc42
      all_goals
       refine AW_r rfl rfl fun K hK => ?_
       simp
       repeat' first | (refine ⟨fun _ => ?_, fun _ => ?_⟩) | (refine ⟨by omega, ?_⟩) | (intro _)
       all_goals (refine hK _ ?_; clear hK K)
       all_goals
        refine zbn (zb0 ?_)
        simp
        all_goals first | (refine zcp (he.mpr ?_); simp_all [zbe, zbc]; done) | (refine zce fun h => ?_; rw [he] at h; simp_all [zbe, zbc, zbv]; done) | (refine (zcp (he.mpr ?_)).symm; simp_all [zbe, zbc]; done) | (refine (zce fun h => ?_).symm; rw [he] at h; simp_all [zbe, zbc, zbv]; done)
     try simp at hc42
     refine zbm ?_
     refine zbr ?_
     refine zbl ?_
     refine AW_r rfl rfl fun K hK => ?_
     simp
     repeat' first | (refine ⟨fun _ => ?_, fun _ => ?_⟩) | (refine ⟨by omega, ?_⟩) | (intro _)
     all_goals (refine hK _ ?_; clear hK K)
     all_goals
      refine zbk rfl (fun hc43 => ?_) (fun hc43 => ?_)
      ·try simp at hc43
       all_goals
        refine AW_r rfl rfl fun K hK => ?_
        simp
        repeat' first | (refine ⟨fun _ => ?_, fun _ => ?_⟩) | (refine ⟨by omega, ?_⟩) | (intro _)
        all_goals (refine hK _ ?_; clear hK K)
        all_goals
         refine zbn (zb0 ?_)
         simp
         all_goals first | (refine zcp (he.mpr ?_); simp_all [zbe, zbc]; done) | (refine zce fun h => ?_; rw [he] at h; simp_all [zbe, zbc, zbv]; done) | (refine (zcp (he.mpr ?_)).symm; simp_all [zbe, zbc]; done) | (refine (zce fun h => ?_).symm; rw [he] at h; simp_all [zbe, zbc, zbv]; done)
      try simp at hc43
      refine zbm ?_
      refine zbr ?_
      refine zbl ?_
      refine AW_r rfl rfl fun K hK => ?_
      simp
      repeat' first | (refine ⟨fun _ => ?_, fun _ => ?_⟩) | (refine ⟨by omega, ?_⟩) | (intro _)
      all_goals (refine hK _ ?_; clear hK K)
      all_goals
       refine zbk rfl (fun hc44 => ?_) (fun hc44 => ?_)
       ·try simp at hc44
        all_goals
         refine AW_r rfl rfl fun K hK => ?_
         simp
         repeat' first | (refine ⟨fun _ => ?_, fun _ => ?_⟩) | (refine ⟨by omega, ?_⟩) | (intro _)
         all_goals (refine hK _ ?_; clear hK K)
         all_goals
          refine zbn (zb0 ?_)
          simp
          all_goals first | (refine zcp (he.mpr ?_); simp_all [zbe, zbc]; done) | (refine zce fun h => ?_; rw [he] at h; simp_all [zbe, zbc, zbv]; done) | (refine (zcp (he.mpr ?_)).symm; simp_all [zbe, zbc]; done) | (refine (zce fun h => ?_).symm; rw [he] at h; simp_all [zbe, zbc, zbv]; done)
       try simp at hc44
       refine zbm ?_
       refine zbr ?_
       refine zbl ?_
       refine AW_r rfl rfl fun K hK => ?_
       simp
       repeat' first | (refine zcx (zbh zcs (zbh zcs zbp)) (zx8 _ _ (by first | assumption | omega)) rfl ?_; simp) | (refine ⟨fun _ => ?_, fun _ => ?_⟩) | (refine ⟨by omega, ?_⟩) | (intro _)
       all_goals (refine hK _ ?_; clear hK K)
       all_goals
        refine zbk rfl (fun hc45 => ?_) (fun hc45 => ?_)
        ·try simp at hc45
         all_goals
          refine AW_r rfl rfl fun K hK => ?_
          simp
          repeat' first | (refine ⟨fun _ => ?_, fun _ => ?_⟩) | (refine ⟨by omega, ?_⟩) | (intro _)
          all_goals (refine hK _ ?_; clear hK K)
          all_goals
           refine zbn (zb0 ?_)
           simp
           all_goals first | (refine zcp (he.mpr ?_); simp_all [zbe, zbc]; done) | (refine zce fun h => ?_; rw [he] at h; simp_all [zbe, zbc, zbv]; done) | (refine (zcp (he.mpr ?_)).symm; simp_all [zbe, zbc]; done) | (refine (zce fun h => ?_).symm; rw [he] at h; simp_all [zbe, zbc, zbv]; done)
        try simp at hc45
        refine zbm ?_
        refine zbr ?_
        refine AW_r rfl rfl fun K hK => ?_
        simp
        repeat' first | (refine ⟨fun _ => ?_, fun _ => ?_⟩) | (refine ⟨by omega, ?_⟩) | (intro _)
        all_goals (refine hK _ ?_; clear hK K)
        all_goals
         refine zbn (zb0 ?_)
         simp
         all_goals first | (refine zcp (he.mpr ?_); simp_all [zbe, zbc]; done) | (refine zce fun h => ?_; rw [he] at h; simp_all [zbe, zbc, zbv]; done) | (refine (zcp (he.mpr ?_)).symm; simp_all [zbe, zbc]; done) | (refine (zce fun h => ?_).symm; rw [he] at h; simp_all [zbe, zbc, zbv]; done)
attribute [local simp] szR
attribute [-simp] DtCmd.cells
attribute [-simp] szR
attribute [local simp] DtSaid.cells
attribute [-simp] DtSaid.cells
attribute [local simp] DtState.cells
attribute [local simp] DtCatalog.cells
attribute [local simp] szR DtCall.cells
attribute [-simp] DtState.cells DtCatalog.cells
theorem szCall (u : DtCall) (n : Int) (hn : 0 ≤ n ∧ n ≤ 1048576) (hw : DtCall.wf u) : PCall Try.prog 75 [.agg (DtCall.cells u), (.g (.int .i64 (n)))] (.g (.int .i64 (szR n (DtCall.sz u)))) := by
 have ⟨w0, w1, w2, w3⟩ := hw
 have z2 := DtCmd.sz_nonneg u.fCmd
 have w32 : u.fText.length ≤ 9223372036854775807 := w3
 refine zbq Try.func75 (by rfl) (by rfl) (by rw [Try.ntmps75]; exact Nat.le_of_ble_eq_true rfl) rfl (by decide) ?_
 rw [Try.ntmps75]
 refine AW_k [(0, _), (1, _)] ⟨rfl, rfl, trivial⟩ ?_
 refine AW_r rfl rfl fun K hK => ?_
 simp (disch := omega)
 repeat' first | (refine ⟨by omega, ?_⟩) | (intro _)
 refine hK _ ?_; clear hK K
 refine AW_r rfl rfl fun K hK => ?_
 simp (disch := omega)
 repeat' first | (exfalso; omega) | (refine zcx (zbh (zb7 rfl) (zbh zct zbp)) (szCmd _ _ (by omega) (by assumption)) rfl ?_; simp (disch := omega)) | (refine ⟨by omega, ?_⟩) | (intro _)
 refine hK _ ?_; clear hK K
 refine zbl ?_
 refine AW_r rfl rfl fun K hK => ?_
 simp (disch := omega)
 repeat' first | (refine ⟨by omega, ?_⟩) | (intro _)
 refine hK _ ?_; clear hK K
 refine zbk rfl (fun hc61 => ?_) (fun hc61 => ?_)
 ·try simp at hc61
  all_goals
   refine AW_r rfl rfl fun K hK => ?_
   simp (disch := omega)
   repeat' first | (exfalso; omega) | (refine ⟨fun _ => ?_, fun _ => ?_⟩) | (refine ⟨by omega, ?_⟩) | (intro _)
   all_goals (refine hK _ ?_; clear hK K)
   all_goals
    refine zbn (zb0 ?_)
    simp (disch := omega) [DtCall.sz]
    all_goals first | omega | (simp_all; done) | (split <;> omega) | (split <;> simp_all <;> omega) | (simp_all [szR]; omega)
 try simp at hc61
 refine zbm ?_
 refine zbr ?_
 refine AW_r rfl rfl fun K hK => ?_
 simp (disch := omega)
 repeat' first | (exfalso; omega) | (refine ⟨fun _ => ?_, fun _ => ?_⟩) | (refine ⟨by omega, ?_⟩) | (intro _)
 all_goals (refine hK _ ?_; clear hK K)
 all_goals
  refine zbl ?_
  refine AW_r rfl rfl fun K hK => ?_
  simp (disch := omega)
  repeat' first | (refine ⟨by omega, ?_⟩) | (intro _)
  refine hK _ ?_; clear hK K
  refine zbk rfl (fun hc62 => ?_) (fun hc62 => ?_)
  ·try simp at hc62
   all_goals
    refine AW_r rfl rfl fun K hK => ?_
    simp (disch := omega)
    repeat' first | (exfalso; omega) | (refine ⟨fun _ => ?_, fun _ => ?_⟩) | (refine ⟨by omega, ?_⟩) | (intro _)
    all_goals (refine hK _ ?_; clear hK K)
    all_goals
     refine zbn (zb0 ?_)
     simp (disch := omega) [DtCall.sz]
     all_goals first | omega | (simp_all; done) | (split <;> omega) | (split <;> simp_all <;> omega) | (simp_all [szR]; omega)
  try simp at hc62
  refine zbm ?_
  refine zbr ?_
  refine AW_r rfl rfl fun K hK => ?_
  simp (disch := omega)
  repeat' first | (exfalso; omega) | (refine ⟨fun _ => ?_, fun _ => ?_⟩) | (refine ⟨by omega, ?_⟩) | (intro _)
  all_goals (refine hK _ ?_; clear hK K)
  all_goals
   refine zbn (zb0 ?_)
   simp (disch := omega) [DtCall.sz]
   all_goals first | omega | (simp_all; done) | (split <;> omega) | (split <;> simp_all <;> omega) | (simp_all [szR]; omega)
attribute [-simp] szR
attribute [local simp] DtCmd.cells
theorem toCall (u : DtCall) (hs : DtCall.sz u ≤ 1048576) : PCall Try.prog 77 [.agg (DtCall.cells u)] (.agg (DtCall.cells u)) := by
 simp only [DtCall.sz] at hs
 have z2 := DtCmd.sz_nonneg u.fCmd
 have s2 : DtCmd.sz u.fCmd ≤ 1048576 := by omega
 have s3 : (u.fText.length : Int) ≤ 1048576 := by omega
 refine zbq Try.func77 (by rfl) (by rfl) (by rw [Try.ntmps77]; exact Nat.le_of_ble_eq_true rfl) rfl (by decide) ?_
 rw [Try.ntmps77]
 refine AW_k [(0, _)] ⟨rfl, trivial⟩ ?_
 refine AW_r rfl rfl fun K hK => ?_
 simp
 repeat' first | (refine ⟨by omega, ?_⟩) | (intro _)
 refine hK _ ?_; clear hK K
 refine AW_r rfl rfl fun K hK => ?_
 simp
 repeat' first | (refine ⟨by omega, ?_⟩) | (intro _)
 refine hK _ ?_; clear hK K
 refine AW_r rfl rfl fun K hK => ?_
 simp
 repeat' first | (refine ⟨by omega, ?_⟩) | (intro _)
 refine hK _ ?_; clear hK K
 refine AW_r rfl rfl fun K hK => ?_
 simp
 repeat' first | (refine ⟨by omega, ?_⟩) | (intro _)
 refine hK _ ?_; clear hK K
 refine AW_r rfl rfl fun K hK => ?_
 simp
 repeat' first | (refine zcx (zbh (zb7 rfl) zbp) (toCmd _ (by first | assumption | omega)) rfl ?_; simp) | (refine ⟨by omega, ?_⟩) | (intro _)
 refine hK _ ?_; clear hK K
 refine AW_r rfl rfl fun K hK => ?_
 simp
 repeat' first | (refine ⟨by omega, ?_⟩) | (intro _)
 refine hK _ ?_; clear hK K
 refine AW_r rfl rfl fun K hK => ?_
 simp
 repeat' first | (refine ⟨by omega, ?_⟩) | (intro _)
 refine hK _ ?_; clear hK K
 refine zbn (zb0 ?_)
 simp
 all_goals first | omega | (simp_all; done) | (simp [List.take_of_length_le]; done) | ((try simp_all); (try simp (disch := omega) only [zbo, Int.tdiv_eq_ediv_of_nonneg, Int.tmod_eq_emod_of_nonneg, and_true, true_and]); done) | ((try simp_all); (try simp (disch := omega) only [zbo, Int.tdiv_eq_ediv_of_nonneg, Int.tmod_eq_emod_of_nonneg, and_true, true_and] at *); omega)
attribute [-simp] DtCmd.cells
attribute [local simp] DtCmd.cells
theorem eqCall (u v : DtCall) (hs : DtCall.sz u ≤ 1048576) : PCall Try.prog 82 [.agg (DtCall.cells u), .agg (DtCall.cells v)] (.g (.bool (eqB u v))) := by
 simp only [DtCall.sz] at hs
 have z2 := DtCmd.sz_nonneg u.fCmd
 have s2 : DtCmd.sz u.fCmd ≤ 1048576 := by omega
 have s3 : (u.fText.length : Int) ≤ 1048576 := by omega
 have he := DtCall.ext_iff u v
 refine zbq Try.func82 (by rfl) (by rfl) (by rw [Try.ntmps82]; exact Nat.le_of_ble_eq_true rfl) rfl (by decide) ?_
 rw [Try.ntmps82]
 refine AW_k [(0, _), (1, _)] ⟨rfl, rfl, trivial⟩ ?_
 refine AW_r rfl rfl fun K hK => ?_
 simp
 repeat' first | (refine ⟨by omega, ?_⟩) | (intro _)
 refine hK _ ?_; clear hK K
 refine zbl ?_
 refine AW_r rfl rfl fun K hK => ?_
 simp
 repeat' first | (refine ⟨by omega, ?_⟩) | (intro _)
 refine hK _ ?_; clear hK K
 refine zbk rfl (fun hc63 => ?_) (fun hc63 => ?_)
 ·try simp at hc63
  all_goals
   refine AW_r rfl rfl fun K hK => ?_
   simp
   repeat' first | (refine ⟨fun _ => ?_, fun _ => ?_⟩) | (refine ⟨by omega, ?_⟩) | (intro _)
   all_goals (refine hK _ ?_; clear hK K)
   all_goals
    refine zbn (zb0 ?_)
    simp
    all_goals first | (refine zcp (he.mpr ?_); simp_all [zbe, zbc]; done) | (refine zce fun h => ?_; rw [he] at h; simp_all [zbe, zbc, zbv]; done) | (refine (zcp (he.mpr ?_)).symm; simp_all [zbe, zbc]; done) | (refine (zce fun h => ?_).symm; rw [he] at h; simp_all [zbe, zbc, zbv]; done)
 try simp at hc63
 refine zbm ?_
 refine zbr ?_
 refine zbl ?_
 refine AW_r rfl rfl fun K hK => ?_
 simp
 repeat' first | (refine ⟨fun _ => ?_, fun _ => ?_⟩) | (refine ⟨by omega, ?_⟩) | (intro _)
 all_goals (refine hK _ ?_; clear hK K)
 all_goals
  refine zbk rfl (fun hc64 => ?_) (fun hc64 => ?_)
  ·try simp at hc64
   all_goals
    refine AW_r rfl rfl fun K hK => ?_
    simp
    repeat' first | (refine ⟨fun _ => ?_, fun _ => ?_⟩) | (refine ⟨by omega, ?_⟩) | (intro _)
    all_goals (refine hK _ ?_; clear hK K)
    all_goals
     refine zbn (zb0 ?_)
     simp
     all_goals first | (refine zcp (he.mpr ?_); simp_all [zbe, zbc]; done) | (refine zce fun h => ?_; rw [he] at h; simp_all [zbe, zbc, zbv]; done) | (refine (zcp (he.mpr ?_)).symm; simp_all [zbe, zbc]; done) | (refine (zce fun h => ?_).symm; rw [he] at h; simp_all [zbe, zbc, zbv]; done)
  try simp at hc64
  refine zbm ?_
  refine zbr ?_
  refine zbl ?_
  refine AW_r rfl rfl fun K hK => ?_
  simp
  repeat' first | (refine zcx (zbh (zb7 rfl) (zbh (zb7 rfl) zbp)) (eqCmd _ _ (by first | assumption | omega)) rfl ?_; simp) | (refine ⟨fun _ => ?_, fun _ => ?_⟩) | (refine ⟨by omega, ?_⟩) | (intro _)
  all_goals (refine hK _ ?_; clear hK K)
  all_goals
   refine zbk rfl (fun hc65 => ?_) (fun hc65 => ?_)
   ·try simp at hc65
    all_goals
     refine AW_r rfl rfl fun K hK => ?_
     simp
     repeat' first | (refine ⟨fun _ => ?_, fun _ => ?_⟩) | (refine ⟨by omega, ?_⟩) | (intro _)
     all_goals (refine hK _ ?_; clear hK K)
     all_goals
      refine zbn (zb0 ?_)
      simp
      all_goals first | (refine zcp (he.mpr ?_); simp_all [zbe, zbc]; done) | (refine zce fun h => ?_; rw [he] at h; simp_all [zbe, zbc, zbv]; done) | (refine (zcp (he.mpr ?_)).symm; simp_all [zbe, zbc]; done) | (refine (zce fun h => ?_).symm; rw [he] at h; simp_all [zbe, zbc, zbv]; done)
   try simp at hc65
   refine zbm ?_
   refine zbr ?_
   refine zbl ?_
   refine AW_r rfl rfl fun K hK => ?_
   simp
   repeat' first | (refine ⟨fun _ => ?_, fun _ => ?_⟩) | (refine ⟨by omega, ?_⟩) | (intro _)
   all_goals (refine hK _ ?_; clear hK K)
   all_goals
    refine zbk rfl (fun hc66 => ?_) (fun hc66 => ?_)
    ·try simp at hc66
     all_goals
      refine AW_r rfl rfl fun K hK => ?_
      simp
      repeat' first | (refine ⟨fun _ => ?_, fun _ => ?_⟩) | (refine ⟨by omega, ?_⟩) | (intro _)
      all_goals (refine hK _ ?_; clear hK K)
      all_goals
       refine zbn (zb0 ?_)
       simp
       all_goals first | (refine zcp (he.mpr ?_); simp_all [zbe, zbc]; done) | (refine zce fun h => ?_; rw [he] at h; simp_all [zbe, zbc, zbv]; done) | (refine (zcp (he.mpr ?_)).symm; simp_all [zbe, zbc]; done) | (refine (zce fun h => ?_).symm; rw [he] at h; simp_all [zbe, zbc, zbv]; done)
    try simp at hc66
    refine zbm ?_
    refine zbr ?_
    refine AW_r rfl rfl fun K hK => ?_
    simp
    repeat' first | (refine ⟨fun _ => ?_, fun _ => ?_⟩) | (refine ⟨by omega, ?_⟩) | (intro _)
    all_goals (refine hK _ ?_; clear hK K)
    all_goals
     refine zbn (zb0 ?_)
     simp
     all_goals first | (refine zcp (he.mpr ?_); simp_all [zbe, zbc]; done) | (refine zce fun h => ?_; rw [he] at h; simp_all [zbe, zbc, zbv]; done) | (refine (zcp (he.mpr ?_)).symm; simp_all [zbe, zbc]; done) | (refine (zce fun h => ?_).symm; rw [he] at h; simp_all [zbe, zbc, zbv]; done)
attribute [local simp] szR
attribute [-simp] DtCall.cells DtCmd.cells
theorem zx9 (xs : List DtCall) (n : Int) (hn : 0 ≤ n ∧ n ≤ 1048576) (hw : (wfS DtCall.wf) xs) : PCall Try.prog 33 [.sl 11 (xs.map DtCall.cells), (.g (.int .i64 (n)))] (.g (.int .i64 (szR n (szS DtCall.sz xs)))) := by
 have hq := zb9 DtCall.sz_nonneg xs
 have hw1 := hw.1
 refine zbq Try.func33 (by rfl) (by rfl) (by rw [Try.ntmps33]; exact Nat.le_of_ble_eq_true rfl) rfl (by decide) ?_
 rw [Try.ntmps33]
 refine AW_k [(0, _), (1, _)] ⟨rfl, rfl, trivial⟩ ?_
 refine AW_r rfl rfl fun K hK => ?_
 simp (disch := omega)
 repeat' first | (refine ⟨by omega, ?_⟩) | (intro _)
 refine hK _ ?_; clear hK K
 refine AW_r rfl rfl fun K hK => ?_
 simp (disch := omega)
 repeat' first | (refine ⟨by omega, ?_⟩) | (intro _)
 refine hK _ ?_; clear hK K
 refine zbl ?_
 refine AW_r rfl rfl fun K hK => ?_
 simp (disch := omega)
 repeat' first | (refine ⟨by omega, ?_⟩) | (intro _)
 refine hK _ ?_; clear hK K
 refine zbk rfl (fun hc67 => ?_) (fun hc67 => ?_)
 ·try simp at hc67
  all_goals
   refine AW_r rfl rfl fun K hK => ?_
   simp (disch := omega)
   repeat' first | (exfalso; omega) | (refine ⟨fun _ => ?_, fun _ => ?_⟩) | (refine ⟨by omega, ?_⟩) | (intro _)
   all_goals (refine hK _ ?_; clear hK K)
   all_goals
    refine zbn (zb0 ?_)
    simp (disch := omega) [szS]
    all_goals first | omega | (split <;> omega)
 try simp at hc67
 refine zbm ?_
 refine zbr ?_
 refine zbl ?_
 refine AW_r rfl rfl fun K hK => ?_
 simp (disch := omega)
 repeat' first | (exfalso; omega) | (refine ⟨fun _ => ?_, fun _ => ?_⟩) | (refine ⟨by omega, ?_⟩) | (intro _)
 all_goals (refine hK _ ?_; clear hK K)
 all_goals
  refine zbs ?_
  refine zb3 (fun mM sS => ∃ (i : Nat), mM = xs.length - i ∧ (i ≤ xs.length ∧ 0 ≤ n - xs.length - sumZ DtCall.sz (xs.take i)) ∧ sS = { env := lkE [(0, .sl 11 (xs.map DtCall.cells)), (1, (.g (.int .i64 (n - xs.length - sumZ DtCall.sz (xs.take i))))), (5, (.g (.int .i64 ((i : Nat)))))], ob := formOb [] [] }) ?_ ?_
  ·refine ⟨_, LeS.kp [(0, .sl 11 (xs.map DtCall.cells)), (1, (.g (.int .i64 (n - xs.length - sumZ DtCall.sz (xs.take (0)))))), (5, (.g (.int .i64 (((0) : Nat)))))] (by simp [KpE, zbf, zbt, zbd, zdu]; try first | rfl | omega), _, 0, rfl, ?_, rfl⟩
   ·simp [zdu]; omega
  ·rintro mM sS ⟨i, rfl, ⟨hi, hn⟩, rfl⟩
   have hz := zb9 DtCall.sz_nonneg (xs.take i)
   have hz2 := zfn DtCall.sz_nonneg xs i
   refine zbl ?_
   refine AW_r rfl rfl fun K hK => ?_
   simp (disch := omega) [DtCall.cells]
   repeat' first | (refine ⟨by omega, ?_⟩) | (intro _)
   refine hK _ ?_; clear hK K
   refine zbk rfl (fun hc68 => ?_) (fun hc68 => ?_)
   ·try simp at hc68
    all_goals
     have hl := zp6 (f := DtCall.sz) xs i (by omega)
     have hwE : DtCall.wf xs[i] := hw.2 _ (List.getElem_mem _)
     have hz3 := zfn DtCall.sz_nonneg xs (i + 1)
     have hzE := DtCall.sz_nonneg xs[i]
     have hszR : szR (n - xs.length - sumZ DtCall.sz (xs.take i)) (DtCall.sz xs[i]) = n - xs.length - sumZ DtCall.sz (xs.take (i + 1)) ∨ (szR (n - xs.length - sumZ DtCall.sz (xs.take i)) (DtCall.sz xs[i]) = -1 ∧ n - xs.length - sumZ DtCall.sz (xs.take (i + 1)) < 0) := by unfold szR; split <;> omega
     refine zbm ?_
     refine zbr ?_
     refine zbl ?_
     refine zbs ?_
     refine AW_r rfl rfl fun K hK => ?_
     simp (disch := omega) [DtCall.cells]
     repeat' first | (exfalso; omega) | (refine zcx (zbh (zb7 rfl) (zbh zct zbp)) (szCall _ _ (by omega) (by first | exact hwE | exact hw)) rfl ?_; simp (disch := omega) [DtCall.cells]) | (refine ⟨fun _ => ?_, fun _ => ?_⟩) | (refine ⟨by omega, ?_⟩) | (intro _)
     all_goals (refine hK _ ?_; clear hK K)
     all_goals
      refine AW_r rfl rfl fun K hK => ?_
      simp (disch := omega) [DtCall.cells]
      repeat' first | (refine ⟨by omega, ?_⟩) | (intro _)
      refine hK _ ?_; clear hK K
      refine zbk rfl (fun hc69 => ?_) (fun hc69 => ?_)
      ·try simp at hc69
       all_goals
        refine AW_r rfl rfl fun K hK => ?_
        simp (disch := omega) [DtCall.cells]
        repeat' first | (exfalso; omega) | (refine ⟨fun _ => ?_, fun _ => ?_⟩) | (refine ⟨by omega, ?_⟩) | (intro _)
        all_goals (refine hK _ ?_; clear hK K)
        all_goals
         refine zbn (zb0 ?_)
         simp (disch := omega) [DtCall.cells, szS]
         all_goals first | omega | (split <;> omega)
      try simp at hc69
      refine zbm ?_
      refine zbr ?_
      refine zc1 rfl rfl fun K hK => ?_
      simp (disch := omega) [DtCall.cells]
      repeat' first | (exfalso; omega) | (refine ⟨fun _ => ?_, fun _ => ?_⟩) | (refine ⟨by omega, ?_⟩) | (intro _)
      all_goals (refine hK _ ?_; clear hK K)
      all_goals
       refine ⟨_, LeS.kp [(0, .sl 11 (xs.map DtCall.cells)), (1, (.g (.int .i64 (n - xs.length - sumZ DtCall.sz (xs.take (i + 1)))))), (5, (.g (.int .i64 (((i + 1) : Nat)))))] (by simp [KpE, zbf, zbt, zbd, zdu]; try first | rfl | omega), _, ?_, i + 1, rfl, ?_, rfl⟩
       ·omega
       ·omega
   try simp at hc68
   have hi2 : i = xs.length := by omega
   subst hi2
   simp only [List.take_length] at *
   refine zb8 ?_
   refine zbr ?_
   refine AW_r rfl rfl fun K hK => ?_
   simp (disch := omega) [DtCall.cells]
   repeat' first | (exfalso; omega) | (refine ⟨fun _ => ?_, fun _ => ?_⟩) | (refine ⟨by omega, ?_⟩) | (intro _)
   all_goals (refine hK _ ?_; clear hK K)
   all_goals
    refine zbn (zb0 ?_)
    simp (disch := omega) [DtCall.cells, szS]
    all_goals first | omega | (split <;> omega)
attribute [-simp] szR
theorem zr8 (xs : List DtCall) (hs : szS DtCall.sz xs ≤ 1048576) : PCall Try.prog 35 [.sl 11 (xs.map DtCall.cells)] (.sl 11 (xs.map DtCall.cells)) := by
 have hn : xs.length ≤ 1048576 := by have := zb9 DtCall.sz_nonneg xs; simp only [szS] at hs; omega
 refine zbq Try.func35 (by rfl) (by rfl) (by rw [Try.ntmps35]; exact Nat.le_of_ble_eq_true rfl) rfl (by decide) ?_
 rw [Try.ntmps35]
 refine AW_k [(0, _)] ⟨rfl, trivial⟩ ?_
 refine AW_r rfl rfl fun K hK => ?_
 simp (disch := omega)
 repeat' first | (refine ⟨by omega, ?_⟩) | (intro _)
 refine hK _ ?_; clear hK K
 refine AW_r rfl rfl fun K hK => ?_
 simp (disch := omega)
 repeat' first | (refine ⟨by omega, ?_⟩) | (intro _)
 refine hK _ ?_; clear hK K
 refine zbl ?_
 refine AW_r rfl rfl fun K hK => ?_
 simp (disch := omega)
 repeat' first | (refine ⟨by omega, ?_⟩) | (intro _)
 refine hK _ ?_; clear hK K
 refine zbs ?_
 refine zb3 (fun mM sS => ∃ (i : Nat) (ys : List (List AV)), mM = xs.length - i ∧ (i ≤ xs.length ∧ ys.length = xs.length ∧ (∀ j, j < i → ys[j]? = (xs.map DtCall.cells)[j]?) ∧ (∀ y ∈ ys, y.length = 11)) ∧ sS = { env := lkE [(0, .sl 11 (xs.map DtCall.cells)), (3, .arr 128 0 xs.length), (4, (.g (.int .i64 ((i : Nat)))))], ob := upd (formOb [] []) 128 (some (.flat 11 ys)) }) ?_ ?_
 ·refine ⟨_, LeS.kp [(0, .sl 11 (xs.map DtCall.cells)), (3, .arr 128 0 xs.length), (4, (.g (.int .i64 (((0) : Nat)))))] (by simp [KpE, zbf, zbt, zbd]; try rfl), _, 0, List.replicate xs.length [.g (.int .i64 0), .g (.int .i64 0), .g (.int .i64 0), .g (.int .i64 0), .g (.int .i64 0), .s [], .s [], .s [], .g (.int .i64 0), .g (.slice none 0 0), .s []], rfl, ?_, rfl⟩
  ·simp
 ·rintro mM sS ⟨i, ys, rfl, ⟨hi, hl, hpre, hone⟩, rfl⟩
  refine zbl ?_
  refine AW_r rfl rfl fun K hK => ?_
  simp (disch := omega) [DtCall.cells]
  repeat' first | (refine ⟨by omega, ?_⟩) | (intro _)
  refine hK _ ?_; clear hK K
  refine zbk rfl (fun hc70 => ?_) (fun hc70 => ?_)
  ·try simp at hc70
   all_goals
    obtain ⟨c1, c2, c3, c4, c5, c6, c7, c8, c9, c10, c11, h6⟩ : ∃ c1 c2 c3 c4 c5 c6 c7 c8 c9 c10 c11, ys[i]'(by omega) = [c1, c2, c3, c4, c5, c6, c7, c8, c9, c10, c11] := len11 (hone _ (List.getElem_mem _))
    have hsE : DtCall.sz xs[i] ≤ 1048576 := by have := zdb DtCall.sz_nonneg xs xs[i] (List.getElem_mem _); simp only [szS] at hs; omega
    refine zbm ?_
    refine zbr ?_
    refine zbl ?_
    refine zbs ?_
    refine zc1 rfl rfl fun K hK => ?_
    simp (disch := omega) [DtCall.cells, h6]
    repeat' first | (exfalso; omega) | (refine zcx (zbh (zb7 rfl) zbp) (toCall _ (by first | assumption | omega)) rfl ?_; simp (disch := omega) [DtCall.cells, h6]) | (refine ⟨fun _ => ?_, fun _ => ?_⟩) | (refine ⟨by omega, ?_⟩) | (intro _)
    all_goals (refine hK _ ?_; clear hK K)
    all_goals
     refine zbr ?_
     refine zc1 rfl rfl fun K hK => ?_
     simp (disch := omega) [DtCall.cells, h6]
     repeat' first | (refine ⟨by omega, ?_⟩) | (intro _)
     refine hK _ ?_; clear hK K
     refine ⟨_, LeS.kp [(0, .sl 11 (xs.map DtCall.cells)), (3, .arr 128 0 xs.length), (4, (.g (.int .i64 (((i + 1) : Nat)))))] (by simp [KpE, zbf, zbt, zbd]; try rfl), _, ?_, i + 1, ys.set i (DtCall.cells xs[i]), rfl, ?_, ?_⟩
     ·omega
     ·refine ⟨by omega, by simpa using hl, fun j hj => ?_, fun y hy => ?_⟩
      ·by_cases hji : j = i
       ·subst hji; rw [List.getElem?_set_self (by omega), List.getElem?_map, List.getElem?_eq_getElem (by omega)]; rfl
       ·rw [List.getElem?_set_ne (by omega)]; exact hpre j (by omega)
      ·rcases List.mem_or_eq_of_mem_set hy with hy | rfl
       ·exact hone y hy
       ·rfl
     ·rfl
  try simp at hc70
  have hi2 : i = xs.length := by omega
  subst hi2
  have hys : ys = xs.map DtCall.cells := List.ext_getElem? fun j => by
   by_cases hj : j < xs.length
   ·exact hpre j hj
   ·rw [List.getElem?_eq_none (by omega), List.getElem?_eq_none (by simp; omega)]
  subst hys
  refine zb8 ?_
  refine zbr ?_
  refine AW_r rfl rfl fun K hK => ?_
  simp (disch := omega) [DtCall.cells]
  repeat' first | (exfalso; omega) | (refine ⟨fun _ => ?_, fun _ => ?_⟩) | (refine ⟨by omega, ?_⟩) | (intro _)
  all_goals (refine hK _ ?_; clear hK K)
  all_goals
   refine zbn (zb0 ?_)
   simp (disch := omega) [DtCall.cells]
   all_goals first | omega | (simp_all; done) | (simp [List.take_of_length_le]; done) | ((try simp_all); (try simp (disch := omega) only [zbo, Int.tdiv_eq_ediv_of_nonneg, Int.tmod_eq_emod_of_nonneg, and_true, true_and]); done) | ((try simp_all); (try simp (disch := omega) only [zbo, Int.tdiv_eq_ediv_of_nonneg, Int.tmod_eq_emod_of_nonneg, and_true, true_and] at *); omega)
theorem eqCallS (xs ys : List DtCall) (hs : szS DtCall.sz xs ≤ 1048576) : PCall Try.prog 38 [.sl 11 (xs.map DtCall.cells), .sl 11 (ys.map DtCall.cells)] (.g (.bool (eqB xs ys))) := by
 have hn : xs.length ≤ 1048576 := by have := zb9 DtCall.sz_nonneg xs; simp only [szS] at hs; omega
 refine zbq Try.func38 (by rfl) (by rfl) (by rw [Try.ntmps38]; exact Nat.le_of_ble_eq_true rfl) rfl (by decide) ?_
 rw [Try.ntmps38]
 refine AW_k [(0, _), (1, _)] ⟨rfl, rfl, trivial⟩ ?_
 refine AW_r rfl rfl fun K hK => ?_
 simp (disch := omega)
 repeat' first | (refine ⟨by omega, ?_⟩) | (intro _)
 refine hK _ ?_; clear hK K
 refine zbl ?_
 refine AW_r rfl rfl fun K hK => ?_
 simp (disch := omega)
 repeat' first | (refine ⟨by omega, ?_⟩) | (intro _)
 refine hK _ ?_; clear hK K
 refine zbk rfl (fun hc71 => ?_) (fun hc71 => ?_)
 ·try simp at hc71
  all_goals
   refine AW_r rfl rfl fun K hK => ?_
   simp (disch := omega)
   repeat' first | (exfalso; omega) | (refine ⟨fun _ => ?_, fun _ => ?_⟩) | (refine ⟨by omega, ?_⟩) | (intro _)
   all_goals (refine hK _ ?_; clear hK K)
   all_goals
    refine zbn (zb0 ?_)
    simp (disch := omega)
    all_goals first | (exact zcp heq) | (refine zce fun heq => ?_; subst heq; simp_all [zbe, zbc, zbv]; done) | (refine (zce fun heq => ?_).symm; subst heq; simp_all [zbe, zbc, zbv]; done) | simp_all [zbv]
 try simp at hc71
 refine zbm ?_
 refine zbr ?_
 refine zbl ?_
 refine AW_r rfl rfl fun K hK => ?_
 simp (disch := omega)
 repeat' first | (exfalso; omega) | (refine ⟨fun _ => ?_, fun _ => ?_⟩) | (refine ⟨by omega, ?_⟩) | (intro _)
 all_goals (refine hK _ ?_; clear hK K)
 all_goals
  refine zbs ?_
  refine zb3 (fun mM sS => ∃ (i : Nat), mM = xs.length - i ∧ (i ≤ xs.length ∧ ∀ j, j < i → xs[j]? = ys[j]?) ∧ sS = { env := lkE [(0, .sl 11 (xs.map DtCall.cells)), (1, .sl 11 (ys.map DtCall.cells)), (5, (.g (.int .i64 ((i : Nat)))))], ob := formOb [] [] }) ?_ ?_
  ·refine ⟨_, LeS.kp [(0, .sl 11 (xs.map DtCall.cells)), (1, .sl 11 (ys.map DtCall.cells)), (5, (.g (.int .i64 (((0) : Nat)))))] (by simp [KpE, zbf, zbt, zbd]; try rfl), _, 0, rfl, ?_, rfl⟩
   ·simp
  ·rintro mM sS ⟨i, rfl, ⟨hi, hpre⟩, rfl⟩
   refine zbl ?_
   refine AW_r rfl rfl fun K hK => ?_
   simp (disch := omega) [DtCall.cells]
   repeat' first | (refine ⟨by omega, ?_⟩) | (intro _)
   refine hK _ ?_; clear hK K
   refine zbk rfl (fun hc72 => ?_) (fun hc72 => ?_)
   ·try simp at hc72
    all_goals
     have h7 : i < ys.length := by omega
     have hsE : DtCall.sz xs[i] ≤ 1048576 := by have := zdb DtCall.sz_nonneg xs xs[i] (List.getElem_mem _); simp only [szS] at hs; omega
     refine zbm ?_
     refine zbr ?_
     refine zbl ?_
     refine zbs ?_
     refine AW_q rfl mix (by kernel_rfl) rfl fun K hK => ?_
     simp (disch := omega) [DtCall.cells]
     repeat' first | (exfalso; omega) | (refine zcx (zbh (zb7 rfl) (zbh (zb7 rfl) zbp)) (eqCall _ _ (by first | assumption | omega)) rfl ?_; simp (disch := omega) [DtCall.cells]) | (refine ⟨fun _ => ?_, fun _ => ?_⟩) | (refine ⟨by omega, ?_⟩) | (intro _)
     all_goals (refine hK _ ?_; clear hK K)
     all_goals
      refine zbk rfl (fun hc73 => ?_) (fun hc73 => ?_)
      ·try simp at hc73
       all_goals
        refine AW_r rfl rfl fun K hK => ?_
        simp (disch := omega) [DtCall.cells]
        repeat' first | (exfalso; omega) | (refine ⟨fun _ => ?_, fun _ => ?_⟩) | (refine ⟨by omega, ?_⟩) | (intro _)
        all_goals (refine hK _ ?_; clear hK K)
        all_goals
         refine zbn (zb0 ?_)
         simp (disch := omega) [DtCall.cells]
         all_goals first | (exact zcp heq) | (refine zce fun heq => ?_; subst heq; simp_all [zbe, zbc, zbv]; done) | (refine (zce fun heq => ?_).symm; subst heq; simp_all [zbe, zbc, zbv]; done) | simp_all [zbv]
      try simp at hc73
      refine zbm ?_
      refine zbr ?_
      refine zc1 rfl rfl fun K hK => ?_
      simp (disch := omega) [DtCall.cells]
      repeat' first | (exfalso; omega) | (refine ⟨fun _ => ?_, fun _ => ?_⟩) | (refine ⟨by omega, ?_⟩) | (intro _)
      all_goals (refine hK _ ?_; clear hK K)
      all_goals
       refine ⟨_, LeS.kp [(0, .sl 11 (xs.map DtCall.cells)), (1, .sl 11 (ys.map DtCall.cells)), (5, (.g (.int .i64 (((i + 1) : Nat)))))] (by simp [KpE, zbf, zbt, zbd]; try rfl), _, ?_, i + 1, rfl, ?_, rfl⟩
       ·omega
       ·refine ⟨by omega, fun j hj => ?_⟩
        by_cases hji : j = i
        ·subst hji; simp_all [zbe, zbc]
        ·exact hpre j (by omega)
   try simp at hc72
   have hi2 : i = xs.length := by omega
   subst hi2
   have heq : xs = ys := List.ext_getElem? fun j => by
    by_cases hj : j < xs.length
    ·exact hpre j hj
    ·rw [List.getElem?_eq_none (by omega), List.getElem?_eq_none (by omega)]
   refine zb8 ?_
   refine zbr ?_
   refine AW_r rfl rfl fun K hK => ?_
   simp (disch := omega) [DtCall.cells]
   repeat' first | (exfalso; omega) | (refine ⟨fun _ => ?_, fun _ => ?_⟩) | (refine ⟨by omega, ?_⟩) | (intro _)
   all_goals (refine hK _ ?_; clear hK K)
   all_goals
    refine zbn (zb0 ?_)
    simp (disch := omega) [DtCall.cells]
    all_goals first | (exact zcp heq) | (refine zce fun heq => ?_; subst heq; simp_all [zbe, zbc, zbv]; done) | (refine (zce fun heq => ?_).symm; subst heq; simp_all [zbe, zbc, zbv]; done) | simp_all [zbv]
theorem zza (xs : List Int) (hs : (xs.length : Int) ≤ 1048576) : PCall Try.prog 36 [.sl 1 (xs.map cI)] (.sl 1 (xs.map cI)) := by
 have hn : xs.length ≤ 1048576 := by omega
 refine zbq Try.func36 (by rfl) (by rfl) (by rw [Try.ntmps36]; exact Nat.le_of_ble_eq_true rfl) rfl (by decide) ?_
 rw [Try.ntmps36]
 refine AW_k [(0, _)] ⟨rfl, trivial⟩ ?_
 refine AW_r rfl rfl fun K hK => ?_
 simp (disch := omega)
 repeat' first | (refine ⟨by omega, ?_⟩) | (intro _)
 refine hK _ ?_; clear hK K
 refine AW_r rfl rfl fun K hK => ?_
 simp (disch := omega)
 repeat' first | (refine ⟨by omega, ?_⟩) | (intro _)
 refine hK _ ?_; clear hK K
 refine zbl ?_
 refine AW_r rfl rfl fun K hK => ?_
 simp (disch := omega)
 repeat' first | (refine ⟨by omega, ?_⟩) | (intro _)
 refine hK _ ?_; clear hK K
 refine zbs ?_
 refine zb3 (fun mM sS => ∃ (i : Nat) (ys : List (List AV)), mM = xs.length - i ∧ (i ≤ xs.length ∧ ys.length = xs.length ∧ (∀ j, j < i → ys[j]? = (xs.map cI)[j]?) ∧ (∀ y ∈ ys, y.length = 1)) ∧ sS = { env := lkE [(0, .sl 1 (xs.map cI)), (3, .arr 128 0 xs.length), (4, (.g (.int .i64 ((i : Nat)))))], ob := upd (formOb [] []) 128 (some (.flat 1 ys)) }) ?_ ?_
 ·refine ⟨_, LeS.kp [(0, .sl 1 (xs.map cI)), (3, .arr 128 0 xs.length), (4, (.g (.int .i64 (((0) : Nat)))))] (by simp [KpE, zbf, zbt, zbd]; try rfl), _, 0, List.replicate xs.length [.g (.int .i64 0)], rfl, ?_, rfl⟩
  ·simp
 ·rintro mM sS ⟨i, ys, rfl, ⟨hi, hl, hpre, hone⟩, rfl⟩
  refine zbl ?_
  refine AW_r rfl rfl fun K hK => ?_
  simp (disch := omega) [cI]
  repeat' first | (refine ⟨by omega, ?_⟩) | (intro _)
  refine hK _ ?_; clear hK K
  refine zbk rfl (fun hc74 => ?_) (fun hc74 => ?_)
  ·try simp at hc74
   all_goals
    obtain ⟨c1, h6⟩ : ∃ c1, ys[i]'(by omega) = [c1] := List.length_eq_one_iff.1 (hone _ (List.getElem_mem _))
    refine zbm ?_
    refine zbr ?_
    refine zbl ?_
    refine zbs ?_
    refine zc1 rfl rfl fun K hK => ?_
    simp (disch := omega) [cI, h6]
    repeat' first | (exfalso; omega) | (refine ⟨fun _ => ?_, fun _ => ?_⟩) | (refine ⟨by omega, ?_⟩) | (intro _)
    all_goals (refine hK _ ?_; clear hK K)
    all_goals
     refine zbr ?_
     refine zc1 rfl rfl fun K hK => ?_
     simp (disch := omega) [cI, h6]
     repeat' first | (refine ⟨by omega, ?_⟩) | (intro _)
     refine hK _ ?_; clear hK K
     refine ⟨_, LeS.kp [(0, .sl 1 (xs.map cI)), (3, .arr 128 0 xs.length), (4, (.g (.int .i64 (((i + 1) : Nat)))))] (by simp [KpE, zbf, zbt, zbd]; try rfl), _, ?_, i + 1, ys.set i (cI xs[i]), rfl, ?_, ?_⟩
     ·omega
     ·refine ⟨by omega, by simpa using hl, fun j hj => ?_, fun y hy => ?_⟩
      ·by_cases hji : j = i
       ·subst hji; rw [List.getElem?_set_self (by omega), List.getElem?_map, List.getElem?_eq_getElem (by omega)]; rfl
       ·rw [List.getElem?_set_ne (by omega)]; exact hpre j (by omega)
      ·rcases List.mem_or_eq_of_mem_set hy with hy | rfl
       ·exact hone y hy
       ·rfl
     ·simp [cI]
  try simp at hc74
  have hi2 : i = xs.length := by omega
  subst hi2
  have hys : ys = xs.map cI := List.ext_getElem? fun j => by
   by_cases hj : j < xs.length
   ·exact hpre j hj
   ·rw [List.getElem?_eq_none (by omega), List.getElem?_eq_none (by simp; omega)]
  subst hys
  refine zb8 ?_
  refine zbr ?_
  refine AW_r rfl rfl fun K hK => ?_
  simp (disch := omega) [cI]
  repeat' first | (exfalso; omega) | (refine ⟨fun _ => ?_, fun _ => ?_⟩) | (refine ⟨by omega, ?_⟩) | (intro _)
  all_goals (refine hK _ ?_; clear hK K)
  all_goals
   refine zbn (zb0 ?_)
   simp (disch := omega) [cI]
   all_goals first | omega | (simp_all; done) | (simp [List.take_of_length_le]; done) | ((try simp_all); (try simp (disch := omega) only [zbo, Int.tdiv_eq_ediv_of_nonneg, Int.tmod_eq_emod_of_nonneg, and_true, true_and]); done) | ((try simp_all); (try simp (disch := omega) only [zbo, Int.tdiv_eq_ediv_of_nonneg, Int.tmod_eq_emod_of_nonneg, and_true, true_and] at *); omega)
theorem eqIntS (xs ys : List Int) (hs : (xs.length : Int) ≤ 1048576) : PCall Try.prog 39 [.sl 1 (xs.map cI), .sl 1 (ys.map cI)] (.g (.bool (eqB xs ys))) := by
 have hn : xs.length ≤ 1048576 := by omega
 refine zbq Try.func39 (by rfl) (by rfl) (by rw [Try.ntmps39]; exact Nat.le_of_ble_eq_true rfl) rfl (by decide) ?_
 rw [Try.ntmps39]
 refine AW_k [(0, _), (1, _)] ⟨rfl, rfl, trivial⟩ ?_
 refine AW_r rfl rfl fun K hK => ?_
 simp (disch := omega)
 repeat' first | (refine ⟨by omega, ?_⟩) | (intro _)
 refine hK _ ?_; clear hK K
 refine zbl ?_
 refine AW_r rfl rfl fun K hK => ?_
 simp (disch := omega)
 repeat' first | (refine ⟨by omega, ?_⟩) | (intro _)
 refine hK _ ?_; clear hK K
 refine zbk rfl (fun hc75 => ?_) (fun hc75 => ?_)
 ·try simp at hc75
  all_goals
   refine AW_r rfl rfl fun K hK => ?_
   simp (disch := omega)
   repeat' first | (exfalso; omega) | (refine ⟨fun _ => ?_, fun _ => ?_⟩) | (refine ⟨by omega, ?_⟩) | (intro _)
   all_goals (refine hK _ ?_; clear hK K)
   all_goals
    refine zbn (zb0 ?_)
    simp (disch := omega)
    all_goals first | (exact zcp heq) | (refine zce fun heq => ?_; subst heq; simp_all [zbe, zbc, zbv]; done) | (refine (zce fun heq => ?_).symm; subst heq; simp_all [zbe, zbc, zbv]; done) | simp_all [zbv]
 try simp at hc75
 refine zbm ?_
 refine zbr ?_
 refine zbl ?_
 refine AW_r rfl rfl fun K hK => ?_
 simp (disch := omega)
 repeat' first | (exfalso; omega) | (refine ⟨fun _ => ?_, fun _ => ?_⟩) | (refine ⟨by omega, ?_⟩) | (intro _)
 all_goals (refine hK _ ?_; clear hK K)
 all_goals
  refine zbs ?_
  refine zb3 (fun mM sS => ∃ (i : Nat), mM = xs.length - i ∧ (i ≤ xs.length ∧ ∀ j, j < i → xs[j]? = ys[j]?) ∧ sS = { env := lkE [(0, .sl 1 (xs.map cI)), (1, .sl 1 (ys.map cI)), (5, (.g (.int .i64 ((i : Nat)))))], ob := formOb [] [] }) ?_ ?_
  ·refine ⟨_, LeS.kp [(0, .sl 1 (xs.map cI)), (1, .sl 1 (ys.map cI)), (5, (.g (.int .i64 (((0) : Nat)))))] (by simp [KpE, zbf, zbt, zbd]; try rfl), _, 0, rfl, ?_, rfl⟩
   ·simp
  ·rintro mM sS ⟨i, rfl, ⟨hi, hpre⟩, rfl⟩
   refine zbl ?_
   refine AW_r rfl rfl fun K hK => ?_
   simp (disch := omega) [cI]
   repeat' first | (refine ⟨by omega, ?_⟩) | (intro _)
   refine hK _ ?_; clear hK K
   refine zbk rfl (fun hc76 => ?_) (fun hc76 => ?_)
   ·try simp at hc76
    all_goals
     have h7 : i < ys.length := by omega
     refine zbm ?_
     refine zbr ?_
     refine zbl ?_
     refine zbs ?_
     refine AW_q rfl mix (by kernel_rfl) rfl fun K hK => ?_
     simp (disch := omega) [cI]
     repeat' first | (exfalso; omega) | (refine ⟨fun _ => ?_, fun _ => ?_⟩) | (refine ⟨by omega, ?_⟩) | (intro _)
     all_goals (refine hK _ ?_; clear hK K)
     all_goals
      refine zbk rfl (fun hc77 => ?_) (fun hc77 => ?_)
      ·try simp at hc77
       all_goals
        refine AW_r rfl rfl fun K hK => ?_
        simp (disch := omega) [cI]
        repeat' first | (exfalso; omega) | (refine ⟨fun _ => ?_, fun _ => ?_⟩) | (refine ⟨by omega, ?_⟩) | (intro _)
        all_goals (refine hK _ ?_; clear hK K)
        all_goals
         refine zbn (zb0 ?_)
         simp (disch := omega) [cI]
         all_goals first | (exact zcp heq) | (refine zce fun heq => ?_; subst heq; simp_all [zbe, zbc, zbv]; done) | (refine (zce fun heq => ?_).symm; subst heq; simp_all [zbe, zbc, zbv]; done) | simp_all [zbv]
      try simp at hc77
      refine zbm ?_
      refine zbr ?_
      refine zc1 rfl rfl fun K hK => ?_
      simp (disch := omega) [cI]
      repeat' first | (exfalso; omega) | (refine ⟨fun _ => ?_, fun _ => ?_⟩) | (refine ⟨by omega, ?_⟩) | (intro _)
      all_goals (refine hK _ ?_; clear hK K)
      all_goals
       refine ⟨_, LeS.kp [(0, .sl 1 (xs.map cI)), (1, .sl 1 (ys.map cI)), (5, (.g (.int .i64 (((i + 1) : Nat)))))] (by simp [KpE, zbf, zbt, zbd]; try rfl), _, ?_, i + 1, rfl, ?_, rfl⟩
       ·omega
       ·refine ⟨by omega, fun j hj => ?_⟩
        by_cases hji : j = i
        ·subst hji; simp_all [zbe, zbc]
        ·exact hpre j (by omega)
   try simp at hc76
   have hi2 : i = xs.length := by omega
   subst hi2
   have heq : xs = ys := List.ext_getElem? fun j => by
    by_cases hj : j < xs.length
    ·exact hpre j hj
    ·rw [List.getElem?_eq_none (by omega), List.getElem?_eq_none (by omega)]
   refine zb8 ?_
   refine zbr ?_
   refine AW_r rfl rfl fun K hK => ?_
   simp (disch := omega) [cI]
   repeat' first | (exfalso; omega) | (refine ⟨fun _ => ?_, fun _ => ?_⟩) | (refine ⟨by omega, ?_⟩) | (intro _)
   all_goals (refine hK _ ?_; clear hK K)
   all_goals
    refine zbn (zb0 ?_)
    simp (disch := omega) [cI]
    all_goals first | (exact zcp heq) | (refine zce fun heq => ?_; subst heq; simp_all [zbe, zbc, zbv]; done) | (refine (zce fun heq => ?_).symm; subst heq; simp_all [zbe, zbc, zbv]; done) | simp_all [zbv]
end Go.Proofs.Ytmheohnbkaoipaa.Vs
