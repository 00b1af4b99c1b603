import Derived.Test.YtmheohnbkaoipaaSFiW
open Go Go.Proofs Go.Proofs.Ytmheohnbkaoipaa.Vs
namespace Go.Proofs.Ytmheohnbkaoipaa.Vs
set_option linter.all false
set_option linter.unusedSimpArgs false
set_option linter.unusedVariables false
set_option maxRecDepth 100000
set_option maxHeartbeats 2000000
theorem zz2 (l : List DtCall) (o : List Int) : decB (CallsP l ∧ o.length = l.length ∧ FitsP l o) = decB (CallsP l ∧ o.length = l.length ∧ FitsQ l o) := by
 rw [Bool.eq_iff_iff, zba, zba]
 exact ⟨fun h => ⟨h.1, h.2.1, (ztw h.2.1).1 h.2.2⟩, fun h => ⟨h.1, h.2.1, (ztw h.2.1).2 h.2.2⟩⟩
theorem zz3 (l : List DtCall) (hs : szS DtCall.sz l ≤ 1048576) (o : List Int) (ho : o.length ≤ 1048576) : PCall Try.prog 37 [.sl 11 (l.map DtCall.cells), .sl 1 (o.map cI)] (.g (.bool (decB (CallsP l ∧ o.length = l.length ∧ FitsQ l o)))) := by
 have h := zmn (implFits l hs o ho)
 rwa [zz2] at h
theorem lawFits (l : List DtCall) (hw : wfS DtCall.wf l) (o : List Int) (hwo : wfS wfI o) : PCall Try.prog 6 [.sl 11 (l.map DtCall.cells), .sl 1 (o.map cI)] (.g (.bool (true))) := by
 have hq := zdg DtCall.sz_nonneg l
 by_cases ho : (o.length : Int) > 1048576
 ·have hoo : ((1048576 : Int) < o.length) = True := eq_true ho
  refine zbq Try.func6 (by rfl) (by rfl) (by rw [Try.ntmps6]; exact Nat.le_of_ble_eq_true rfl) rfl (by decide) ?_
  rw [Try.ntmps6]
  refine AW_k [(0, _), (1, _)] ⟨rfl, rfl, trivial⟩ ?_
  refine AW_r rfl rfl fun K hK => ?_
  simp (disch := omega) [hoo]
  repeat' first | (refine ⟨by omega, ?_⟩) | (intro _)
  refine hK _ ?_; clear hK K
  refine zbl ?_
  refine AW_r rfl rfl fun K hK => ?_
  simp (disch := omega) [hoo]
  repeat' first | (refine ⟨by omega, ?_⟩) | (intro _)
  refine hK _ ?_; clear hK K
  refine zbk rfl (fun hc1 => ?_) (fun hc1 => ?_)
  ·try simp [zba, zbb, zbe, zbc] at hc1
   all_goals
    refine AW_r rfl rfl fun K hK => ?_
    simp (disch := omega) [hoo]
    repeat' first | (exfalso; omega) | (refine ⟨fun _ => ?_, fun _ => ?_⟩) | (refine ⟨by omega, ?_⟩) | (intro _)
    all_goals (refine hK _ ?_; clear hK K)
    all_goals
     refine zbn (zb0 ?_)
     simp (disch := omega) [hoo]
     all_goals first | omega | (simp_all; done) | (simp [List.take_of_length_le]; done) | ((try simp_all); (try simp (disch := omega) only [zbo, Int.tdiv_eq_ediv_of_nonneg, Int.tmod_eq_emod_of_nonneg, and_true, true_and]); done) | ((try simp_all); (try simp (disch := omega) only [zbo, Int.tdiv_eq_ediv_of_nonneg, Int.tmod_eq_emod_of_nonneg, and_true, true_and] at *); omega)
  try simp [zba, zbb, zbe, zbc] at hc1
 ·have hoo : ((1048576 : Int) < o.length) = False := eq_false ho
  by_cases h : (1048576 : Int) - szS DtCall.sz l < 0
  ·have e : szR 1048576 (szS DtCall.sz l) = -1 := by unfold szR; rw [if_pos h]
   refine zbq Try.func6 (by rfl) (by rfl) (by rw [Try.ntmps6]; exact Nat.le_of_ble_eq_true rfl) rfl (by decide) ?_
   rw [Try.ntmps6]
   refine AW_k [(0, _), (1, _)] ⟨rfl, rfl, trivial⟩ ?_
   refine AW_r rfl rfl fun K hK => ?_
   simp (disch := omega) [e, hoo]
   repeat' first | (exfalso; omega) | (refine ⟨fun _ => ?_, fun _ => ?_⟩) | (refine ⟨by omega, ?_⟩) | (intro _)
   all_goals (refine hK _ ?_; clear hK K)
   all_goals
    refine zbl ?_
    refine AW_r rfl rfl fun K hK => ?_
    simp (disch := omega) [e, hoo]
    repeat' first | (refine ⟨by omega, ?_⟩) | (intro _)
    refine hK _ ?_; clear hK K
    refine zbk rfl (fun hc2 => ?_) (fun hc2 => ?_)
    ·try simp [zba, zbb, zbe, zbc] at hc2
     all_goals
      refine AW_r rfl rfl fun K hK => ?_
      simp (disch := omega) [e, hoo]
      repeat' first | (exfalso; omega) | (refine ⟨fun _ => ?_, fun _ => ?_⟩) | (refine ⟨by omega, ?_⟩) | (intro _)
      all_goals (refine hK _ ?_; clear hK K)
      all_goals
       refine zbn (zb0 ?_)
       simp (disch := omega) [e, hoo]
       all_goals first | omega | (simp_all; done) | (simp [List.take_of_length_le]; done) | ((try simp_all); (try simp (disch := omega) only [zbo, Int.tdiv_eq_ediv_of_nonneg, Int.tmod_eq_emod_of_nonneg, and_true, true_and]); done) | ((try simp_all); (try simp (disch := omega) only [zbo, Int.tdiv_eq_ediv_of_nonneg, Int.tmod_eq_emod_of_nonneg, and_true, true_and] at *); omega)
    try simp [zba, zbb, zbe, zbc] at hc2
    refine zbm ?_
    refine zbr ?_
    refine AW_r rfl rfl fun K hK => ?_
    simp (disch := omega) [e, hoo]
    repeat' first | (exfalso; omega) | (refine ⟨fun _ => ?_, fun _ => ?_⟩) | (refine ⟨by omega, ?_⟩) | (intro _)
    all_goals (refine hK _ ?_; clear hK K)
    all_goals
     refine AW_r rfl rfl fun K hK => ?_
     simp (disch := omega) [e, hoo]
     repeat' first | (exfalso; omega) | (refine zcx (zbh zcs (zbh zct zbp)) (zx9 _ _ (by omega) hw) rfl ?_; simp (disch := omega) [e, hoo]) | (refine ⟨by omega, ?_⟩) | (intro _)
     refine hK _ ?_; clear hK K
     refine zbl ?_
     refine AW_r rfl rfl fun K hK => ?_
     simp (disch := omega) [e, hoo]
     repeat' first | (refine ⟨by omega, ?_⟩) | (intro _)
     refine hK _ ?_; clear hK K
     refine zbk rfl (fun hc3 => ?_) (fun hc3 => ?_)
     ·try simp [zba, zbb, zbe, zbc] at hc3
      all_goals
       refine AW_r rfl rfl fun K hK => ?_
       simp (disch := omega) [e, hoo]
       repeat' first | (exfalso; omega) | (refine ⟨fun _ => ?_, fun _ => ?_⟩) | (refine ⟨by omega, ?_⟩) | (intro _)
       all_goals (refine hK _ ?_; clear hK K)
       all_goals
        refine zbn (zb0 ?_)
        simp (disch := omega) [e, hoo]
        all_goals first | omega | (simp_all; done) | (simp [List.take_of_length_le]; done) | ((try simp_all); (try simp (disch := omega) only [zbo, Int.tdiv_eq_ediv_of_nonneg, Int.tmod_eq_emod_of_nonneg, and_true, true_and]); done) | ((try simp_all); (try simp (disch := omega) only [zbo, Int.tdiv_eq_ediv_of_nonneg, Int.tmod_eq_emod_of_nonneg, and_true, true_and] at *); omega)
     try simp [zba, zbb, zbe, zbc] at hc3
  ·have e : szR 1048576 (szS DtCall.sz l) = 1048576 - szS DtCall.sz l := by unfold szR; rw [if_neg h]
   have e2 : (0 : Int) ≤ 1048576 - szS DtCall.sz l := by omega
   refine zbq Try.func6 (by rfl) (by rfl) (by rw [Try.ntmps6]; exact Nat.le_of_ble_eq_true rfl) rfl (by decide) ?_
   rw [Try.ntmps6]
   refine AW_k [(0, _), (1, _)] ⟨rfl, rfl, trivial⟩ ?_
   refine AW_r rfl rfl fun K hK => ?_
   simp (disch := omega) [e, e2, hoo, zbv]
   repeat' first | (exfalso; omega) | (refine ⟨fun _ => ?_, fun _ => ?_⟩) | (refine ⟨by omega, ?_⟩) | (intro _)
   all_goals (refine hK _ ?_; clear hK K)
   all_goals
    refine zbl ?_
    refine AW_r rfl rfl fun K hK => ?_
    simp (disch := omega) [e, e2, hoo, zbv]
    repeat' first | (refine ⟨by omega, ?_⟩) | (intro _)
    refine hK _ ?_; clear hK K
    refine zbk rfl (fun hc4 => ?_) (fun hc4 => ?_)
    ·try simp [zba, zbb, zbe, zbc] at hc4
     all_goals
      refine AW_r rfl rfl fun K hK => ?_
      simp (disch := omega) [e, e2, hoo, zbv]
      repeat' first | (exfalso; omega) | (refine ⟨fun _ => ?_, fun _ => ?_⟩) | (refine ⟨by omega, ?_⟩) | (intro _)
      all_goals (refine hK _ ?_; clear hK K)
      all_goals
       refine zbn (zb0 ?_)
       simp (disch := omega) [e, e2, hoo, zbv]
       all_goals first | omega | (simp_all; done) | (simp [List.take_of_length_le]; done) | ((try simp_all); (try simp (disch := omega) only [zbo, Int.tdiv_eq_ediv_of_nonneg, Int.tmod_eq_emod_of_nonneg, and_true, true_and]); done) | ((try simp_all); (try simp (disch := omega) only [zbo, Int.tdiv_eq_ediv_of_nonneg, Int.tmod_eq_emod_of_nonneg, and_true, true_and] at *); omega)
    try simp [zba, zbb, zbe, zbc] at hc4
    refine zbm ?_
    refine zbr ?_
    refine AW_r rfl rfl fun K hK => ?_
    simp (disch := omega) [e, e2, hoo, zbv]
    repeat' first | (exfalso; omega) | (refine ⟨fun _ => ?_, fun _ => ?_⟩) | (refine ⟨by omega, ?_⟩) | (intro _)
    all_goals (refine hK _ ?_; clear hK K)
    all_goals
     refine AW_r rfl rfl fun K hK => ?_
     simp (disch := omega) [e, e2, hoo, zbv]
     repeat' first | (exfalso; omega) | (refine zcx (zbh zcs (zbh zct zbp)) (zx9 _ _ (by omega) hw) rfl ?_; simp (disch := omega) [e, e2, hoo, zbv]) | (refine ⟨by omega, ?_⟩) | (intro _)
     refine hK _ ?_; clear hK K
     refine zbl ?_
     refine AW_r rfl rfl fun K hK => ?_
     simp (disch := omega) [e, e2, hoo, zbv]
     repeat' first | (refine ⟨by omega, ?_⟩) | (intro _)
     refine hK _ ?_; clear hK K
     refine zbk rfl (fun hc5 => ?_) (fun hc5 => ?_)
     ·try simp [zba, zbb, zbe, zbc] at hc5
      all_goals
       refine AW_r rfl rfl fun K hK => ?_
       simp (disch := omega) [e, e2, hoo, zbv]
       repeat' first | (exfalso; omega) | (refine ⟨fun _ => ?_, fun _ => ?_⟩) | (refine ⟨by omega, ?_⟩) | (intro _)
       all_goals (refine hK _ ?_; clear hK K)
       all_goals
        refine zbn (zb0 ?_)
        simp (disch := omega) [e, e2, hoo, zbv]
        all_goals first | omega | (simp_all; done) | (simp [List.take_of_length_le]; done) | ((try simp_all); (try simp (disch := omega) only [zbo, Int.tdiv_eq_ediv_of_nonneg, Int.tmod_eq_emod_of_nonneg, and_true, true_and]); done) | ((try simp_all); (try simp (disch := omega) only [zbo, Int.tdiv_eq_ediv_of_nonneg, Int.tmod_eq_emod_of_nonneg, and_true, true_and] at *); omega)
     try simp [zba, zbb, zbe, zbc] at hc5
     refine zbm ?_
     refine zbr ?_
     refine AW_r rfl rfl fun K hK => ?_
     simp (disch := omega) [e, e2, hoo, zbv]
     repeat' first | (exfalso; omega) | (refine zcx (zbh zcs zbp) (zr8 _ (by omega)) rfl ?_; simp (disch := omega) [e, e2, hoo, zbv]) | (refine zcx (zbh zcs zbp) (zza _ (by omega)) rfl ?_; simp (disch := omega) [e, e2, hoo, zbv]) | (refine zcx (zbh zcs (zbh zcs zbp)) (zmn (specFits l (by omega) o (by omega))) rfl ?_; simp (disch := omega) [e, e2, hoo, zbv]) | (refine ⟨fun _ => ?_, fun _ => ?_⟩) | (refine ⟨by omega, ?_⟩) | (intro _)
     all_goals (refine hK _ ?_; clear hK K)
     all_goals
      refine AW_r rfl rfl fun K hK => ?_
      simp (disch := omega) [e, e2, hoo, zbv]
      repeat' first | (exfalso; omega) | (refine zcx (zbh zcs zbp) (zr8 _ (by omega)) rfl ?_; simp (disch := omega) [e, e2, hoo, zbv]) | (refine ⟨by omega, ?_⟩) | (intro _)
      refine hK _ ?_; clear hK K
      refine AW_r rfl rfl fun K hK => ?_
      simp (disch := omega) [e, e2, hoo, zbv]
      repeat' first | (exfalso; omega) | (refine zcx (zbh zcs zbp) (zza _ (by omega)) rfl ?_; simp (disch := omega) [e, e2, hoo, zbv]) | (refine ⟨by omega, ?_⟩) | (intro _)
      refine hK _ ?_; clear hK K
      refine AW_r rfl rfl fun K hK => ?_
      simp (disch := omega) [e, e2, hoo, zbv]
      repeat' first | (exfalso; omega) | (refine zcx (zbh zcs (zbh zcs zbp)) (zz3 l (by omega) o (by omega)) rfl ?_; simp (disch := omega) [e, e2, hoo, zbv]) | (refine ⟨by omega, ?_⟩) | (intro _)
      refine hK _ ?_; clear hK K
      refine zbl ?_
      refine AW_r rfl rfl fun K hK => ?_
      simp (disch := omega) [e, e2, hoo, zbv]
      repeat' first | (refine ⟨by omega, ?_⟩) | (intro _)
      refine hK _ ?_; clear hK K
      refine zbk rfl (fun hc6 => ?_) (fun hc6 => ?_)
      ·try simp [zba, zbb, zbe, zbc] at hc6
       all_goals
        refine AW_r rfl rfl fun K hK => ?_
        simp (disch := omega) [e, e2, hoo, zbv]
        repeat' first | (exfalso; omega) | (refine ⟨fun _ => ?_, fun _ => ?_⟩) | (refine ⟨by omega, ?_⟩) | (intro _)
        all_goals (refine hK _ ?_; clear hK K)
        all_goals
         refine zbn (zb0 ?_)
         simp (disch := omega) [e, e2, hoo, zbv]
         all_goals first | omega | (simp_all; done) | (simp [List.take_of_length_le]; done) | ((try simp_all); (try simp (disch := omega) only [zbo, Int.tdiv_eq_ediv_of_nonneg, Int.tmod_eq_emod_of_nonneg, and_true, true_and]); done) | ((try simp_all); (try simp (disch := omega) only [zbo, Int.tdiv_eq_ediv_of_nonneg, Int.tmod_eq_emod_of_nonneg, and_true, true_and] at *); omega)
      try simp [zba, zbb, zbe, zbc] at hc6
      refine zbm ?_
      refine zbr ?_
      refine zbl ?_
      refine AW_r rfl rfl fun K hK => ?_
      simp (disch := omega) [e, e2, hoo, zbv]
      repeat' first | (exfalso; omega) | (refine zcx (zbh zcs zbp) (zr8 _ (by omega)) rfl ?_; simp (disch := omega) [e, e2, hoo, zbv]) | (refine zcx (zbh zcs (zbh zcs zbp)) (eqCallS _ _ (by omega)) rfl ?_; simp (disch := omega) [e, e2, hoo, zbv]) | (refine ⟨fun _ => ?_, fun _ => ?_⟩) | (refine ⟨by omega, ?_⟩) | (intro _)
      all_goals (refine hK _ ?_; clear hK K)
      all_goals
       refine zbk rfl (fun hc7 => ?_) (fun hc7 => ?_)
       ·try simp [zba, zbb, zbe, zbc] at hc7
        all_goals
         refine AW_r rfl rfl fun K hK => ?_
         simp (disch := omega) [e, e2, hoo, zbv]
         repeat' first | (exfalso; omega) | (refine ⟨fun _ => ?_, fun _ => ?_⟩) | (refine ⟨by omega, ?_⟩) | (intro _)
         all_goals (refine hK _ ?_; clear hK K)
         all_goals
          refine zbn (zb0 ?_)
          simp (disch := omega) [e, e2, hoo, zbv]
          all_goals first | omega | (simp_all; done) | (simp [List.take_of_length_le]; done) | ((try simp_all); (try simp (disch := omega) only [zbo, Int.tdiv_eq_ediv_of_nonneg, Int.tmod_eq_emod_of_nonneg, and_true, true_and]); done) | ((try simp_all); (try simp (disch := omega) only [zbo, Int.tdiv_eq_ediv_of_nonneg, Int.tmod_eq_emod_of_nonneg, and_true, true_and] at *); omega)
       try simp [zba, zbb, zbe, zbc] at hc7
       refine zbm ?_
       refine zbr ?_
       refine zbl ?_
       refine AW_r rfl rfl fun K hK => ?_
       simp (disch := omega) [e, e2, hoo, zbv]
       repeat' first | (exfalso; omega) | (refine zcx (zbh zcs zbp) (zza _ (by omega)) rfl ?_; simp (disch := omega) [e, e2, hoo, zbv]) | (refine zcx (zbh zcs (zbh zcs zbp)) (eqIntS _ _ (by omega)) rfl ?_; simp (disch := omega) [e, e2, hoo, zbv]) | (refine ⟨fun _ => ?_, fun _ => ?_⟩) | (refine ⟨by omega, ?_⟩) | (intro _)
       all_goals (refine hK _ ?_; clear hK K)
       all_goals
        refine zbk rfl (fun hc8 => ?_) (fun hc8 => ?_)
        ·try simp [zba, zbb, zbe, zbc] at hc8
         all_goals
          refine AW_r rfl rfl fun K hK => ?_
          simp (disch := omega) [e, e2, hoo, zbv]
          repeat' first | (exfalso; omega) | (refine ⟨fun _ => ?_, fun _ => ?_⟩) | (refine ⟨by omega, ?_⟩) | (intro _)
          all_goals (refine hK _ ?_; clear hK K)
          all_goals
           refine zbn (zb0 ?_)
           simp (disch := omega) [e, e2, hoo, zbv]
           all_goals first | omega | (simp_all; done) | (simp [List.take_of_length_le]; done) | ((try simp_all); (try simp (disch := omega) only [zbo, Int.tdiv_eq_ediv_of_nonneg, Int.tmod_eq_emod_of_nonneg, and_true, true_and]); done) | ((try simp_all); (try simp (disch := omega) only [zbo, Int.tdiv_eq_ediv_of_nonneg, Int.tmod_eq_emod_of_nonneg, and_true, true_and] at *); omega)
        try simp [zba, zbb, zbe, zbc] at hc8
        refine zbm ?_
        refine zbr ?_
        refine AW_r rfl rfl fun K hK => ?_
        simp (disch := omega) [e, e2, hoo, zbv]
        repeat' first | (exfalso; omega) | (refine ⟨fun _ => ?_, fun _ => ?_⟩) | (refine ⟨by omega, ?_⟩) | (intro _)
        all_goals (refine hK _ ?_; clear hK K)
        all_goals
         refine zbn (zb0 ?_)
         simp (disch := omega) [e, e2, hoo, zbv]
         all_goals first | omega | (simp_all; done) | (simp [List.take_of_length_le]; done) | ((try simp_all); (try simp (disch := omega) only [zbo, Int.tdiv_eq_ediv_of_nonneg, Int.tmod_eq_emod_of_nonneg, and_true, true_and]); done) | ((try simp_all); (try simp (disch := omega) only [zbo, Int.tdiv_eq_ediv_of_nonneg, Int.tmod_eq_emod_of_nonneg, and_true, true_and] at *); omega)
end Go.Proofs.Ytmheohnbkaoipaa.Vs
