import Derived.Test.YtmheohnbkaoipaaSPsQ
open Go Go.Proofs Go.Proofs.Ytmheohnbkaoipaa.Vs
namespace Go.Proofs.Ytmheohnbkaoipaa.Vs
set_option linter.all false
set_option linter.unusedSimpArgs false
set_option linter.unusedVariables false
set_option maxRecDepth 100000
set_option maxHeartbeats 4000000
theorem zgh (xs ys : List (List UInt8)) (hn : xs.length ≤ 1048576) : PCall Try.prog 23 [.sl 1 (xs.map cS), .sl 1 (ys.map cS)] (.g (.bool (eqB xs ys))) := by
 refine zbv Try.func23 (by rfl) (by rfl) (by rw [Try.ntmps23]; exact Nat.le_of_ble_eq_true rfl) rfl (by decide) ?_
 rw [Try.ntmps23]
 refine AW_k [(0, _), (1, _)] ⟨rfl, rfl, trivial⟩ ?_
 refine AW_r rfl rfl fun K hK => ?_
 simp (disch := omega)
 repeat' first | (refine ⟨by omega, ?_⟩) | (intro _)
 refine hK _ ?_; clear hK K
 refine zbm ?_
 refine AW_r rfl rfl fun K hK => ?_
 simp (disch := omega)
 repeat' first | (refine ⟨by omega, ?_⟩) | (intro _)
 refine hK _ ?_; clear hK K
 refine zbl rfl (fun hc1 => ?_) (fun hc1 => ?_)
 ·try simp [zba, zbb, zbe, zbc] at hc1
  all_goals
   refine AW_r rfl rfl fun K hK => ?_
   simp (disch := omega)
   repeat' first | (exfalso; omega) | (refine ⟨fun _ => ?_, fun _ => ?_⟩) | (refine ⟨by omega, ?_⟩) | (intro _)
   all_goals (refine hK _ ?_; clear hK K)
   all_goals
    refine zbo (zb5 ?_)
    simp (disch := omega)
    all_goals first | (exact zcb heq) | (refine zb6 fun heq => ?_; subst heq; simp_all [zbe, zbc, zbw]; done) | (refine (zb6 fun heq => ?_).symm; subst heq; simp_all [zbe, zbc, zbw]; done) | trace_state
 try simp [zba, zbb, zbe, zbc] at hc1
 refine zbn ?_
 refine zbr ?_
 refine zbm ?_
 refine AW_r rfl rfl fun K hK => ?_
 simp (disch := omega)
 repeat' first | (exfalso; omega) | (refine ⟨fun _ => ?_, fun _ => ?_⟩) | (refine ⟨by omega, ?_⟩) | (intro _)
 all_goals (refine hK _ ?_; clear hK K)
 all_goals
  refine zbs ?_
  refine zb4 (fun mM sS => ∃ (i : Nat), mM = xs.length - i ∧ (i ≤ xs.length ∧ ∀ j, j < i → xs[j]? = ys[j]?) ∧ sS = { env := lkE [(0, .sl 1 (xs.map cS)), (1, .sl 1 (ys.map cS)), (5, (.g (.int .i64 ((i : Nat)))))], ob := formOb [] [] }) ?_ ?_
  ·refine ⟨_, LeS.kp [(0, .sl 1 (xs.map cS)), (1, .sl 1 (ys.map cS)), (5, (.g (.int .i64 (((0) : Nat)))))] (by simp [KpE, zbf, zbt, zbd]; try rfl), _, 0, rfl, ?_, rfl⟩
   ·simp
  ·rintro mM sS ⟨i, rfl, ⟨hi, hpre⟩, rfl⟩
   refine zbm ?_
   refine AW_r rfl rfl fun K hK => ?_
   simp (disch := omega) [cS]
   repeat' first | (refine ⟨by omega, ?_⟩) | (intro _)
   refine hK _ ?_; clear hK K
   refine zbl rfl (fun hc2 => ?_) (fun hc2 => ?_)
   ·try simp [zba, zbb, zbe, zbc] at hc2
    all_goals
     have h7 : i < ys.length := by omega
     refine zbn ?_
     refine zbr ?_
     refine zbm ?_
     refine zbs ?_
     refine AW_q rfl mix (by kernel_rfl) rfl fun K hK => ?_
     simp (disch := omega) [cS]
     repeat' first | (exfalso; omega) | (refine ⟨fun _ => ?_, fun _ => ?_⟩) | (refine ⟨by omega, ?_⟩) | (intro _)
     all_goals (refine hK _ ?_; clear hK K)
     all_goals
      refine zbl rfl (fun hc3 => ?_) (fun hc3 => ?_)
      ·try simp [zba, zbb, zbe, zbc] at hc3
       all_goals
        refine AW_r rfl rfl fun K hK => ?_
        simp (disch := omega) [cS]
        repeat' first | (exfalso; omega) | (refine ⟨fun _ => ?_, fun _ => ?_⟩) | (refine ⟨by omega, ?_⟩) | (intro _)
        all_goals (refine hK _ ?_; clear hK K)
        all_goals
         refine zbo (zb5 ?_)
         simp (disch := omega) [cS]
         all_goals first | (exact zcb heq) | (refine zb6 fun heq => ?_; subst heq; simp_all [zbe, zbc, zbw]; done) | (refine (zb6 fun heq => ?_).symm; subst heq; simp_all [zbe, zbc, zbw]; done) | trace_state
      try simp [zba, zbb, zbe, zbc] at hc3
      refine zbn ?_
      refine zbr ?_
      refine zc6 rfl rfl fun K hK => ?_
      simp (disch := omega) [cS]
      repeat' first | (exfalso; omega) | (refine ⟨fun _ => ?_, fun _ => ?_⟩) | (refine ⟨by omega, ?_⟩) | (intro _)
      all_goals (refine hK _ ?_; clear hK K)
      all_goals
       refine ⟨_, LeS.kp [(0, .sl 1 (xs.map cS)), (1, .sl 1 (ys.map cS)), (5, (.g (.int .i64 (((i + 1) : Nat)))))] (by simp [KpE, zbf, zbt, zbd]; try rfl), _, ?_, i + 1, rfl, ?_, rfl⟩
       ·omega
       ·refine ⟨by omega, fun j hj => ?_⟩
        by_cases hji : j = i
        ·subst hji; simp_all [zbe, zbc]
        ·exact hpre j (by omega)
   try simp [zba, zbb, zbe, zbc] at hc2
   have hi2 : i = xs.length := by omega
   subst hi2
   have heq : xs = ys := List.ext_getElem? fun j => by
    by_cases hj : j < xs.length
    ·exact hpre j hj
    ·rw [List.getElem?_eq_none (by omega), List.getElem?_eq_none (by omega)]
   refine zb9 ?_
   refine zbr ?_
   refine AW_r rfl rfl fun K hK => ?_
   simp (disch := omega) [cS]
   repeat' first | (exfalso; omega) | (refine ⟨fun _ => ?_, fun _ => ?_⟩) | (refine ⟨by omega, ?_⟩) | (intro _)
   all_goals (refine hK _ ?_; clear hK K)
   all_goals
    refine zbo (zb5 ?_)
    simp (disch := omega) [cS]
    all_goals first | (exact zcb heq) | (refine zb6 fun heq => ?_; subst heq; simp_all [zbe, zbc, zbw]; done) | (refine (zb6 fun heq => ?_).symm; subst heq; simp_all [zbe, zbc, zbw]; done) | trace_state
attribute [local simp] zbw DtState.cells DtCatalog.cells mvState mvCatalog List.range_succ
theorem zpl (l : List DtCmd) (hw : wfS DtCmd.wf l) : XCall Try.prog 5 [.sl 8 (l.map DtCmd.cells)] [] (.g (.bool (true))) [] [] := by
 have hq := zdc DtCmd.sz_nonneg l
 by_cases h : (1048576 : Int) - szS DtCmd.sz l < 0
 ·have e : szR 1048576 (szS DtCmd.sz l) = -1 := by unfold szR; rw [if_pos h]
  refine zby Try.func5 (by rfl) (by rfl) (by rw [Try.ntmps5]; exact Nat.le_of_ble_eq_true rfl) rfl (by simp) rfl rfl ?_
  rw [Try.ntmps5]
  refine zgw   ?_
  refine AW_k [(0, _)] ⟨rfl, trivial⟩ ?_
  refine AW_x rfl rfl fun K hK => ?_
  simp (disch := omega) [e]
  repeat' first | (refine ⟨by omega, ?_⟩) | (intro _)
  refine hK _ ?_; clear hK K
  refine AW_x rfl rfl fun K hK => ?_
  simp (disch := omega) [e]
  repeat' first | (refine ⟨by omega, ?_⟩) | (intro _)
  refine hK _ ?_; clear hK K
  refine AW_x rfl rfl fun K hK => ?_
  simp (disch := omega) [e]
  repeat' first | (exfalso; omega) | (refine zdi (zbi zc0 (zbi zct zbu)) (zt5 _ _ (by omega) hw) rfl ?_; simp (disch := omega) [e]) | (refine zdj (zt5 _ _ (by omega) hw) (by rfl) ?_ ?_; (focus (simp (disch := omega) [e, zbp]; done)); simp (disch := omega) [e]) | (refine ⟨by omega, ?_⟩) | (simp (disch := omega) [e]) | (intro _)
  refine hK _ ?_; clear hK K
  refine zbm ?_
  refine AW_x rfl rfl fun K hK => ?_
  simp (disch := omega) [e]
  repeat' first | (refine ⟨by omega, ?_⟩) | (intro _)
  refine hK _ ?_; clear hK K
  refine zbl rfl (fun hc4 => ?_) (fun hc4 => ?_)
  ·try simp [zba, zbb, zbe, zbc] at hc4
   all_goals
    refine AW_x rfl rfl fun K hK => ?_
    simp (disch := omega) [e]
    repeat' first | (exfalso; omega) | (refine ⟨fun _ => ?_, fun _ => ?_⟩) | (refine ⟨by omega, ?_⟩) | (simp (disch := omega) [e]) | (intro _)
    all_goals (refine hK _ ?_; clear hK K)
    all_goals
     refine zbo (zce [] [] (by simp [List.range_succ, zbd, zbh, zbf]) (by simp) ?_)
     simp (disch := omega) [e]
     all_goals skip
  try simp [zba, zbb, zbe, zbc] at hc4
 ·have e : szR 1048576 (szS DtCmd.sz l) = 1048576 - szS DtCmd.sz l := by unfold szR; rw [if_neg h]
  have e0 : (0 : Int) ≤ 1048576 - szS DtCmd.sz l := by omega
  have hsl : szS DtCmd.sz l ≤ 1048576 := by omega
  have hn : l.length ≤ 1048576 := by have := zc9 DtCmd.sz_nonneg l; omega
  have hcs := zta l
  have hcv2 := zsy (splC l)
  have hcn2 := zww (splC l)
  have hcc2 : cvState (splC l) = cntState (splC l) := rfl
  have hcm := zq3 cntCmd_sz l
  have hcmn := zdu zq4 l
  have hrl := zvt l
  have hml2 : (mkL mT (1 + cvState (splC l)) l.length).length = l.length := zdt _ _ _
  have hml : (mkS mkCSet cntCSet 1 (splC l).fCat.fSets).length = (splC l).fCat.fSets.length := zd0 _ _ _ _
  have hml3 : (mkS mkSaid cntSaid (1 + cntS cntCSet (splC l).fCat.fSets) (splC l).fSaid).length = (splC l).fSaid.length := zd0 _ _ _ _
  refine zby Try.func5 (by rfl) (by rfl) (by rw [Try.ntmps5]; exact Nat.le_of_ble_eq_true rfl) rfl (by simp) rfl rfl ?_
  rw [Try.ntmps5]
  refine zgw   ?_
  refine AW_k [(0, _)] ⟨rfl, trivial⟩ ?_
  refine AW_x rfl rfl fun K hK => ?_
  simp (disch := omega) [e, e0, hml, hml2, hml3, hrl]
  repeat' first | (exfalso; omega) | (refine ⟨fun _ => ?_, fun _ => ?_⟩) | (refine ⟨by omega, ?_⟩) | (simp (disch := omega) [e, e0, hml, hml2, hml3, hrl]) | (intro _)
  all_goals (refine hK _ ?_; clear hK K)
  all_goals
   refine AW_x rfl rfl fun K hK => ?_
   simp (disch := omega) [e, e0, hml, hml2, hml3, hrl]
   repeat' first | (refine ⟨by omega, ?_⟩) | (intro _)
   refine hK _ ?_; clear hK K
   refine AW_x rfl rfl fun K hK => ?_
   simp (disch := omega) [e, e0, hml, hml2, hml3, hrl]
   repeat' first | (exfalso; omega) | (refine zdi (zbi zc0 (zbi zct zbu)) (zt5 _ _ (by omega) hw) rfl ?_; simp (disch := omega) [e, e0, hml, hml2, hml3, hrl]) | (refine zdj (zt5 _ _ (by omega) hw) (by rfl) ?_ ?_; (focus (simp (disch := omega) [e, e0, hml, hml2, hml3, hrl, zbp]; done)); simp (disch := omega) [e, e0, hml, hml2, hml3, hrl]) | (refine ⟨by omega, ?_⟩) | (simp (disch := omega) [e, e0, hml, hml2, hml3, hrl]) | (intro _)
   refine hK _ ?_; clear hK K
   refine zbm ?_
   refine AW_x rfl rfl fun K hK => ?_
   simp (disch := omega) [e, e0, hml, hml2, hml3, hrl]
   repeat' first | (refine ⟨by omega, ?_⟩) | (intro _)
   refine hK _ ?_; clear hK K
   refine zbl rfl (fun hc5 => ?_) (fun hc5 => ?_)
   ·try simp [zba, zbb, zbe, zbc] at hc5
    all_goals
     refine AW_x rfl rfl fun K hK => ?_
     simp (disch := omega) [e, e0, hml, hml2, hml3, hrl]
     repeat' first | (exfalso; omega) | (refine ⟨fun _ => ?_, fun _ => ?_⟩) | (refine ⟨by omega, ?_⟩) | (simp (disch := omega) [e, e0, hml, hml2, hml3, hrl]) | (intro _)
     all_goals (refine hK _ ?_; clear hK K)
     all_goals
      refine zbo (zce [] [] (by simp [List.range_succ, zbd, zbh, zbf]) (by simp) ?_)
      simp (disch := omega) [e, e0, hml, hml2, hml3, hrl]
      all_goals skip
   try simp [zba, zbb, zbe, zbc] at hc5
   refine zbn ?_
   refine zbr ?_
   refine AW_x rfl rfl fun K hK => ?_
   simp (disch := omega) [e, e0, hml, hml2, hml3, hrl]
   repeat' first | (exfalso; omega) | (refine zdq [] true [] (zn5 l (by omega)) ?_ ?_ ?_; (focus (simp [List.range_succ, nmC]; done)); (focus (simp (disch := omega) [e, e0, hml, hml2, hml3, hrl, zbp]; done)); simp (disch := omega) [e, e0, hml, hml2, hml3, hrl]) | (refine zdq [] true [] (specSplay l hsl hn) ?_ ?_ ?_; (focus (simp [List.range_succ, nmC]; done)); (focus (simp (disch := omega) [e, e0, hml, hml2, hml3, hrl, zbp]; done)); simp (disch := omega) [e, e0, hml, hml2, hml3, hrl]) | (refine ⟨fun _ => ?_, fun _ => ?_⟩) | (refine ⟨by omega, ?_⟩) | (simp (disch := omega) [e, e0, hml, hml2, hml3, hrl]) | (intro _)
   all_goals (refine hK _ ?_; clear hK K)
   all_goals
    refine AW_x rfl rfl fun K hK => ?_
    simp (disch := omega) [e, e0, hml, hml2, hml3, hrl]
    repeat' first | (exfalso; omega) | (refine zdq [] true [] (zn5 l (by omega)) ?_ ?_ ?_; (focus (simp [List.range_succ, nmC]; done)); (focus (simp (disch := omega) [e, e0, hml, hml2, hml3, hrl, zbp]; done)); simp (disch := omega) [e, e0, hml, hml2, hml3, hrl]) | (refine ⟨by omega, ?_⟩) | (simp (disch := omega) [e, e0, hml, hml2, hml3, hrl]) | (intro _)
    refine hK _ ?_; clear hK K
    refine AW_x rfl rfl fun K hK => ?_
    simp (disch := omega) [e, e0, hml, hml2, hml3, hrl]
    repeat' first | (exfalso; omega) | (refine zdq [] true [] (zri l hsl hn) ?_ ?_ ?_; (focus (simp [List.range_succ, nmC]; done)); (focus (simp (disch := omega) [e, e0, hml, hml2, hml3, hrl, zbp]; done)); simp (disch := omega) [e, e0, hml, hml2, hml3, hrl]) | (refine ⟨by omega, ?_⟩) | (simp (disch := omega) [e, e0, hml, hml2, hml3, hrl]) | (intro _)
    refine hK _ ?_; clear hK K
    refine zbm ?_
    refine AW_x rfl rfl fun K hK => ?_
    simp (disch := omega) [e, e0, hml, hml2, hml3, hrl]
    repeat' first | (exfalso; omega) | (refine zdi (zbi (zb7 rfl) (zbi (zb7 rfl) zbu)) (zjr (splC l) (splC l) (by omega)) rfl ?_; simp (disch := omega) [e, e0, hml, hml2, hml3, hrl]) | (refine zdj (zjr (splC l) (splC l) (by omega)) (by rfl) ?_ ?_; (focus (simp (disch := omega) [e, e0, hml, hml2, hml3, hrl, zbp]; done)); simp (disch := omega) [e, e0, hml, hml2, hml3, hrl]) | (refine zdi (zbi zc0 (zbi zc0 zbu)) (zgh (splR l) (splR l) (by omega)) rfl ?_; simp (disch := omega) [e, e0, hml, hml2, hml3, hrl]) | (refine zdj (zgh (splR l) (splR l) (by omega)) (by rfl) ?_ ?_; (focus (simp (disch := omega) [e, e0, hml, hml2, hml3, hrl, zbp]; done)); simp (disch := omega) [e, e0, hml, hml2, hml3, hrl]) | (refine ⟨fun _ => ?_, fun _ => ?_⟩) | (refine ⟨by omega, ?_⟩) | (simp (disch := omega) [e, e0, hml, hml2, hml3, hrl]) | (intro _)
    all_goals (refine hK _ ?_; clear hK K)
    all_goals
     refine zbl rfl (fun hc6 => ?_) (fun hc6 => ?_)
     ·try simp [zba, zbb, zbe, zbc] at hc6
      all_goals
       refine AW_x rfl rfl fun K hK => ?_
       simp (disch := omega) [e, e0, hml, hml2, hml3, hrl]
       repeat' first | (exfalso; omega) | (refine ⟨fun _ => ?_, fun _ => ?_⟩) | (refine ⟨by omega, ?_⟩) | (simp (disch := omega) [e, e0, hml, hml2, hml3, hrl]) | (intro _)
       all_goals (refine hK _ ?_; clear hK K)
       all_goals
        refine zbo (zce [] [] (by simp [List.range_succ, zbd, zbh, zbf]) (by simp) ?_)
        simp (disch := omega) [e, e0, hml, hml2, hml3, hrl]
        all_goals skip
     try simp [zba, zbb, zbe, zbc] at hc6
     refine zbn ?_
     refine zbr ?_
     refine zbm ?_
     refine AW_x rfl rfl fun K hK => ?_
     simp (disch := omega) [e, e0, hml, hml2, hml3, hrl]
     repeat' first | (exfalso; omega) | (refine zdq [] true [] (zn5 l (by omega)) ?_ ?_ ?_; (focus (simp [List.range_succ, nmC]; done)); (focus (simp (disch := omega) [e, e0, hml, hml2, hml3, hrl, zbp]; done)); simp (disch := omega) [e, e0, hml, hml2, hml3, hrl]) | (refine zdi (zbi zc0 (zbi zc0 zbu)) (eqCmdS l l (by omega)) rfl ?_; simp (disch := omega) [e, e0, hml, hml2, hml3, hrl]) | (refine zdj (eqCmdS l l (by omega)) (by rfl) ?_ ?_; (focus (simp (disch := omega) [e, e0, hml, hml2, hml3, hrl, zbp]; done)); simp (disch := omega) [e, e0, hml, hml2, hml3, hrl]) | (refine ⟨fun _ => ?_, fun _ => ?_⟩) | (refine ⟨by omega, ?_⟩) | (simp (disch := omega) [e, e0, hml, hml2, hml3, hrl]) | (intro _)
     all_goals (refine hK _ ?_; clear hK K)
     all_goals
      refine zbl rfl (fun hc7 => ?_) (fun hc7 => ?_)
      ·try simp [zba, zbb, zbe, zbc] at hc7
       all_goals
        refine AW_x rfl rfl fun K hK => ?_
        simp (disch := omega) [e, e0, hml, hml2, hml3, hrl]
        repeat' first | (exfalso; omega) | (refine ⟨fun _ => ?_, fun _ => ?_⟩) | (refine ⟨by omega, ?_⟩) | (simp (disch := omega) [e, e0, hml, hml2, hml3, hrl]) | (intro _)
        all_goals (refine hK _ ?_; clear hK K)
        all_goals
         refine zbo (zce [] [] (by simp [List.range_succ, zbd, zbh, zbf]) (by simp) ?_)
         simp (disch := omega) [e, e0, hml, hml2, hml3, hrl]
         all_goals skip
      try simp [zba, zbb, zbe, zbc] at hc7
      refine zbn ?_
      refine zbr ?_
      refine AW_x rfl rfl fun K hK => ?_
      simp (disch := omega) [e, e0, hml, hml2, hml3, hrl]
      repeat' first | (exfalso; omega) | (refine ⟨fun _ => ?_, fun _ => ?_⟩) | (refine ⟨by omega, ?_⟩) | (simp (disch := omega) [e, e0, hml, hml2, hml3, hrl]) | (intro _)
      all_goals (refine hK _ ?_; clear hK K)
      all_goals
       refine AW_x rfl rfl fun K hK => ?_
       simp (disch := omega) [e, e0, hml, hml2, hml3, hrl]
       repeat' first | (exfalso; omega) | (refine zdq [432] true [] (markCmdS l 1 (by omega) (by omega)) ?_ ?_ ?_; (focus (simp [List.range_succ, nmC]; done)); (focus (simp (disch := omega) [e, e0, hml, hml2, hml3, hrl, zbp]; done)); simp (disch := omega) [e, e0, hml, hml2, hml3, hrl]) | (refine ⟨by omega, ?_⟩) | (simp (disch := omega) [e, e0, hml, hml2, hml3, hrl]) | (intro _)
       refine hK _ ?_; clear hK K
       refine zbm ?_
       refine AW_x rfl rfl fun K hK => ?_
       simp (disch := omega) [e, e0, hml, hml2, hml3, hrl]
       repeat' first | (exfalso; omega) | (refine zdi (zbi (zb7 rfl) (zbi (zb7 rfl) zbu)) (zjr (splC l) (splC l) (by omega)) rfl ?_; simp (disch := omega) [e, e0, hml, hml2, hml3, hrl]) | (refine zdj (zjr (splC l) (splC l) (by omega)) (by rfl) ?_ ?_; (focus (simp (disch := omega) [e, e0, hml, hml2, hml3, hrl, zbp]; done)); simp (disch := omega) [e, e0, hml, hml2, hml3, hrl]) | (refine zdi (zbi zc0 (zbi zc0 zbu)) (zgh (splR l) (splR l) (by omega)) rfl ?_; simp (disch := omega) [e, e0, hml, hml2, hml3, hrl]) | (refine zdj (zgh (splR l) (splR l) (by omega)) (by rfl) ?_ ?_; (focus (simp (disch := omega) [e, e0, hml, hml2, hml3, hrl, zbp]; done)); simp (disch := omega) [e, e0, hml, hml2, hml3, hrl]) | (refine ⟨fun _ => ?_, fun _ => ?_⟩) | (refine ⟨by omega, ?_⟩) | (simp (disch := omega) [e, e0, hml, hml2, hml3, hrl]) | (intro _)
       all_goals (refine hK _ ?_; clear hK K)
       all_goals
        refine zbl rfl (fun hc8 => ?_) (fun hc8 => ?_)
        ·try simp [zba, zbb, zbe, zbc] at hc8
         all_goals
          refine AW_x rfl rfl fun K hK => ?_
          simp (disch := omega) [e, e0, hml, hml2, hml3, hrl]
          repeat' first | (exfalso; omega) | (refine ⟨fun _ => ?_, fun _ => ?_⟩) | (refine ⟨by omega, ?_⟩) | (simp (disch := omega) [e, e0, hml, hml2, hml3, hrl]) | (intro _)
          all_goals (refine hK _ ?_; clear hK K)
          all_goals
           refine zbo (zce [] [] (by simp [List.range_succ, zbd, zbh, zbf]) (by simp) ?_)
           simp (disch := omega) [e, e0, hml, hml2, hml3, hrl]
           all_goals skip
        try simp [zba, zbb, zbe, zbc] at hc8
        refine zbn ?_
        refine zbr ?_
        refine AW_x rfl rfl fun K hK => ?_
        simp (disch := omega) [e, e0, hml, hml2, hml3, hrl]
        repeat' first | (exfalso; omega) | (refine ⟨fun _ => ?_, fun _ => ?_⟩) | (refine ⟨by omega, ?_⟩) | (simp (disch := omega) [e, e0, hml, hml2, hml3, hrl]) | (intro _)
        all_goals (refine hK _ ?_; clear hK K)
        all_goals
         refine AW_x rfl rfl fun K hK => ?_
         simp (disch := omega) [e, e0, hml, hml2, hml3, hrl]
         repeat' first | (exfalso; omega) | (refine zdq [480, 481] true [] (markState (splC l) 1 (by omega) (by omega)) ?_ ?_ ?_; (focus (simp [List.range_succ, nmC]; done)); (focus (simp (disch := omega) [e, e0, hml, hml2, hml3, hrl, zbp]; done)); simp (disch := omega) [e, e0, hml, hml2, hml3, hrl]) | (refine ⟨by omega, ?_⟩) | (simp (disch := omega) [e, e0, hml, hml2, hml3, hrl]) | (intro _)
         refine hK _ ?_; clear hK K
         refine AW_x rfl rfl fun K hK => ?_
         simp (disch := omega) [e, e0, hml, hml2, hml3, hrl]
         repeat' first | (exfalso; omega) | (refine zdq [482] true [] (zhm (splR l) (1 + cvState (splC l)) (by omega) (by omega)) ?_ ?_ ?_; (focus (simp [List.range_succ, nmC]; done)); (focus (simp (disch := omega) [e, e0, hml, hml2, hml3, hrl, zbp]; done)); simp (disch := omega) [e, e0, hml, hml2, hml3, hrl]) | (refine ⟨by omega, ?_⟩) | (simp (disch := omega) [e, e0, hml, hml2, hml3, hrl]) | (intro _)
         refine hK _ ?_; clear hK K
         refine AW_x rfl rfl fun K hK => ?_
         simp (disch := omega) [e, e0, hml, hml2, hml3, hrl]
         repeat' first | (refine ⟨by omega, ?_⟩) | (intro _)
         refine hK _ ?_; clear hK K
         refine AW_x rfl rfl fun K hK => ?_
         simp (disch := omega) [e, e0, hml, hml2, hml3, hrl]
         repeat' first | (exfalso; omega) | (refine zdi (zbi (zb7 rfl) (zbi zct zbu)) (zh4 (splC l) 1 (by omega) (by omega)) rfl ?_; simp (disch := omega) [e, e0, hml, hml2, hml3, hrl]) | (refine zdj (zh4 (splC l) 1 (by omega) (by omega)) (by rfl) ?_ ?_; (focus (simp (disch := omega) [e, e0, hml, hml2, hml3, hrl, zbp]; done)); simp (disch := omega) [e, e0, hml, hml2, hml3, hrl]) | (refine ⟨by omega, ?_⟩) | (simp (disch := omega) [e, e0, hml, hml2, hml3, hrl]) | (intro _)
         refine hK _ ?_; clear hK K
         refine zbm ?_
         refine AW_x rfl rfl fun K hK => ?_
         simp (disch := omega) [e, e0, hml, hml2, hml3, hrl]
         repeat' first | (refine ⟨by omega, ?_⟩) | (intro _)
         refine hK _ ?_; clear hK K
         refine zbl rfl (fun hc9 => ?_) (fun hc9 => ?_)
         ·try simp [zba, zbb, zbe, zbc] at hc9
          all_goals
           refine AW_x rfl rfl fun K hK => ?_
           simp (disch := omega) [e, e0, hml, hml2, hml3, hrl]
           repeat' first | (exfalso; omega) | (refine ⟨fun _ => ?_, fun _ => ?_⟩) | (refine ⟨by omega, ?_⟩) | (simp (disch := omega) [e, e0, hml, hml2, hml3, hrl]) | (intro _)
           all_goals (refine hK _ ?_; clear hK K)
           all_goals
            refine zbo (zce [] [] (by simp [List.range_succ, zbd, zbh, zbf]) (by simp) ?_)
            simp (disch := omega) [e, e0, hml, hml2, hml3, hrl]
            all_goals skip
         try simp [zba, zbb, zbe, zbc] at hc9
         refine zbn ?_
         refine zbr ?_
         refine AW_x rfl rfl fun K hK => ?_
         simp (disch := omega) [e, e0, hml, hml2, hml3, hrl]
         repeat' first | (exfalso; omega) | (refine zdi (zbi zc0 (zbi zct zbu)) (zfx l.length (1 + cvState (splC l)) (by omega) (by omega)) rfl ?_; simp (disch := omega) [e, e0, hml, hml2, hml3, hrl]) | (refine zdj (zfx l.length (1 + cvState (splC l)) (by omega) (by omega)) (by rfl) ?_ ?_; (focus (simp (disch := omega) [e, e0, hml, hml2, hml3, hrl, zbp]; done)); simp (disch := omega) [e, e0, hml, hml2, hml3, hrl]) | (refine ⟨fun _ => ?_, fun _ => ?_⟩) | (refine ⟨by omega, ?_⟩) | (simp (disch := omega) [e, e0, hml, hml2, hml3, hrl]) | (intro _)
         all_goals (refine hK _ ?_; clear hK K)
         all_goals
          refine zbm ?_
          refine AW_x rfl rfl fun K hK => ?_
          simp (disch := omega) [e, e0, hml, hml2, hml3, hrl]
          repeat' first | (refine ⟨by omega, ?_⟩) | (intro _)
          refine hK _ ?_; clear hK K
          refine zbl rfl (fun hc10 => ?_) (fun hc10 => ?_)
          ·try simp [zba, zbb, zbe, zbc] at hc10
           all_goals
            refine AW_x rfl rfl fun K hK => ?_
            simp (disch := omega) [e, e0, hml, hml2, hml3, hrl]
            repeat' first | (exfalso; omega) | (refine ⟨fun _ => ?_, fun _ => ?_⟩) | (refine ⟨by omega, ?_⟩) | (simp (disch := omega) [e, e0, hml, hml2, hml3, hrl]) | (intro _)
            all_goals (refine hK _ ?_; clear hK K)
            all_goals
             refine zbo (zce [] [] (by simp [List.range_succ, zbd, zbh, zbf]) (by simp) ?_)
             simp (disch := omega) [e, e0, hml, hml2, hml3, hrl]
             all_goals skip
          try simp [zba, zbb, zbe, zbc] at hc10
          refine zbn ?_
          refine zbr ?_
          refine zbm ?_
          refine AW_x rfl rfl fun K hK => ?_
          simp (disch := omega) [e, e0, hml, hml2, hml3, hrl]
          repeat' first | (exfalso; omega) | (refine ⟨fun _ => ?_, fun _ => ?_⟩) | (refine ⟨by omega, ?_⟩) | (simp (disch := omega) [e, e0, hml, hml2, hml3, hrl]) | (intro _)
          all_goals (refine hK _ ?_; clear hK K)
          all_goals
           refine zbl rfl (fun hc11 => ?_) (fun hc11 => ?_)
           ·try simp [zba, zbb, zbe, zbc] at hc11
            all_goals
             refine AW_x rfl rfl fun K hK => ?_
             simp (disch := omega) [e, e0, hml, hml2, hml3, hrl]
             repeat' first | (exfalso; omega) | (refine ⟨fun _ => ?_, fun _ => ?_⟩) | (refine ⟨by omega, ?_⟩) | (simp (disch := omega) [e, e0, hml, hml2, hml3, hrl]) | (intro _)
             all_goals (refine hK _ ?_; clear hK K)
             all_goals
              refine zbo (zce [] [] (by simp [List.range_succ, zbd, zbh, zbf]) (by simp) ?_)
              simp (disch := omega) [e, e0, hml, hml2, hml3, hrl]
              all_goals skip
           try simp [zba, zbb, zbe, zbc] at hc11
           refine zbn ?_
           refine zbr ?_
           refine AW_x rfl rfl fun K hK => ?_
           simp (disch := omega) [e, e0, hml, hml2, hml3, hrl]
           repeat' first | (exfalso; omega) | (refine zdq [] true [] (zn5 l (by omega)) ?_ ?_ ?_; (focus (simp [List.range_succ, nmC]; done)); (focus (simp (disch := omega) [e, e0, hml, hml2, hml3, hrl, zbp]; done)); simp (disch := omega) [e, e0, hml, hml2, hml3, hrl]) | (refine zdq [] true [] (zri l hsl hn) ?_ ?_ ?_; (focus (simp [List.range_succ, nmC]; done)); (focus (simp (disch := omega) [e, e0, hml, hml2, hml3, hrl, zbp]; done)); simp (disch := omega) [e, e0, hml, hml2, hml3, hrl]) | (refine ⟨fun _ => ?_, fun _ => ?_⟩) | (refine ⟨by omega, ?_⟩) | (simp (disch := omega) [e, e0, hml, hml2, hml3, hrl]) | (intro _)
           all_goals (refine hK _ ?_; clear hK K)
           all_goals
            refine zbm ?_
            refine AW_x rfl rfl fun K hK => ?_
            simp (disch := omega) [e, e0, hml, hml2, hml3, hrl]
            repeat' first | (exfalso; omega) | (refine zdi (zbi (zb7 rfl) (zbi (zb7 rfl) zbu)) (zjr (splC l) (splC l) (by omega)) rfl ?_; simp (disch := omega) [e, e0, hml, hml2, hml3, hrl]) | (refine zdj (zjr (splC l) (splC l) (by omega)) (by rfl) ?_ ?_; (focus (simp (disch := omega) [e, e0, hml, hml2, hml3, hrl, zbp]; done)); simp (disch := omega) [e, e0, hml, hml2, hml3, hrl]) | (refine zdi (zbi zc0 (zbi zc0 zbu)) (zgh (splR l) (splR l) (by omega)) rfl ?_; simp (disch := omega) [e, e0, hml, hml2, hml3, hrl]) | (refine zdj (zgh (splR l) (splR l) (by omega)) (by rfl) ?_ ?_; (focus (simp (disch := omega) [e, e0, hml, hml2, hml3, hrl, zbp]; done)); simp (disch := omega) [e, e0, hml, hml2, hml3, hrl]) | (refine ⟨fun _ => ?_, fun _ => ?_⟩) | (refine ⟨by omega, ?_⟩) | (simp (disch := omega) [e, e0, hml, hml2, hml3, hrl]) | (intro _)
            all_goals (refine hK _ ?_; clear hK K)
            all_goals
             refine zbl rfl (fun hc12 => ?_) (fun hc12 => ?_)
             ·try simp [zba, zbb, zbe, zbc] at hc12
              all_goals
               refine AW_x rfl rfl fun K hK => ?_
               simp (disch := omega) [e, e0, hml, hml2, hml3, hrl]
               repeat' first | (exfalso; omega) | (refine ⟨fun _ => ?_, fun _ => ?_⟩) | (refine ⟨by omega, ?_⟩) | (simp (disch := omega) [e, e0, hml, hml2, hml3, hrl]) | (intro _)
               all_goals (refine hK _ ?_; clear hK K)
               all_goals
                refine zbo (zce [] [] (by simp [List.range_succ, zbd, zbh, zbf]) (by simp) ?_)
                simp (disch := omega) [e, e0, hml, hml2, hml3, hrl]
                all_goals skip
             try simp [zba, zbb, zbe, zbc] at hc12
             refine zbn ?_
             refine zbr ?_
             refine AW_x rfl rfl fun K hK => ?_
             simp (disch := omega) [e, e0, hml, hml2, hml3, hrl]
             repeat' first | (exfalso; omega) | (refine ⟨fun _ => ?_, fun _ => ?_⟩) | (refine ⟨by omega, ?_⟩) | (simp (disch := omega) [e, e0, hml, hml2, hml3, hrl]) | (intro _)
             all_goals (refine hK _ ?_; clear hK K)
             all_goals
              refine AW_x rfl rfl fun K hK => ?_
              simp (disch := omega) [e, e0, hml, hml2, hml3, hrl]
              repeat' first | (exfalso; omega) | (refine zdi (zbi (zb7 rfl) (zbi zct zbu)) (zh4 (splC l) 1 (by omega) (by omega)) rfl ?_; simp (disch := omega) [e, e0, hml, hml2, hml3, hrl]) | (refine zdj (zh4 (splC l) 1 (by omega) (by omega)) (by rfl) ?_ ?_; (focus (simp (disch := omega) [e, e0, hml, hml2, hml3, hrl, zbp]; done)); simp (disch := omega) [e, e0, hml, hml2, hml3, hrl]) | (refine ⟨by omega, ?_⟩) | (simp (disch := omega) [e, e0, hml, hml2, hml3, hrl]) | (intro _)
              refine hK _ ?_; clear hK K
              refine zbm ?_
              refine AW_x rfl rfl fun K hK => ?_
              simp (disch := omega) [e, e0, hml, hml2, hml3, hrl]
              repeat' first | (refine ⟨by omega, ?_⟩) | (intro _)
              refine hK _ ?_; clear hK K
              refine zbl rfl (fun hc13 => ?_) (fun hc13 => ?_)
              ·try simp [zba, zbb, zbe, zbc] at hc13
               all_goals
                refine AW_x rfl rfl fun K hK => ?_
                simp (disch := omega) [e, e0, hml, hml2, hml3, hrl]
                repeat' first | (exfalso; omega) | (refine ⟨fun _ => ?_, fun _ => ?_⟩) | (refine ⟨by omega, ?_⟩) | (simp (disch := omega) [e, e0, hml, hml2, hml3, hrl]) | (intro _)
                all_goals (refine hK _ ?_; clear hK K)
                all_goals
                 refine zbo (zce [] [] (by simp [List.range_succ, zbd, zbh, zbf]) (by simp) ?_)
                 simp (disch := omega) [e, e0, hml, hml2, hml3, hrl]
                 all_goals skip
              try simp [zba, zbb, zbe, zbc] at hc13
              refine zbn ?_
              refine zbr ?_
              refine AW_x rfl rfl fun K hK => ?_
              simp (disch := omega) [e, e0, hml, hml2, hml3, hrl]
              repeat' first | (exfalso; omega) | (refine zdi (zbi zc0 (zbi zct zbu)) (zfx l.length (1 + cvState (splC l)) (by omega) (by omega)) rfl ?_; simp (disch := omega) [e, e0, hml, hml2, hml3, hrl]) | (refine zdj (zfx l.length (1 + cvState (splC l)) (by omega) (by omega)) (by rfl) ?_ ?_; (focus (simp (disch := omega) [e, e0, hml, hml2, hml3, hrl, zbp]; done)); simp (disch := omega) [e, e0, hml, hml2, hml3, hrl]) | (refine ⟨fun _ => ?_, fun _ => ?_⟩) | (refine ⟨by omega, ?_⟩) | (simp (disch := omega) [e, e0, hml, hml2, hml3, hrl]) | (intro _)
              all_goals (refine hK _ ?_; clear hK K)
              all_goals
               refine zbm ?_
               refine AW_x rfl rfl fun K hK => ?_
               simp (disch := omega) [e, e0, hml, hml2, hml3, hrl]
               repeat' first | (refine ⟨by omega, ?_⟩) | (intro _)
               refine hK _ ?_; clear hK K
               refine zbl rfl (fun hc14 => ?_) (fun hc14 => ?_)
               ·try simp [zba, zbb, zbe, zbc] at hc14
                all_goals
                 refine AW_x rfl rfl fun K hK => ?_
                 simp (disch := omega) [e, e0, hml, hml2, hml3, hrl]
                 repeat' first | (exfalso; omega) | (refine ⟨fun _ => ?_, fun _ => ?_⟩) | (refine ⟨by omega, ?_⟩) | (simp (disch := omega) [e, e0, hml, hml2, hml3, hrl]) | (intro _)
                 all_goals (refine hK _ ?_; clear hK K)
                 all_goals
                  refine zbo (zce [] [] (by simp [List.range_succ, zbd, zbh, zbf]) (by simp) ?_)
                  simp (disch := omega) [e, e0, hml, hml2, hml3, hrl]
                  all_goals skip
               try simp [zba, zbb, zbe, zbc] at hc14
               refine zbn ?_
               refine zbr ?_
               refine zbm ?_
               refine AW_x rfl rfl fun K hK => ?_
               simp (disch := omega) [e, e0, hml, hml2, hml3, hrl]
               repeat' first | (exfalso; omega) | (refine ⟨fun _ => ?_, fun _ => ?_⟩) | (refine ⟨by omega, ?_⟩) | (simp (disch := omega) [e, e0, hml, hml2, hml3, hrl]) | (intro _)
               all_goals (refine hK _ ?_; clear hK K)
               all_goals
                refine zbl rfl (fun hc15 => ?_) (fun hc15 => ?_)
                ·try simp [zba, zbb, zbe, zbc] at hc15
                 all_goals
                  refine AW_x rfl rfl fun K hK => ?_
                  simp (disch := omega) [e, e0, hml, hml2, hml3, hrl]
                  repeat' first | (exfalso; omega) | (refine ⟨fun _ => ?_, fun _ => ?_⟩) | (refine ⟨by omega, ?_⟩) | (simp (disch := omega) [e, e0, hml, hml2, hml3, hrl]) | (intro _)
                  all_goals (refine hK _ ?_; clear hK K)
                  all_goals
                   refine zbo (zce [] [] (by simp [List.range_succ, zbd, zbh, zbf]) (by simp) ?_)
                   simp (disch := omega) [e, e0, hml, hml2, hml3, hrl]
                   all_goals skip
                try simp [zba, zbb, zbe, zbc] at hc15
                refine zbn ?_
                refine zbr ?_
                refine AW_x rfl rfl fun K hK => ?_
                simp (disch := omega) [e, e0, hml, hml2, hml3, hrl]
                repeat' first | (exfalso; omega) | (refine ⟨fun _ => ?_, fun _ => ?_⟩) | (refine ⟨by omega, ?_⟩) | (simp (disch := omega) [e, e0, hml, hml2, hml3, hrl]) | (intro _)
                all_goals (refine hK _ ?_; clear hK K)
                all_goals
                 refine zbo (zce [] [] (by simp [List.range_succ, zbd, zbh, zbf]) (by simp) ?_)
                 simp (disch := omega) [e, e0, hml, hml2, hml3, hrl]
                 all_goals skip
theorem zrj (l : List DtCmd) (hw : wfS DtCmd.wf l) : PCall Try.prog 5 [.sl 8 (l.map DtCmd.cells)] (.g (.bool (true))) := zwi (zpl l hw)
end Go.Proofs.Ytmheohnbkaoipaa.Vs
