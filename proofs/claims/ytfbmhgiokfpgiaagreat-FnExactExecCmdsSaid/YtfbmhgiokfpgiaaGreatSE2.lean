import Derived.Test.YtfbmhgiokfpgiaaGreatSE1
open Go Go.Proofs Go.Proofs.YtfbmhgiokfpgiaaGreat.Vs
namespace Go.Proofs.YtfbmhgiokfpgiaaGreat.Vs
set_option linter.all false
set_option linter.unusedSimpArgs false
set_option linter.unusedVariables false
set_option maxRecDepth 100000
def InstP (x : DtInst) : Prop := IdP x.fId ∧ -1 ≤ x.fBal ∧ x.fBal ≤ 600 ∧ -1 ≤ x.fVBal ∧ x.fVBal ≤ x.fBal ∧ 0 ≤ x.fStatus ∧ x.fStatus ≤ 3 ∧ CmdP x.fCmd ∧ 0 ≤ x.fSeq ∧ x.fSeq ≤ 60 ∧ IdsP x.fDeps ∧ ¬ x.fId ∈ x.fDeps ∧ (x.fStatus ≠ 0 ∨ (x.fVBal = -1 ∧ x.fCmd.fKind = 0 ∧ x.fSeq = 0 ∧ x.fDeps = [] ∧ x.fSame = false))
def InstsP (l : List DtInst) : Prop := ∀ (i : Nat) x, l[i]? = some x → InstP x ∧ ∀ y, 0 < i → l[i - 1]? = some y → idLt y.fId x.fId
theorem instSz (x : DtInst) (hs : DtInst.sz x ≤ 1048576) : DtCmd.sz x.fCmd ≤ 1048576 ∧ x.fDeps.length ≤ 1048576 := by
 have h1 := DtCmd.sz_nonneg x.fCmd
 simp only [DtInst.sz] at hs
 omega
theorem instsSz (l : List DtInst) (hs : szS DtInst.sz l ≤ 1048576) : l.length ≤ 1048576 ∧ ∀ i (h : i < l.length), DtInst.sz l[i] ≤ 1048576 := by
 have h0 := zct DtInst.sz_nonneg l
 simp only [szS] at hs
 refine ⟨by omega, fun i h => ?_⟩
 have h1 := zdp DtInst.sz_nonneg l l[i] (List.getElem_mem _)
 omega
theorem l8Inst (x : DtInst) (hs : DtInst.sz x ≤ 1048576) : PCall Tryz.prog 60 [.agg (DtInst.cells x)] (.g (.bool (decB (InstP x)))) := by
 have ⟨hc, hd⟩ := instSz x hs
 refine zbz Tryz.func60 (by rfl) (by rfl) (by rw [Tryz.ntmps60]; exact Nat.le_of_ble_eq_true rfl) rfl (by decide) ?_
 rw [Tryz.ntmps60]
 refine AW_k [(0, _)] ⟨rfl, trivial⟩ ?_
 refine AW_r rfl rfl fun K hK => ?_
 simp (disch := omega) [zbd, gE, tP, DtInst.cells, DtId.cells, DtCmd.cells, zbc, zbb, len0]
 repeat' first | (refine ⟨by omega, ?_⟩) | (intro _)
 refine hK _ ?_; clear hK K
 refine zbr ?_
 refine AW_r rfl rfl fun K hK => ?_
 simp (disch := omega) [zbd, gE, tP, DtInst.cells, DtId.cells, DtCmd.cells, zbc, zbb, len0]
 repeat' first | (exfalso; omega) | (refine zco (zbh (zcb rfl) zbs) (l8Id _) rfl ?_; simp (disch := omega) [zbd, gE, tP, DtInst.cells, DtId.cells, DtCmd.cells, zbc, zbb, len0]) | (refine zco (zbh zcx (zbh zcx (zbh zcx zbs))) (l1In _ _ _) rfl ?_; simp (disch := omega) [zbd, gE, tP, DtInst.cells, DtId.cells, DtCmd.cells, zbc, zbb, len0]) | (refine zco (zbh (zcb rfl) zbs) (specCmdOk _ (by assumption)) rfl ?_; simp (disch := omega) [zbd, gE, tP, DtInst.cells, DtId.cells, DtCmd.cells, zbc, zbb, len0]) | (refine zco (zbh zce zbs) (specIdsOk _ (by assumption)) rfl ?_; simp (disch := omega) [zbd, gE, tP, DtInst.cells, DtId.cells, DtCmd.cells, zbc, zbb, len0]) | (refine zco (zbh zce (zbh (zcb rfl) zbs)) (zxh _ _ (by assumption)) rfl ?_; simp (disch := omega) [zbd, gE, tP, DtInst.cells, DtId.cells, DtCmd.cells, zbc, zbb, len0]) | (refine ⟨fun _ => ?_, fun _ => ?_⟩) | (refine ⟨by omega, ?_⟩) | (intro _)
 all_goals (refine hK _ ?_; clear hK K)
 all_goals
  refine zbu rfl (fun hc1 => ?_) (fun hc1 => ?_)
  ·try simp [zbc, zbb, zbg, zbf, zbq, zbt] at hc1
   all_goals
    refine AW_r rfl rfl fun K hK => ?_
    simp (disch := omega) [zbd, gE, tP, DtInst.cells, DtId.cells, DtCmd.cells, zbc, zbb, len0]
    repeat' first | (exfalso; omega) | (refine ⟨fun _ => ?_, fun _ => ?_⟩) | (refine ⟨by omega, ?_⟩) | (intro _)
    all_goals (refine hK _ ?_; clear hK K)
    all_goals
     refine zby (zcd ?_)
     simp (disch := omega) [zbd, gE, tP, DtInst.cells, DtId.cells, DtCmd.cells, zbc, zbb, len0]
     all_goals first | grind [InstP] | (refine zc4 fun h => ?_; grind [InstP]) | (refine zcu ?_; grind [InstP]) | (rw [Bool.eq_iff_iff, zbc]; simp; grind [InstP])
  ·try simp [zbc, zbb, zbg, zbf, zbq, zbt] at hc1
   all_goals
    refine zbv ?_
    refine zb4 ?_
    refine AW_r rfl rfl fun K hK => ?_
    simp (disch := omega) [zbd, gE, tP, DtInst.cells, DtId.cells, DtCmd.cells, zbc, zbb, len0]
    repeat' first | (exfalso; omega) | (refine ⟨fun _ => ?_, fun _ => ?_⟩) | (refine ⟨by omega, ?_⟩) | (intro _)
    all_goals (refine hK _ ?_; clear hK K)
    all_goals
     refine zby (zcd ?_)
     simp (disch := omega) [zbd, gE, tP, DtInst.cells, DtId.cells, DtCmd.cells, zbc, zbb, len0]
     all_goals first | grind [InstP] | (refine zc4 fun h => ?_; grind [InstP]) | (refine zcu ?_; grind [InstP]) | (rw [Bool.eq_iff_iff, zbc]; simp; grind [InstP])
theorem instOk (x : DtInst) (hs : DtInst.sz x ≤ 1048576) : PCall Tryz.prog 65 [.agg (DtInst.cells x)] (.g (.bool (decB (InstP x)))) := by
 have ⟨hc, hd⟩ := instSz x hs
 refine zbz Tryz.func65 (by rfl) (by rfl) (by rw [Tryz.ntmps65]; exact Nat.le_of_ble_eq_true rfl) rfl (by decide) ?_
 rw [Tryz.ntmps65]
 refine AW_k [(0, _)] ⟨rfl, trivial⟩ ?_
 refine AW_r rfl rfl fun K hK => ?_
 simp (disch := omega) [zbd, gE, tP, DtInst.cells, DtId.cells, DtCmd.cells, zbc, zbb, len0]
 repeat' first | (refine ⟨by omega, ?_⟩) | (intro _)
 refine hK _ ?_; clear hK K
 refine zbr ?_
 refine AW_r rfl rfl fun K hK => ?_
 simp (disch := omega) [zbd, gE, tP, DtInst.cells, DtId.cells, DtCmd.cells, zbc, zbb, len0]
 repeat' first | (exfalso; omega) | (refine zco (zbh (zcb rfl) zbs) (idOk _) rfl ?_; simp (disch := omega) [zbd, gE, tP, DtInst.cells, DtId.cells, DtCmd.cells, zbc, zbb, len0]) | (refine zco (zbh zcx (zbh zcx (zbh zcx zbs))) (znu _ _ _) rfl ?_; simp (disch := omega) [zbd, gE, tP, DtInst.cells, DtId.cells, DtCmd.cells, zbc, zbb, len0]) | (refine zco (zbh (zcb rfl) zbs) (implCmdOk _ (by assumption)) rfl ?_; simp (disch := omega) [zbd, gE, tP, DtInst.cells, DtId.cells, DtCmd.cells, zbc, zbb, len0]) | (refine zco (zbh zce zbs) (implIdsOk _ (by assumption)) rfl ?_; simp (disch := omega) [zbd, gE, tP, DtInst.cells, DtId.cells, DtCmd.cells, zbc, zbb, len0]) | (refine zco (zbh zce (zbh (zcb rfl) zbs)) (zd2 _ _ (by assumption)) rfl ?_; simp (disch := omega) [zbd, gE, tP, DtInst.cells, DtId.cells, DtCmd.cells, zbc, zbb, len0]) | (refine ⟨fun _ => ?_, fun _ => ?_⟩) | (refine ⟨by omega, ?_⟩) | (intro _)
 all_goals (refine hK _ ?_; clear hK K)
 all_goals
  refine zbu rfl (fun hc2 => ?_) (fun hc2 => ?_)
  ·try simp [zbc, zbb, zbg, zbf, zbq, zbt] at hc2
   all_goals
    refine AW_r rfl rfl fun K hK => ?_
    simp (disch := omega) [zbd, gE, tP, DtInst.cells, DtId.cells, DtCmd.cells, zbc, zbb, len0]
    repeat' first | (exfalso; omega) | (refine ⟨fun _ => ?_, fun _ => ?_⟩) | (refine ⟨by omega, ?_⟩) | (intro _)
    all_goals (refine hK _ ?_; clear hK K)
    all_goals
     refine zby (zcd ?_)
     simp (disch := omega) [zbd, gE, tP, DtInst.cells, DtId.cells, DtCmd.cells, zbc, zbb, len0]
     all_goals first | grind [InstP] | (refine zc4 fun h => ?_; grind [InstP]) | (refine zcu ?_; grind [InstP]) | (rw [Bool.eq_iff_iff, zbc]; simp; grind [InstP])
  ·try simp [zbc, zbb, zbg, zbf, zbq, zbt] at hc2
   all_goals
    refine zbv ?_
    refine zb4 ?_
    refine AW_r rfl rfl fun K hK => ?_
    simp (disch := omega) [zbd, gE, tP, DtInst.cells, DtId.cells, DtCmd.cells, zbc, zbb, len0]
    repeat' first | (exfalso; omega) | (refine ⟨fun _ => ?_, fun _ => ?_⟩) | (refine ⟨by omega, ?_⟩) | (intro _)
    all_goals (refine hK _ ?_; clear hK K)
    all_goals
     refine zby (zcd ?_)
     simp (disch := omega) [zbd, gE, tP, DtInst.cells, DtId.cells, DtCmd.cells, zbc, zbb, len0]
     all_goals first | grind [InstP] | (refine zc4 fun h => ?_; grind [InstP]) | (refine zcu ?_; grind [InstP]) | (rw [Bool.eq_iff_iff, zbc]; simp; grind [InstP])
theorem zgy (l : List DtInst) (hs : szS DtInst.sz l ≤ 1048576) : PCall Tryz.prog 39 [.sl 16 (l.map DtInst.cells)] (.g (.bool (decB (InstsP l)))) := by
 have ⟨hl, hl2⟩ := instsSz l hs
 refine zbz Tryz.func39 (by rfl) (by rfl) (by rw [Tryz.ntmps39]; exact Nat.le_of_ble_eq_true rfl) rfl (by decide) ?_
 rw [Tryz.ntmps39]
 refine AW_k [(0, _)] ⟨rfl, trivial⟩ ?_
 refine AW_r rfl rfl fun K hK => ?_
 simp (disch := omega) [zbd, gE, tP, DtInst.cells, DtId.cells, DtCmd.cells, zbc, zbb, zbt, zbq, Classical.not_not]
 repeat' first | (refine ⟨by omega, ?_⟩) | (intro _)
 refine hK _ ?_; clear hK K
 refine zbr ?_
 refine AW_r rfl rfl fun K hK => ?_
 simp (disch := omega) [zbd, gE, tP, DtInst.cells, DtId.cells, DtCmd.cells, zbc, zbb, zbt, zbq, Classical.not_not]
 repeat' first | (refine ⟨by omega, ?_⟩) | (intro _)
 refine hK _ ?_; clear hK K
 refine zb0 ?_
 refine zcf (fun mM sS => ∃ (i : Nat), mM = l.length - i ∧ (i ≤ l.length ∧ ∀ (j : Nat) x, j < i → l[j]? = some x → InstP x ∧ ∀ y, 0 < j → l[j - 1]? = some y → idLt y.fId x.fId) ∧ sS = { env := lkE [(0, .sl 16 (l.map DtInst.cells)), (3, (.g (.int .i64 ((i : Nat)))))], ob := formOb [] [] }) ?_ ?_
 ·refine ⟨_, LeS.kp [(0, .sl 16 (l.map DtInst.cells)), (3, (.g (.int .i64 (((0) : Nat)))))] (by simp [KpE, zbl, zb5, zbi]; try rfl), _, 0, rfl, ?_, rfl⟩
  ·simp
 ·rintro mM sS ⟨i, rfl, ⟨hi, hpre⟩, rfl⟩
  refine zbr ?_
  refine AW_r rfl rfl fun K hK => ?_
  simp (disch := omega) [zbd, gE, tP, DtInst.cells, DtId.cells, DtCmd.cells, zbc, zbb, zbt, zbq, Classical.not_not]
  repeat' first | (refine ⟨by omega, ?_⟩) | (intro _)
  refine hK _ ?_; clear hK K
  refine zbu rfl (fun hc3 => ?_) (fun hc3 => ?_)
  ·try simp [zbc, zbb, zbg, zbf, zbq, zbt] at hc3
   all_goals
    have hg : l[i]? = some l[i] := List.getElem?_eq_getElem (by omega)
    have hg' : l[i - 1]? = some l[i - 1] := List.getElem?_eq_getElem (by omega)
    have hm := hl2 i (by omega)
    rcases Nat.eq_zero_or_pos i with hi0 | hi0
    all_goals
     refine zbv ?_
     refine zb4 ?_
     refine zbr ?_
     refine zb0 ?_
     refine AW_q rfl mix (by kernel_rfl) rfl fun K hK => ?_
     simp (disch := omega) [zbd, gE, tP, DtInst.cells, DtId.cells, DtCmd.cells, zbc, zbb, zbt, zbq, Classical.not_not]
     repeat' first | (exfalso; omega) | (refine zco (zbh (zcb rfl) zbs) (l8Inst _ (by assumption)) rfl ?_; simp (disch := omega) [zbd, gE, tP, DtInst.cells, DtId.cells, DtCmd.cells, zbc, zbb, zbt, zbq, Classical.not_not]) | (refine zco (zbh (zcb rfl) (zbh (zcb rfl) zbs)) (l8Less _ _) rfl ?_; simp (disch := omega) [zbd, gE, tP, DtInst.cells, DtId.cells, DtCmd.cells, zbc, zbb, zbt, zbq, Classical.not_not]) | (refine ⟨fun _ => ?_, fun _ => ?_⟩) | (refine ⟨by omega, ?_⟩) | (intro _)
     all_goals (refine hK _ ?_; clear hK K)
     all_goals
      refine zbu rfl (fun hc4 => ?_) (fun hc4 => ?_)
      ·try simp [zbc, zbb, zbg, zbf, zbq, zbt] at hc4
       all_goals
        refine AW_r rfl rfl fun K hK => ?_
        simp (disch := omega) [zbd, gE, tP, DtInst.cells, DtId.cells, DtCmd.cells, zbc, zbb, zbt, zbq, Classical.not_not]
        repeat' first | (exfalso; omega) | (refine ⟨fun _ => ?_, fun _ => ?_⟩) | (refine ⟨by omega, ?_⟩) | (intro _)
        all_goals (refine hK _ ?_; clear hK K)
        all_goals
         refine zby (zcd ?_)
         simp (disch := omega) [zbd, gE, tP, DtInst.cells, DtId.cells, DtCmd.cells, zbc, zbb, zbt, zbq, Classical.not_not]
         all_goals first | grind [InstsP] | (refine zc4 fun h => ?_; grind [InstsP]) | (refine zcu ?_; grind [InstsP])
      ·try simp [zbc, zbb, zbg, zbf, zbq, zbt] at hc4
       all_goals
        refine zbv ?_
        refine zb4 ?_
        refine zdi rfl rfl fun K hK => ?_
        simp (disch := omega) [zbd, gE, tP, DtInst.cells, DtId.cells, DtCmd.cells, zbc, zbb, zbt, zbq, Classical.not_not]
        repeat' first | (exfalso; omega) | (refine ⟨fun _ => ?_, fun _ => ?_⟩) | (refine ⟨by omega, ?_⟩) | (intro _)
        all_goals (refine hK _ ?_; clear hK K)
        all_goals
         refine ⟨_, LeS.kp [(0, .sl 16 (l.map DtInst.cells)), (3, (.g (.int .i64 (((i + 1) : Nat)))))] (by simp [KpE, zbl, zb5, zbi]; try rfl), _, ?_, i + 1, rfl, ?_, rfl⟩
         ·omega
         ·refine ⟨by omega, ?_⟩; clear hg' hl2; grind
  ·try simp [zbc, zbb, zbg, zbf, zbq, zbt] at hc3
   all_goals
    refine zch ?_
    refine zb4 ?_
    refine AW_r rfl rfl fun K hK => ?_
    simp (disch := omega) [zbd, gE, tP, DtInst.cells, DtId.cells, DtCmd.cells, zbc, zbb, zbt, zbq, Classical.not_not]
    repeat' first | (exfalso; omega) | (refine ⟨fun _ => ?_, fun _ => ?_⟩) | (refine ⟨by omega, ?_⟩) | (intro _)
    all_goals (refine hK _ ?_; clear hK K)
    all_goals
     refine zby (zcd ?_)
     simp (disch := omega) [zbd, gE, tP, DtInst.cells, DtId.cells, DtCmd.cells, zbc, zbb, zbt, zbq, Classical.not_not]
     all_goals first | grind [InstsP] | (refine zc4 fun h => ?_; grind [InstsP]) | (refine zcu ?_; grind [InstsP])
theorem zdq (l : List DtInst) (hs : szS DtInst.sz l ≤ 1048576) : PCall Tryz.prog 46 [.sl 16 (l.map DtInst.cells)] (.g (.bool (decB (InstsP l)))) := by
 have ⟨hl, hl2⟩ := instsSz l hs
 refine zbz Tryz.func46 (by rfl) (by rfl) (by rw [Tryz.ntmps46]; exact Nat.le_of_ble_eq_true rfl) rfl (by decide) ?_
 rw [Tryz.ntmps46]
 refine AW_k [(0, _)] ⟨rfl, trivial⟩ ?_
 refine AW_r rfl rfl fun K hK => ?_
 simp (disch := omega) [zbd, gE, tP, DtInst.cells, DtId.cells, DtCmd.cells, zbc, zbb, zbt, zbq, Classical.not_not]
 repeat' first | (refine ⟨by omega, ?_⟩) | (intro _)
 refine hK _ ?_; clear hK K
 refine zbr ?_
 refine AW_r rfl rfl fun K hK => ?_
 simp (disch := omega) [zbd, gE, tP, DtInst.cells, DtId.cells, DtCmd.cells, zbc, zbb, zbt, zbq, Classical.not_not]
 repeat' first | (refine ⟨by omega, ?_⟩) | (intro _)
 refine hK _ ?_; clear hK K
 refine zb0 ?_
 refine zcf (fun mM sS => ∃ (i : Nat), mM = l.length - i ∧ (i ≤ l.length ∧ ∀ (j : Nat) x, j < i → l[j]? = some x → InstP x ∧ ∀ y, 0 < j → l[j - 1]? = some y → idLt y.fId x.fId) ∧ sS = { env := lkE [(0, .sl 16 (l.map DtInst.cells)), (5, .sl 16 (l.map DtInst.cells)), (6, (.g (.int .i64 ((l.length : Nat))))), (7, (.g (.int .i64 ((i : Nat)))))], ob := lk [] }) ?_ ?_
 ·refine ⟨_, LeS.ko [(0, .sl 16 (l.map DtInst.cells)), (5, .sl 16 (l.map DtInst.cells)), (6, (.g (.int .i64 ((l.length : Nat))))), (7, (.g (.int .i64 (((0) : Nat)))))] [] (by simp [KpE, zbl, zb5, zbi]; try rfl) (by simp [KpO, zbl, zbi, zbp, zcj]; try rfl) (by rfl) (by simp) (by rfl), _, 0, rfl, ?_, rfl⟩
  ·simp
 ·rintro mM sS ⟨i, rfl, ⟨hi, hpre⟩, rfl⟩
  refine AW_r rfl rfl fun K hK => ?_
  simp (disch := omega) [zbd, gE, tP, DtInst.cells, DtId.cells, DtCmd.cells, zbc, zbb, zbt, zbq, Classical.not_not]
  repeat' first | (refine ⟨by omega, ?_⟩) | (intro _)
  refine hK _ ?_; clear hK K
  refine zbr ?_
  refine zbu rfl (fun hc5 => ?_) (fun hc5 => ?_)
  ·try simp [zbc, zbb, zbg, zbf, zbq, zbt] at hc5
   all_goals
    have hg : l[i]? = some l[i] := List.getElem?_eq_getElem (by omega)
    have hg' : l[i - 1]? = some l[i - 1] := List.getElem?_eq_getElem (by omega)
    have hm := hl2 i (by omega)
    rcases Nat.eq_zero_or_pos i with hi0 | hi0
    all_goals
     refine zbv ?_
     refine zb4 ?_
     refine zbr ?_
     refine zb0 ?_
     refine AW_r rfl rfl fun K hK => ?_
     simp (disch := omega) [zbd, gE, tP, DtInst.cells, DtId.cells, DtCmd.cells, zbc, zbb, zbt, zbq, Classical.not_not]
     repeat' first | (exfalso; omega) | (refine ⟨fun _ => ?_, fun _ => ?_⟩) | (refine ⟨by omega, ?_⟩) | (intro _)
     all_goals (refine hK _ ?_; clear hK K)
     all_goals
      refine AW_q rfl mix (by kernel_rfl) rfl fun K hK => ?_
      simp (disch := omega) [zbd, gE, tP, DtInst.cells, DtId.cells, DtCmd.cells, zbc, zbb, zbt, zbq, Classical.not_not]
      repeat' first | (exfalso; omega) | (refine zco (zbh (zcb rfl) zbs) (instOk _ (by assumption)) rfl ?_; simp (disch := omega) [zbd, gE, tP, DtInst.cells, DtId.cells, DtCmd.cells, zbc, zbb, zbt, zbq, Classical.not_not]) | (refine zco (zbh (zcb rfl) (zbh (zcb rfl) zbs)) (zhp _ _) rfl ?_; simp (disch := omega) [zbd, gE, tP, DtInst.cells, DtId.cells, DtCmd.cells, zbc, zbb, zbt, zbq, Classical.not_not]) | (refine ⟨fun _ => ?_, fun _ => ?_⟩) | (refine ⟨by omega, ?_⟩) | (intro _)
      all_goals (refine hK _ ?_; clear hK K)
      all_goals
       refine zbu rfl (fun hc6 => ?_) (fun hc6 => ?_)
       ·try simp [zbc, zbb, zbg, zbf, zbq, zbt] at hc6
        all_goals
         refine AW_r rfl rfl fun K hK => ?_
         simp (disch := omega) [zbd, gE, tP, DtInst.cells, DtId.cells, DtCmd.cells, zbc, zbb, zbt, zbq, Classical.not_not]
         repeat' first | (exfalso; omega) | (refine ⟨fun _ => ?_, fun _ => ?_⟩) | (refine ⟨by omega, ?_⟩) | (intro _)
         all_goals (refine hK _ ?_; clear hK K)
         all_goals
          refine zby (zcd ?_)
          simp (disch := omega) [zbd, gE, tP, DtInst.cells, DtId.cells, DtCmd.cells, zbc, zbb, zbt, zbq, Classical.not_not]
          all_goals first | grind [InstsP] | (refine zc4 fun h => ?_; grind [InstsP]) | (refine zcu ?_; grind [InstsP])
       ·try simp [zbc, zbb, zbg, zbf, zbq, zbt] at hc6
        all_goals
         refine zbv ?_
         refine zb4 ?_
         refine zdi rfl rfl fun K hK => ?_
         simp (disch := omega) [zbd, gE, tP, DtInst.cells, DtId.cells, DtCmd.cells, zbc, zbb, zbt, zbq, Classical.not_not]
         repeat' first | (exfalso; omega) | (refine ⟨fun _ => ?_, fun _ => ?_⟩) | (refine ⟨by omega, ?_⟩) | (intro _)
         all_goals (refine hK _ ?_; clear hK K)
         all_goals
          refine ⟨_, LeS.ko [(0, .sl 16 (l.map DtInst.cells)), (5, .sl 16 (l.map DtInst.cells)), (6, (.g (.int .i64 ((l.length : Nat))))), (7, (.g (.int .i64 (((i + 1) : Nat)))))] [] (by simp [KpE, zbl, zb5, zbi]; try rfl) (by simp [KpO, zbl, zbi, zbp, zcj]; try rfl) (by rfl) (by simp) (by rfl), _, ?_, i + 1, rfl, ?_, rfl⟩
          ·omega
          ·refine ⟨by omega, ?_⟩; clear hg' hl2; grind
  ·try simp [zbc, zbb, zbg, zbf, zbq, zbt] at hc5
   all_goals
    refine zch ?_
    refine zb4 ?_
    refine AW_r rfl rfl fun K hK => ?_
    simp (disch := omega) [zbd, gE, tP, DtInst.cells, DtId.cells, DtCmd.cells, zbc, zbb, zbt, zbq, Classical.not_not]
    repeat' first | (exfalso; omega) | (refine ⟨fun _ => ?_, fun _ => ?_⟩) | (refine ⟨by omega, ?_⟩) | (intro _)
    all_goals (refine hK _ ?_; clear hK K)
    all_goals
     refine zby (zcd ?_)
     simp (disch := omega) [zbd, gE, tP, DtInst.cells, DtId.cells, DtCmd.cells, zbc, zbb, zbt, zbq, Classical.not_not]
     all_goals first | grind [InstsP] | (refine zc4 fun h => ?_; grind [InstsP]) | (refine zcu ?_; grind [InstsP])
end Go.Proofs.YtfbmhgiokfpgiaaGreat.Vs
