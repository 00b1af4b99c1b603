import Derived.Test.YtfbmhgiokfpgiaaSE1
open Go Go.Proofs Go.Proofs.Ytfbmhgiokfpgiaa.Vs
namespace Go.Proofs.Ytfbmhgiokfpgiaa.Vs
set_option linter.all false
set_option linter.unusedSimpArgs false
set_option linter.unusedVariables false
set_option maxRecDepth 100000
def InstP (x : DtInst) : Prop := IdP x.fId ∧ -1 ≤ x.fBal ∧ x.fBal ≤ 600 ∧ -1 ≤ x.fVBal ∧ x.fVBal ≤ x.fBal ∧ 0 ≤ x.fStatus ∧ x.fStatus ≤ 3 ∧ CmdP x.fCmd ∧ 0 ≤ x.fSeq ∧ x.fSeq ≤ 60 ∧ IdsP x.fDeps ∧ ¬ x.fId ∈ x.fDeps ∧ (x.fStatus ≠ 0 ∨ (x.fVBal = -1 ∧ x.fCmd.fKind = 0 ∧ x.fSeq = 0 ∧ x.fDeps = [] ∧ x.fSame = false))
def InstsP (l : List DtInst) : Prop := ∀ (i : Nat) x, l[i]? = some x → InstP x ∧ ∀ y, 0 < i → l[i - 1]? = some y → idLt y.fId x.fId
theorem zzy (x : DtInst) (hs : DtInst.sz x ≤ 1048576) : DtCmd.sz x.fCmd ≤ 1048576 ∧ x.fDeps.length ≤ 1048576 := by
 have h1 := DtCmd.sz_nonneg x.fCmd
 simp only [DtInst.sz] at hs
 omega
theorem zzz (l : List DtInst) (hs : szS DtInst.sz l ≤ 1048576) : l.length ≤ 1048576 ∧ ∀ i (h : i < l.length), DtInst.sz l[i] ≤ 1048576 := by
 have h0 := zcp DtInst.sz_nonneg l
 simp only [szS] at hs
 refine ⟨by omega, fun i h => ?_⟩
 have h1 := zgh DtInst.sz_nonneg l l[i] (List.getElem_mem _)
 omega
theorem l8Inst (x : DtInst) (hs : DtInst.sz x ≤ 1048576) : PCall Try.prog 33 [.agg (DtInst.cells x)] (.g (.bool (decB (InstP x)))) := by
 have ⟨hc, hd⟩ := zzy x hs
 refine zbu Try.func33 (by rfl) (by rfl) (by rw [Try.ntmps33]; exact Nat.le_of_ble_eq_true rfl) rfl (by decide) ?_
 rw [Try.ntmps33]
 refine AW_k [(0, _)] ⟨rfl, trivial⟩ ?_
 refine AW_r rfl rfl fun K hK => ?_
 simp (disch := omega) [zbd, gE, tP, DtInst.cells, DtId.cells, DtCmd.cells, zbb, zba, len0]
 repeat' first | (refine ⟨by omega, ?_⟩) | (intro _)
 refine hK _ ?_; clear hK K
 refine zbt ?_
 refine AW_r rfl rfl fun K hK => ?_
 simp (disch := omega) [zbd, gE, tP, DtInst.cells, DtId.cells, DtCmd.cells, zbb, zba, len0]
 repeat' first | (exfalso; omega) | (refine zck (zbg (zb6 rfl) zbr) (l8Id _) rfl ?_; simp (disch := omega) [zbd, gE, tP, DtInst.cells, DtId.cells, DtCmd.cells, zbb, zba, len0]) | (refine zck (zbg zc5 (zbg zc5 (zbg zc5 zbr))) (l1In _ _ _) rfl ?_; simp (disch := omega) [zbd, gE, tP, DtInst.cells, DtId.cells, DtCmd.cells, zbb, zba, len0]) | (refine zck (zbg (zb6 rfl) zbr) (zzs _ (by assumption)) rfl ?_; simp (disch := omega) [zbd, gE, tP, DtInst.cells, DtId.cells, DtCmd.cells, zbb, zba, len0]) | (refine zck (zbg zca zbr) (zzv _ (by assumption)) rfl ?_; simp (disch := omega) [zbd, gE, tP, DtInst.cells, DtId.cells, DtCmd.cells, zbb, zba, len0]) | (refine zck (zbg zca (zbg (zb6 rfl) zbr)) (zwe _ _ (by assumption)) rfl ?_; simp (disch := omega) [zbd, gE, tP, DtInst.cells, DtId.cells, DtCmd.cells, zbb, zba, len0]) | (refine ⟨fun _ => ?_, fun _ => ?_⟩) | (refine ⟨by omega, ?_⟩) | (intro _)
 all_goals (refine hK _ ?_; clear hK K)
 all_goals
  refine zbv rfl (fun hc1 => ?_) (fun hc1 => ?_)
  ·try simp [zbb, zba, zbf, zbe, zbp, zbq] at hc1
   all_goals
    refine AW_r rfl rfl fun K hK => ?_
    simp (disch := omega) [zbd, gE, tP, DtInst.cells, DtId.cells, DtCmd.cells, zbb, zba, len0]
    repeat' first | (exfalso; omega) | (refine ⟨fun _ => ?_, fun _ => ?_⟩) | (refine ⟨by omega, ?_⟩) | (intro _)
    all_goals (refine hK _ ?_; clear hK K)
    all_goals
     refine zbz (zcb ?_)
     simp (disch := omega) [zbd, gE, tP, DtInst.cells, DtId.cells, DtCmd.cells, zbb, zba, len0]
     all_goals first | grind [InstP] | (refine zcx fun h => ?_; grind [InstP]) | (refine zco ?_; grind [InstP]) | (rw [Bool.eq_iff_iff, zbb]; simp; grind [InstP])
  ·try simp [zbb, zba, zbf, zbe, zbp, zbq] at hc1
   all_goals
    refine zbw ?_
    refine zb3 ?_
    refine AW_r rfl rfl fun K hK => ?_
    simp (disch := omega) [zbd, gE, tP, DtInst.cells, DtId.cells, DtCmd.cells, zbb, zba, len0]
    repeat' first | (exfalso; omega) | (refine ⟨fun _ => ?_, fun _ => ?_⟩) | (refine ⟨by omega, ?_⟩) | (intro _)
    all_goals (refine hK _ ?_; clear hK K)
    all_goals
     refine zbz (zcb ?_)
     simp (disch := omega) [zbd, gE, tP, DtInst.cells, DtId.cells, DtCmd.cells, zbb, zba, len0]
     all_goals first | grind [InstP] | (refine zcx fun h => ?_; grind [InstP]) | (refine zco ?_; grind [InstP]) | (rw [Bool.eq_iff_iff, zbb]; simp; grind [InstP])
theorem instOk (x : DtInst) (hs : DtInst.sz x ≤ 1048576) : PCall Try.prog 39 [.agg (DtInst.cells x)] (.g (.bool (decB (InstP x)))) := by
 have ⟨hc, hd⟩ := zzy x hs
 refine zbu Try.func39 (by rfl) (by rfl) (by rw [Try.ntmps39]; exact Nat.le_of_ble_eq_true rfl) rfl (by decide) ?_
 rw [Try.ntmps39]
 refine AW_k [(0, _)] ⟨rfl, trivial⟩ ?_
 refine AW_r rfl rfl fun K hK => ?_
 simp (disch := omega) [zbd, gE, tP, DtInst.cells, DtId.cells, DtCmd.cells, zbb, zba, len0]
 repeat' first | (refine ⟨by omega, ?_⟩) | (intro _)
 refine hK _ ?_; clear hK K
 refine zbt ?_
 refine AW_r rfl rfl fun K hK => ?_
 simp (disch := omega) [zbd, gE, tP, DtInst.cells, DtId.cells, DtCmd.cells, zbb, zba, len0]
 repeat' first | (exfalso; omega) | (refine zck (zbg (zb6 rfl) zbr) (idOk _) rfl ?_; simp (disch := omega) [zbd, gE, tP, DtInst.cells, DtId.cells, DtCmd.cells, zbb, zba, len0]) | (refine zck (zbg zc5 (zbg zc5 (zbg zc5 zbr))) (zm1 _ _ _) rfl ?_; simp (disch := omega) [zbd, gE, tP, DtInst.cells, DtId.cells, DtCmd.cells, zbb, zba, len0]) | (refine zck (zbg (zb6 rfl) zbr) (zzt _ (by assumption)) rfl ?_; simp (disch := omega) [zbd, gE, tP, DtInst.cells, DtId.cells, DtCmd.cells, zbb, zba, len0]) | (refine zck (zbg zca zbr) (zzw _ (by assumption)) rfl ?_; simp (disch := omega) [zbd, gE, tP, DtInst.cells, DtId.cells, DtCmd.cells, zbb, zba, len0]) | (refine zck (zbg zca (zbg (zb6 rfl) zbr)) (zds _ _ (by assumption)) rfl ?_; simp (disch := omega) [zbd, gE, tP, DtInst.cells, DtId.cells, DtCmd.cells, zbb, zba, len0]) | (refine ⟨fun _ => ?_, fun _ => ?_⟩) | (refine ⟨by omega, ?_⟩) | (intro _)
 all_goals (refine hK _ ?_; clear hK K)
 all_goals
  refine zbv rfl (fun hc2 => ?_) (fun hc2 => ?_)
  ·try simp [zbb, zba, zbf, zbe, zbp, zbq] at hc2
   all_goals
    refine AW_r rfl rfl fun K hK => ?_
    simp (disch := omega) [zbd, gE, tP, DtInst.cells, DtId.cells, DtCmd.cells, zbb, zba, len0]
    repeat' first | (exfalso; omega) | (refine ⟨fun _ => ?_, fun _ => ?_⟩) | (refine ⟨by omega, ?_⟩) | (intro _)
    all_goals (refine hK _ ?_; clear hK K)
    all_goals
     refine zbz (zcb ?_)
     simp (disch := omega) [zbd, gE, tP, DtInst.cells, DtId.cells, DtCmd.cells, zbb, zba, len0]
     all_goals first | grind [InstP] | (refine zcx fun h => ?_; grind [InstP]) | (refine zco ?_; grind [InstP]) | (rw [Bool.eq_iff_iff, zbb]; simp; grind [InstP])
  ·try simp [zbb, zba, zbf, zbe, zbp, zbq] at hc2
   all_goals
    refine zbw ?_
    refine zb3 ?_
    refine AW_r rfl rfl fun K hK => ?_
    simp (disch := omega) [zbd, gE, tP, DtInst.cells, DtId.cells, DtCmd.cells, zbb, zba, len0]
    repeat' first | (exfalso; omega) | (refine ⟨fun _ => ?_, fun _ => ?_⟩) | (refine ⟨by omega, ?_⟩) | (intro _)
    all_goals (refine hK _ ?_; clear hK K)
    all_goals
     refine zbz (zcb ?_)
     simp (disch := omega) [zbd, gE, tP, DtInst.cells, DtId.cells, DtCmd.cells, zbb, zba, len0]
     all_goals first | grind [InstP] | (refine zcx fun h => ?_; grind [InstP]) | (refine zco ?_; grind [InstP]) | (rw [Bool.eq_iff_iff, zbb]; simp; grind [InstP])
theorem zgj (l : List DtInst) (hs : szS DtInst.sz l ≤ 1048576) : PCall Try.prog 18 [.sl 16 (l.map DtInst.cells)] (.g (.bool (decB (InstsP l)))) := by
 have ⟨hl, hl2⟩ := zzz l hs
 refine zbu Try.func18 (by rfl) (by rfl) (by rw [Try.ntmps18]; exact Nat.le_of_ble_eq_true rfl) rfl (by decide) ?_
 rw [Try.ntmps18]
 refine AW_k [(0, _)] ⟨rfl, trivial⟩ ?_
 refine AW_r rfl rfl fun K hK => ?_
 simp (disch := omega) [zbd, gE, tP, DtInst.cells, DtId.cells, DtCmd.cells, zbb, zba, zbq, zbp, Classical.not_not]
 repeat' first | (refine ⟨by omega, ?_⟩) | (intro _)
 refine hK _ ?_; clear hK K
 refine zbt ?_
 refine AW_r rfl rfl fun K hK => ?_
 simp (disch := omega) [zbd, gE, tP, DtInst.cells, DtId.cells, DtCmd.cells, zbb, zba, zbq, zbp, Classical.not_not]
 repeat' first | (refine ⟨by omega, ?_⟩) | (intro _)
 refine hK _ ?_; clear hK K
 refine zb0 ?_
 refine zcc (fun mM sS => ∃ (i : Nat), mM = l.length - i ∧ (i ≤ l.length ∧ ∀ (j : Nat) x, j < i → l[j]? = some x → InstP x ∧ ∀ y, 0 < j → l[j - 1]? = some y → idLt y.fId x.fId) ∧ sS = { env := lkE [(0, .sl 16 (l.map DtInst.cells)), (3, (.g (.int .i64 ((i : Nat)))))], ob := formOb [] [] }) ?_ ?_
 ·refine ⟨_, LeS.kp [(0, .sl 16 (l.map DtInst.cells)), (3, (.g (.int .i64 (((0) : Nat)))))] (by simp [KpE, zbn, zb4, zbk]; try rfl), _, 0, rfl, ?_, rfl⟩
  ·simp
 ·rintro mM sS ⟨i, rfl, ⟨hi, hpre⟩, rfl⟩
  refine zbt ?_
  refine AW_r rfl rfl fun K hK => ?_
  simp (disch := omega) [zbd, gE, tP, DtInst.cells, DtId.cells, DtCmd.cells, zbb, zba, zbq, zbp, Classical.not_not]
  repeat' first | (refine ⟨by omega, ?_⟩) | (intro _)
  refine hK _ ?_; clear hK K
  refine zbv rfl (fun hc3 => ?_) (fun hc3 => ?_)
  ·try simp [zbb, zba, zbf, zbe, zbp, zbq] at hc3
   all_goals
    have hg : l[i]? = some l[i] := List.getElem?_eq_getElem (by omega)
    have hg' : l[i - 1]? = some l[i - 1] := List.getElem?_eq_getElem (by omega)
    have hm := hl2 i (by omega)
    rcases Nat.eq_zero_or_pos i with hi0 | hi0
    all_goals
     refine zbw ?_
     refine zb3 ?_
     refine zbt ?_
     refine zb0 ?_
     refine AW_q rfl mix (by kernel_rfl) rfl fun K hK => ?_
     simp (disch := omega) [zbd, gE, tP, DtInst.cells, DtId.cells, DtCmd.cells, zbb, zba, zbq, zbp, Classical.not_not]
     repeat' first | (exfalso; omega) | (refine zck (zbg (zb6 rfl) zbr) (l8Inst _ (by assumption)) rfl ?_; simp (disch := omega) [zbd, gE, tP, DtInst.cells, DtId.cells, DtCmd.cells, zbb, zba, zbq, zbp, Classical.not_not]) | (refine zck (zbg (zb6 rfl) (zbg (zb6 rfl) zbr)) (zzu _ _) rfl ?_; simp (disch := omega) [zbd, gE, tP, DtInst.cells, DtId.cells, DtCmd.cells, zbb, zba, zbq, zbp, Classical.not_not]) | (refine ⟨fun _ => ?_, fun _ => ?_⟩) | (refine ⟨by omega, ?_⟩) | (intro _)
     all_goals (refine hK _ ?_; clear hK K)
     all_goals
      refine zbv rfl (fun hc4 => ?_) (fun hc4 => ?_)
      ·try simp [zbb, zba, zbf, zbe, zbp, zbq] at hc4
       all_goals
        refine AW_r rfl rfl fun K hK => ?_
        simp (disch := omega) [zbd, gE, tP, DtInst.cells, DtId.cells, DtCmd.cells, zbb, zba, zbq, zbp, Classical.not_not]
        repeat' first | (exfalso; omega) | (refine ⟨fun _ => ?_, fun _ => ?_⟩) | (refine ⟨by omega, ?_⟩) | (intro _)
        all_goals (refine hK _ ?_; clear hK K)
        all_goals
         refine zbz (zcb ?_)
         simp (disch := omega) [zbd, gE, tP, DtInst.cells, DtId.cells, DtCmd.cells, zbb, zba, zbq, zbp, Classical.not_not]
         all_goals first | grind [InstsP] | (refine zcx fun h => ?_; grind [InstsP]) | (refine zco ?_; grind [InstsP])
      ·try simp [zbb, zba, zbf, zbe, zbp, zbq] at hc4
       all_goals
        refine zbw ?_
        refine zb3 ?_
        refine zdf rfl rfl fun K hK => ?_
        simp (disch := omega) [zbd, gE, tP, DtInst.cells, DtId.cells, DtCmd.cells, zbb, zba, zbq, zbp, Classical.not_not]
        repeat' first | (exfalso; omega) | (refine ⟨fun _ => ?_, fun _ => ?_⟩) | (refine ⟨by omega, ?_⟩) | (intro _)
        all_goals (refine hK _ ?_; clear hK K)
        all_goals
         refine ⟨_, LeS.kp [(0, .sl 16 (l.map DtInst.cells)), (3, (.g (.int .i64 (((i + 1) : Nat)))))] (by simp [KpE, zbn, zb4, zbk]; try rfl), _, ?_, i + 1, rfl, ?_, rfl⟩
         ·omega
         ·refine ⟨by omega, ?_⟩; clear hg' hl2; grind
  ·try simp [zbb, zba, zbf, zbe, zbp, zbq] at hc3
   all_goals
    refine zce ?_
    refine zb3 ?_
    refine AW_r rfl rfl fun K hK => ?_
    simp (disch := omega) [zbd, gE, tP, DtInst.cells, DtId.cells, DtCmd.cells, zbb, zba, zbq, zbp, Classical.not_not]
    repeat' first | (exfalso; omega) | (refine ⟨fun _ => ?_, fun _ => ?_⟩) | (refine ⟨by omega, ?_⟩) | (intro _)
    all_goals (refine hK _ ?_; clear hK K)
    all_goals
     refine zbz (zcb ?_)
     simp (disch := omega) [zbd, gE, tP, DtInst.cells, DtId.cells, DtCmd.cells, zbb, zba, zbq, zbp, Classical.not_not]
     all_goals first | grind [InstsP] | (refine zcx fun h => ?_; grind [InstsP]) | (refine zco ?_; grind [InstsP])
theorem zdg (l : List DtInst) (hs : szS DtInst.sz l ≤ 1048576) : PCall Try.prog 21 [.sl 16 (l.map DtInst.cells)] (.g (.bool (decB (InstsP l)))) := by
 have ⟨hl, hl2⟩ := zzz l hs
 refine zbu Try.func21 (by rfl) (by rfl) (by rw [Try.ntmps21]; exact Nat.le_of_ble_eq_true rfl) rfl (by decide) ?_
 rw [Try.ntmps21]
 refine AW_k [(0, _)] ⟨rfl, trivial⟩ ?_
 refine AW_r rfl rfl fun K hK => ?_
 simp (disch := omega) [zbd, gE, tP, DtInst.cells, DtId.cells, DtCmd.cells, zbb, zba, zbq, zbp, Classical.not_not]
 repeat' first | (refine ⟨by omega, ?_⟩) | (intro _)
 refine hK _ ?_; clear hK K
 refine zbt ?_
 refine AW_r rfl rfl fun K hK => ?_
 simp (disch := omega) [zbd, gE, tP, DtInst.cells, DtId.cells, DtCmd.cells, zbb, zba, zbq, zbp, Classical.not_not]
 repeat' first | (refine ⟨by omega, ?_⟩) | (intro _)
 refine hK _ ?_; clear hK K
 refine zb0 ?_
 refine zcc (fun mM sS => ∃ (i : Nat), mM = l.length - i ∧ (i ≤ l.length ∧ ∀ (j : Nat) x, j < i → l[j]? = some x → InstP x ∧ ∀ y, 0 < j → l[j - 1]? = some y → idLt y.fId x.fId) ∧ sS = { env := lkE [(0, .sl 16 (l.map DtInst.cells)), (5, .sl 16 (l.map DtInst.cells)), (6, (.g (.int .i64 ((l.length : Nat))))), (7, (.g (.int .i64 ((i : Nat)))))], ob := lk [] }) ?_ ?_
 ·refine ⟨_, LeS.ko [(0, .sl 16 (l.map DtInst.cells)), (5, .sl 16 (l.map DtInst.cells)), (6, (.g (.int .i64 ((l.length : Nat))))), (7, (.g (.int .i64 (((0) : Nat)))))] [] (by simp [KpE, zbn, zb4, zbk]; try rfl) (by simp [KpO, zbn, zbk, zbx, zcf]; try rfl) (by rfl) (by simp) (by rfl), _, 0, rfl, ?_, rfl⟩
  ·simp
 ·rintro mM sS ⟨i, rfl, ⟨hi, hpre⟩, rfl⟩
  refine AW_r rfl rfl fun K hK => ?_
  simp (disch := omega) [zbd, gE, tP, DtInst.cells, DtId.cells, DtCmd.cells, zbb, zba, zbq, zbp, Classical.not_not]
  repeat' first | (refine ⟨by omega, ?_⟩) | (intro _)
  refine hK _ ?_; clear hK K
  refine zbt ?_
  refine zbv rfl (fun hc5 => ?_) (fun hc5 => ?_)
  ·try simp [zbb, zba, zbf, zbe, zbp, zbq] at hc5
   all_goals
    have hg : l[i]? = some l[i] := List.getElem?_eq_getElem (by omega)
    have hg' : l[i - 1]? = some l[i - 1] := List.getElem?_eq_getElem (by omega)
    have hm := hl2 i (by omega)
    rcases Nat.eq_zero_or_pos i with hi0 | hi0
    all_goals
     refine zbw ?_
     refine zb3 ?_
     refine zbt ?_
     refine zb0 ?_
     refine AW_r rfl rfl fun K hK => ?_
     simp (disch := omega) [zbd, gE, tP, DtInst.cells, DtId.cells, DtCmd.cells, zbb, zba, zbq, zbp, Classical.not_not]
     repeat' first | (exfalso; omega) | (refine ⟨fun _ => ?_, fun _ => ?_⟩) | (refine ⟨by omega, ?_⟩) | (intro _)
     all_goals (refine hK _ ?_; clear hK K)
     all_goals
      refine AW_q rfl mix (by kernel_rfl) rfl fun K hK => ?_
      simp (disch := omega) [zbd, gE, tP, DtInst.cells, DtId.cells, DtCmd.cells, zbb, zba, zbq, zbp, Classical.not_not]
      repeat' first | (exfalso; omega) | (refine zck (zbg (zb6 rfl) zbr) (instOk _ (by assumption)) rfl ?_; simp (disch := omega) [zbd, gE, tP, DtInst.cells, DtId.cells, DtCmd.cells, zbb, zba, zbq, zbp, Classical.not_not]) | (refine zck (zbg (zb6 rfl) (zbg (zb6 rfl) zbr)) (zg9 _ _) rfl ?_; simp (disch := omega) [zbd, gE, tP, DtInst.cells, DtId.cells, DtCmd.cells, zbb, zba, zbq, zbp, Classical.not_not]) | (refine ⟨fun _ => ?_, fun _ => ?_⟩) | (refine ⟨by omega, ?_⟩) | (intro _)
      all_goals (refine hK _ ?_; clear hK K)
      all_goals
       refine zbv rfl (fun hc6 => ?_) (fun hc6 => ?_)
       ·try simp [zbb, zba, zbf, zbe, zbp, zbq] at hc6
        all_goals
         refine AW_r rfl rfl fun K hK => ?_
         simp (disch := omega) [zbd, gE, tP, DtInst.cells, DtId.cells, DtCmd.cells, zbb, zba, zbq, zbp, Classical.not_not]
         repeat' first | (exfalso; omega) | (refine ⟨fun _ => ?_, fun _ => ?_⟩) | (refine ⟨by omega, ?_⟩) | (intro _)
         all_goals (refine hK _ ?_; clear hK K)
         all_goals
          refine zbz (zcb ?_)
          simp (disch := omega) [zbd, gE, tP, DtInst.cells, DtId.cells, DtCmd.cells, zbb, zba, zbq, zbp, Classical.not_not]
          all_goals first | grind [InstsP] | (refine zcx fun h => ?_; grind [InstsP]) | (refine zco ?_; grind [InstsP])
       ·try simp [zbb, zba, zbf, zbe, zbp, zbq] at hc6
        all_goals
         refine zbw ?_
         refine zb3 ?_
         refine zdf rfl rfl fun K hK => ?_
         simp (disch := omega) [zbd, gE, tP, DtInst.cells, DtId.cells, DtCmd.cells, zbb, zba, zbq, zbp, Classical.not_not]
         repeat' first | (exfalso; omega) | (refine ⟨fun _ => ?_, fun _ => ?_⟩) | (refine ⟨by omega, ?_⟩) | (intro _)
         all_goals (refine hK _ ?_; clear hK K)
         all_goals
          refine ⟨_, LeS.ko [(0, .sl 16 (l.map DtInst.cells)), (5, .sl 16 (l.map DtInst.cells)), (6, (.g (.int .i64 ((l.length : Nat))))), (7, (.g (.int .i64 (((i + 1) : Nat)))))] [] (by simp [KpE, zbn, zb4, zbk]; try rfl) (by simp [KpO, zbn, zbk, zbx, zcf]; try rfl) (by rfl) (by simp) (by rfl), _, ?_, i + 1, rfl, ?_, rfl⟩
          ·omega
          ·refine ⟨by omega, ?_⟩; clear hg' hl2; grind
  ·try simp [zbb, zba, zbf, zbe, zbp, zbq] at hc5
   all_goals
    refine zce ?_
    refine zb3 ?_
    refine AW_r rfl rfl fun K hK => ?_
    simp (disch := omega) [zbd, gE, tP, DtInst.cells, DtId.cells, DtCmd.cells, zbb, zba, zbq, zbp, Classical.not_not]
    repeat' first | (exfalso; omega) | (refine ⟨fun _ => ?_, fun _ => ?_⟩) | (refine ⟨by omega, ?_⟩) | (intro _)
    all_goals (refine hK _ ?_; clear hK K)
    all_goals
     refine zbz (zcb ?_)
     simp (disch := omega) [zbd, gE, tP, DtInst.cells, DtId.cells, DtCmd.cells, zbb, zba, zbq, zbp, Classical.not_not]
     all_goals first | grind [InstsP] | (refine zcx fun h => ?_; grind [InstsP]) | (refine zco ?_; grind [InstsP])
end Go.Proofs.Ytfbmhgiokfpgiaa.Vs
