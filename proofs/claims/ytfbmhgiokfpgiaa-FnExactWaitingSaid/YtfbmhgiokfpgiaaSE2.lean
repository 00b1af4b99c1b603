import Derived.Test.YtfbmhgiokfpgiaaSE1
open Go Go.Proofs Go.Proofs.Ytfbmhgiokfpgiaa.Vs
namespace Go.Proofs.Ytfbmhgiokfpgiaa.Vs
set_option linter.all false
set_option linter.unusedSimpArgs false
set_option linter.unusedVariables false
set_option maxRecDepth 100000
def InstP (x : DtInst) : Prop := IdP x.fId ∧ -1 ≤ x.fBal ∧ x.fBal ≤ 600 ∧ -1 ≤ x.fVBal ∧ x.fVBal ≤ x.fBal ∧ 0 ≤ x.fStatus ∧ x.fStatus ≤ 3 ∧ CmdP x.fCmd ∧ 0 ≤ x.fSeq ∧ x.fSeq ≤ 60 ∧ IdsP x.fDeps ∧ ¬ x.fId ∈ x.fDeps ∧ (x.fStatus ≠ 0 ∨ (x.fVBal = -1 ∧ x.fCmd.fKind = 0 ∧ x.fSeq = 0 ∧ x.fDeps = [] ∧ x.fSame = false))
def InstsP (l : List DtInst) : Prop := ∀ (i : Nat) x, l[i]? = some x → InstP x ∧ ∀ y, 0 < i → l[i - 1]? = some y → idLt y.fId x.fId
theorem zwy (x : DtInst) (hs : DtInst.sz x ≤ 1048576) : DtCmd.sz x.fCmd ≤ 1048576 ∧ x.fDeps.length ≤ 1048576 := by
 have h1 := DtCmd.sz_nonneg x.fCmd
 simp only [DtInst.sz] at hs
 omega
theorem zq4 (l : List DtInst) (hs : szS DtInst.sz l ≤ 1048576) : l.length ≤ 1048576 ∧ ∀ i (h : i < l.length), DtInst.sz l[i] ≤ 1048576 := by
 have h0 := zcl DtInst.sz_nonneg l
 simp only [szS] at hs
 refine ⟨by omega, fun i h => ?_⟩
 have h1 := zfc DtInst.sz_nonneg l l[i] (List.getElem_mem _)
 omega
theorem l8Inst (x : DtInst) (hs : DtInst.sz x ≤ 1048576) : PCall Try.prog 33 [.agg (DtInst.cells x)] (.g (.bool (decB (InstP x)))) := by
 have ⟨hc, hd⟩ := zwy x hs
 refine zbq Try.func33 (by rfl) (by rfl) (by rw [Try.ntmps33]; exact Nat.le_of_ble_eq_true rfl) rfl (by decide) ?_
 rw [Try.ntmps33]
 refine AW_k [(0, _)] ⟨rfl, trivial⟩ ?_
 refine AW_r rfl rfl fun K hK => ?_
 simp (disch := omega) [zbc, gE, tP, DtInst.cells, DtId.cells, DtCmd.cells, zba, zbb, len0]
 repeat' first | (refine ⟨by omega, ?_⟩) | (intro _)
 refine hK _ ?_; clear hK K
 refine zbo ?_
 refine AW_r rfl rfl fun K hK => ?_
 simp (disch := omega) [zbc, gE, tP, DtInst.cells, DtId.cells, DtCmd.cells, zba, zbb, len0]
 repeat' first | (exfalso; omega) | (refine zcj (zbg (zb6 rfl) zbn) (l8Id _) rfl ?_; simp (disch := omega) [zbc, gE, tP, DtInst.cells, DtId.cells, DtCmd.cells, zba, zbb, len0]) | (refine zcj (zbg zcr (zbg zcr (zbg zcr zbn))) (l1In _ _ _) rfl ?_; simp (disch := omega) [zbc, gE, tP, DtInst.cells, DtId.cells, DtCmd.cells, zba, zbb, len0]) | (refine zcj (zbg (zb6 rfl) zbn) (zwt _ (by assumption)) rfl ?_; simp (disch := omega) [zbc, gE, tP, DtInst.cells, DtId.cells, DtCmd.cells, zba, zbb, len0]) | (refine zcj (zbg zb9 zbn) (zww _ (by assumption)) rfl ?_; simp (disch := omega) [zbc, gE, tP, DtInst.cells, DtId.cells, DtCmd.cells, zba, zbb, len0]) | (refine zcj (zbg zb9 (zbg (zb6 rfl) zbn)) (l8Has _ _ (by assumption)) rfl ?_; simp (disch := omega) [zbc, gE, tP, DtInst.cells, DtId.cells, DtCmd.cells, zba, zbb, len0]) | (refine ⟨fun _ => ?_, fun _ => ?_⟩) | (refine ⟨by omega, ?_⟩) | (intro _)
 all_goals (refine hK _ ?_; clear hK K)
 all_goals
  refine zbr rfl (fun hc1 => ?_) (fun hc1 => ?_)
  ·try simp [zba, zbb, zbf, zbe, zbm, zbp] at hc1
   all_goals
    refine AW_r rfl rfl fun K hK => ?_
    simp (disch := omega) [zbc, gE, tP, DtInst.cells, DtId.cells, DtCmd.cells, zba, zbb, len0]
    repeat' first | (exfalso; omega) | (refine ⟨fun _ => ?_, fun _ => ?_⟩) | (refine ⟨by omega, ?_⟩) | (intro _)
    all_goals (refine hK _ ?_; clear hK K)
    all_goals
     refine zbt (zb4 ?_)
     simp (disch := omega) [zbc, gE, tP, DtInst.cells, DtId.cells, DtCmd.cells, zba, zbb, len0]
     all_goals first | grind [InstP] | (refine zcu fun h => ?_; grind [InstP]) | (refine zct ?_; grind [InstP]) | (rw [Bool.eq_iff_iff, zba]; simp; grind [InstP])
  ·try simp [zba, zbb, zbf, zbe, zbm, zbp] at hc1
   all_goals
    refine zbs ?_
    refine zbx ?_
    refine AW_r rfl rfl fun K hK => ?_
    simp (disch := omega) [zbc, gE, tP, DtInst.cells, DtId.cells, DtCmd.cells, zba, zbb, len0]
    repeat' first | (exfalso; omega) | (refine ⟨fun _ => ?_, fun _ => ?_⟩) | (refine ⟨by omega, ?_⟩) | (intro _)
    all_goals (refine hK _ ?_; clear hK K)
    all_goals
     refine zbt (zb4 ?_)
     simp (disch := omega) [zbc, gE, tP, DtInst.cells, DtId.cells, DtCmd.cells, zba, zbb, len0]
     all_goals first | grind [InstP] | (refine zcu fun h => ?_; grind [InstP]) | (refine zct ?_; grind [InstP]) | (rw [Bool.eq_iff_iff, zba]; simp; grind [InstP])
theorem instOk (x : DtInst) (hs : DtInst.sz x ≤ 1048576) : PCall Try.prog 39 [.agg (DtInst.cells x)] (.g (.bool (decB (InstP x)))) := by
 have ⟨hc, hd⟩ := zwy x hs
 refine zbq Try.func39 (by rfl) (by rfl) (by rw [Try.ntmps39]; exact Nat.le_of_ble_eq_true rfl) rfl (by decide) ?_
 rw [Try.ntmps39]
 refine AW_k [(0, _)] ⟨rfl, trivial⟩ ?_
 refine AW_r rfl rfl fun K hK => ?_
 simp (disch := omega) [zbc, gE, tP, DtInst.cells, DtId.cells, DtCmd.cells, zba, zbb, len0]
 repeat' first | (refine ⟨by omega, ?_⟩) | (intro _)
 refine hK _ ?_; clear hK K
 refine zbo ?_
 refine AW_r rfl rfl fun K hK => ?_
 simp (disch := omega) [zbc, gE, tP, DtInst.cells, DtId.cells, DtCmd.cells, zba, zbb, len0]
 repeat' first | (exfalso; omega) | (refine zcj (zbg (zb6 rfl) zbn) (idOk _) rfl ?_; simp (disch := omega) [zbc, gE, tP, DtInst.cells, DtId.cells, DtCmd.cells, zba, zbb, len0]) | (refine zcj (zbg zcr (zbg zcr (zbg zcr zbn))) (zlz _ _ _) rfl ?_; simp (disch := omega) [zbc, gE, tP, DtInst.cells, DtId.cells, DtCmd.cells, zba, zbb, len0]) | (refine zcj (zbg (zb6 rfl) zbn) (zwu _ (by assumption)) rfl ?_; simp (disch := omega) [zbc, gE, tP, DtInst.cells, DtId.cells, DtCmd.cells, zba, zbb, len0]) | (refine zcj (zbg zb9 zbn) (zwx _ (by assumption)) rfl ?_; simp (disch := omega) [zbc, gE, tP, DtInst.cells, DtId.cells, DtCmd.cells, zba, zbb, len0]) | (refine zcj (zbg zb9 (zbg (zb6 rfl) zbn)) (zh5 _ _ (by assumption)) rfl ?_; simp (disch := omega) [zbc, gE, tP, DtInst.cells, DtId.cells, DtCmd.cells, zba, zbb, len0]) | (refine ⟨fun _ => ?_, fun _ => ?_⟩) | (refine ⟨by omega, ?_⟩) | (intro _)
 all_goals (refine hK _ ?_; clear hK K)
 all_goals
  refine zbr rfl (fun hc2 => ?_) (fun hc2 => ?_)
  ·try simp [zba, zbb, zbf, zbe, zbm, zbp] at hc2
   all_goals
    refine AW_r rfl rfl fun K hK => ?_
    simp (disch := omega) [zbc, gE, tP, DtInst.cells, DtId.cells, DtCmd.cells, zba, zbb, len0]
    repeat' first | (exfalso; omega) | (refine ⟨fun _ => ?_, fun _ => ?_⟩) | (refine ⟨by omega, ?_⟩) | (intro _)
    all_goals (refine hK _ ?_; clear hK K)
    all_goals
     refine zbt (zb4 ?_)
     simp (disch := omega) [zbc, gE, tP, DtInst.cells, DtId.cells, DtCmd.cells, zba, zbb, len0]
     all_goals first | grind [InstP] | (refine zcu fun h => ?_; grind [InstP]) | (refine zct ?_; grind [InstP]) | (rw [Bool.eq_iff_iff, zba]; simp; grind [InstP])
  ·try simp [zba, zbb, zbf, zbe, zbm, zbp] at hc2
   all_goals
    refine zbs ?_
    refine zbx ?_
    refine AW_r rfl rfl fun K hK => ?_
    simp (disch := omega) [zbc, gE, tP, DtInst.cells, DtId.cells, DtCmd.cells, zba, zbb, len0]
    repeat' first | (exfalso; omega) | (refine ⟨fun _ => ?_, fun _ => ?_⟩) | (refine ⟨by omega, ?_⟩) | (intro _)
    all_goals (refine hK _ ?_; clear hK K)
    all_goals
     refine zbt (zb4 ?_)
     simp (disch := omega) [zbc, gE, tP, DtInst.cells, DtId.cells, DtCmd.cells, zba, zbb, len0]
     all_goals first | grind [InstP] | (refine zcu fun h => ?_; grind [InstP]) | (refine zct ?_; grind [InstP]) | (rw [Bool.eq_iff_iff, zba]; simp; grind [InstP])
theorem zf2 (l : List DtInst) (hs : szS DtInst.sz l ≤ 1048576) : PCall Try.prog 18 [.sl 16 (l.map DtInst.cells)] (.g (.bool (decB (InstsP l)))) := by
 have ⟨hl, hl2⟩ := zq4 l hs
 refine zbq Try.func18 (by rfl) (by rfl) (by rw [Try.ntmps18]; exact Nat.le_of_ble_eq_true rfl) rfl (by decide) ?_
 rw [Try.ntmps18]
 refine AW_k [(0, _)] ⟨rfl, trivial⟩ ?_
 refine AW_r rfl rfl fun K hK => ?_
 simp (disch := omega) [zbc, gE, tP, DtInst.cells, DtId.cells, DtCmd.cells, zba, zbb, zbp, zbm, Classical.not_not]
 repeat' first | (refine ⟨by omega, ?_⟩) | (intro _)
 refine hK _ ?_; clear hK K
 refine zbo ?_
 refine AW_r rfl rfl fun K hK => ?_
 simp (disch := omega) [zbc, gE, tP, DtInst.cells, DtId.cells, DtCmd.cells, zba, zbb, zbp, zbm, Classical.not_not]
 repeat' first | (refine ⟨by omega, ?_⟩) | (intro _)
 refine hK _ ?_; clear hK K
 refine zbw ?_
 refine zcb (fun mM sS => ∃ (i : Nat), mM = l.length - i ∧ (i ≤ l.length ∧ ∀ (j : Nat) x, j < i → l[j]? = some x → InstP x ∧ ∀ y, 0 < j → l[j - 1]? = some y → idLt y.fId x.fId) ∧ sS = { env := lkE [(0, .sl 16 (l.map DtInst.cells)), (3, (.g (.int .i64 ((i : Nat)))))], ob := formOb [] [] }) ?_ ?_
 ·refine ⟨_, LeS.kp [(0, .sl 16 (l.map DtInst.cells)), (3, (.g (.int .i64 (((0) : Nat)))))] (by simp [KpE, zbl, zbz, zbj]; try rfl), _, 0, rfl, ?_, rfl⟩
  ·simp
 ·rintro mM sS ⟨i, rfl, ⟨hi, hpre⟩, rfl⟩
  refine zbo ?_
  refine AW_r rfl rfl fun K hK => ?_
  simp (disch := omega) [zbc, gE, tP, DtInst.cells, DtId.cells, DtCmd.cells, zba, zbb, zbp, zbm, Classical.not_not]
  repeat' first | (refine ⟨by omega, ?_⟩) | (intro _)
  refine hK _ ?_; clear hK K
  refine zbr rfl (fun hc3 => ?_) (fun hc3 => ?_)
  ·try simp [zba, zbb, zbf, zbe, zbm, zbp] at hc3
   all_goals
    have hg : l[i]? = some l[i] := List.getElem?_eq_getElem (by omega)
    have hg' : l[i - 1]? = some l[i - 1] := List.getElem?_eq_getElem (by omega)
    have hm := hl2 i (by omega)
    rcases Nat.eq_zero_or_pos i with hi0 | hi0
    all_goals
     refine zbs ?_
     refine zbx ?_
     refine zbo ?_
     refine zbw ?_
     refine AW_q rfl mix (by kernel_rfl) rfl fun K hK => ?_
     simp (disch := omega) [zbc, gE, tP, DtInst.cells, DtId.cells, DtCmd.cells, zba, zbb, zbp, zbm, Classical.not_not]
     repeat' first | (exfalso; omega) | (refine zcj (zbg (zb6 rfl) zbn) (l8Inst _ (by assumption)) rfl ?_; simp (disch := omega) [zbc, gE, tP, DtInst.cells, DtId.cells, DtCmd.cells, zba, zbb, zbp, zbm, Classical.not_not]) | (refine zcj (zbg (zb6 rfl) (zbg (zb6 rfl) zbn)) (zwv _ _) rfl ?_; simp (disch := omega) [zbc, gE, tP, DtInst.cells, DtId.cells, DtCmd.cells, zba, zbb, zbp, zbm, Classical.not_not]) | (refine ⟨fun _ => ?_, fun _ => ?_⟩) | (refine ⟨by omega, ?_⟩) | (intro _)
     all_goals (refine hK _ ?_; clear hK K)
     all_goals
      refine zbr rfl (fun hc4 => ?_) (fun hc4 => ?_)
      ·try simp [zba, zbb, zbf, zbe, zbm, zbp] at hc4
       all_goals
        refine AW_r rfl rfl fun K hK => ?_
        simp (disch := omega) [zbc, gE, tP, DtInst.cells, DtId.cells, DtCmd.cells, zba, zbb, zbp, zbm, Classical.not_not]
        repeat' first | (exfalso; omega) | (refine ⟨fun _ => ?_, fun _ => ?_⟩) | (refine ⟨by omega, ?_⟩) | (intro _)
        all_goals (refine hK _ ?_; clear hK K)
        all_goals
         refine zbt (zb4 ?_)
         simp (disch := omega) [zbc, gE, tP, DtInst.cells, DtId.cells, DtCmd.cells, zba, zbb, zbp, zbm, Classical.not_not]
         all_goals first | grind [InstsP] | (refine zcu fun h => ?_; grind [InstsP]) | (refine zct ?_; grind [InstsP])
      ·try simp [zba, zbb, zbf, zbe, zbm, zbp] at hc4
       all_goals
        refine zbs ?_
        refine zbx ?_
        refine zc6 rfl rfl fun K hK => ?_
        simp (disch := omega) [zbc, gE, tP, DtInst.cells, DtId.cells, DtCmd.cells, zba, zbb, zbp, zbm, Classical.not_not]
        repeat' first | (exfalso; omega) | (refine ⟨fun _ => ?_, fun _ => ?_⟩) | (refine ⟨by omega, ?_⟩) | (intro _)
        all_goals (refine hK _ ?_; clear hK K)
        all_goals
         refine ⟨_, LeS.kp [(0, .sl 16 (l.map DtInst.cells)), (3, (.g (.int .i64 (((i + 1) : Nat)))))] (by simp [KpE, zbl, zbz, zbj]; try rfl), _, ?_, i + 1, rfl, ?_, rfl⟩
         ·omega
         ·refine ⟨by omega, ?_⟩; clear hg' hl2; grind
  ·try simp [zba, zbb, zbf, zbe, zbm, zbp] at hc3
   all_goals
    refine zce ?_
    refine zbx ?_
    refine AW_r rfl rfl fun K hK => ?_
    simp (disch := omega) [zbc, gE, tP, DtInst.cells, DtId.cells, DtCmd.cells, zba, zbb, zbp, zbm, Classical.not_not]
    repeat' first | (exfalso; omega) | (refine ⟨fun _ => ?_, fun _ => ?_⟩) | (refine ⟨by omega, ?_⟩) | (intro _)
    all_goals (refine hK _ ?_; clear hK K)
    all_goals
     refine zbt (zb4 ?_)
     simp (disch := omega) [zbc, gE, tP, DtInst.cells, DtId.cells, DtCmd.cells, zba, zbb, zbp, zbm, Classical.not_not]
     all_goals first | grind [InstsP] | (refine zcu fun h => ?_; grind [InstsP]) | (refine zct ?_; grind [InstsP])
theorem zc2 (l : List DtInst) (hs : szS DtInst.sz l ≤ 1048576) : PCall Try.prog 21 [.sl 16 (l.map DtInst.cells)] (.g (.bool (decB (InstsP l)))) := by
 have ⟨hl, hl2⟩ := zq4 l hs
 refine zbq Try.func21 (by rfl) (by rfl) (by rw [Try.ntmps21]; exact Nat.le_of_ble_eq_true rfl) rfl (by decide) ?_
 rw [Try.ntmps21]
 refine AW_k [(0, _)] ⟨rfl, trivial⟩ ?_
 refine AW_r rfl rfl fun K hK => ?_
 simp (disch := omega) [zbc, gE, tP, DtInst.cells, DtId.cells, DtCmd.cells, zba, zbb, zbp, zbm, Classical.not_not]
 repeat' first | (refine ⟨by omega, ?_⟩) | (intro _)
 refine hK _ ?_; clear hK K
 refine zbo ?_
 refine AW_r rfl rfl fun K hK => ?_
 simp (disch := omega) [zbc, gE, tP, DtInst.cells, DtId.cells, DtCmd.cells, zba, zbb, zbp, zbm, Classical.not_not]
 repeat' first | (refine ⟨by omega, ?_⟩) | (intro _)
 refine hK _ ?_; clear hK K
 refine zbw ?_
 refine zcb (fun mM sS => ∃ (i : Nat), mM = l.length - i ∧ (i ≤ l.length ∧ ∀ (j : Nat) x, j < i → l[j]? = some x → InstP x ∧ ∀ y, 0 < j → l[j - 1]? = some y → idLt y.fId x.fId) ∧ sS = { env := lkE [(0, .sl 16 (l.map DtInst.cells)), (5, .sl 16 (l.map DtInst.cells)), (6, (.g (.int .i64 ((l.length : Nat))))), (7, (.g (.int .i64 ((i : Nat)))))], ob := lk [] }) ?_ ?_
 ·refine ⟨_, LeS.ko [(0, .sl 16 (l.map DtInst.cells)), (5, .sl 16 (l.map DtInst.cells)), (6, (.g (.int .i64 ((l.length : Nat))))), (7, (.g (.int .i64 (((0) : Nat)))))] [] (by simp [KpE, zbl, zbz, zbj]; try rfl) (by simp [KpO, zbl, zbj, zbu, zcg]; try rfl) (by rfl) (by simp) (by rfl), _, 0, rfl, ?_, rfl⟩
  ·simp
 ·rintro mM sS ⟨i, rfl, ⟨hi, hpre⟩, rfl⟩
  refine AW_r rfl rfl fun K hK => ?_
  simp (disch := omega) [zbc, gE, tP, DtInst.cells, DtId.cells, DtCmd.cells, zba, zbb, zbp, zbm, Classical.not_not]
  repeat' first | (refine ⟨by omega, ?_⟩) | (intro _)
  refine hK _ ?_; clear hK K
  refine zbo ?_
  refine zbr rfl (fun hc5 => ?_) (fun hc5 => ?_)
  ·try simp [zba, zbb, zbf, zbe, zbm, zbp] at hc5
   all_goals
    have hg : l[i]? = some l[i] := List.getElem?_eq_getElem (by omega)
    have hg' : l[i - 1]? = some l[i - 1] := List.getElem?_eq_getElem (by omega)
    have hm := hl2 i (by omega)
    rcases Nat.eq_zero_or_pos i with hi0 | hi0
    all_goals
     refine zbs ?_
     refine zbx ?_
     refine zbo ?_
     refine zbw ?_
     refine AW_r rfl rfl fun K hK => ?_
     simp (disch := omega) [zbc, gE, tP, DtInst.cells, DtId.cells, DtCmd.cells, zba, zbb, zbp, zbm, Classical.not_not]
     repeat' first | (exfalso; omega) | (refine ⟨fun _ => ?_, fun _ => ?_⟩) | (refine ⟨by omega, ?_⟩) | (intro _)
     all_goals (refine hK _ ?_; clear hK K)
     all_goals
      refine AW_q rfl mix (by kernel_rfl) rfl fun K hK => ?_
      simp (disch := omega) [zbc, gE, tP, DtInst.cells, DtId.cells, DtCmd.cells, zba, zbb, zbp, zbm, Classical.not_not]
      repeat' first | (exfalso; omega) | (refine zcj (zbg (zb6 rfl) zbn) (instOk _ (by assumption)) rfl ?_; simp (disch := omega) [zbc, gE, tP, DtInst.cells, DtId.cells, DtCmd.cells, zba, zbb, zbp, zbm, Classical.not_not]) | (refine zcj (zbg (zb6 rfl) (zbg (zb6 rfl) zbn)) (zh4 _ _) rfl ?_; simp (disch := omega) [zbc, gE, tP, DtInst.cells, DtId.cells, DtCmd.cells, zba, zbb, zbp, zbm, Classical.not_not]) | (refine ⟨fun _ => ?_, fun _ => ?_⟩) | (refine ⟨by omega, ?_⟩) | (intro _)
      all_goals (refine hK _ ?_; clear hK K)
      all_goals
       refine zbr rfl (fun hc6 => ?_) (fun hc6 => ?_)
       ·try simp [zba, zbb, zbf, zbe, zbm, zbp] at hc6
        all_goals
         refine AW_r rfl rfl fun K hK => ?_
         simp (disch := omega) [zbc, gE, tP, DtInst.cells, DtId.cells, DtCmd.cells, zba, zbb, zbp, zbm, Classical.not_not]
         repeat' first | (exfalso; omega) | (refine ⟨fun _ => ?_, fun _ => ?_⟩) | (refine ⟨by omega, ?_⟩) | (intro _)
         all_goals (refine hK _ ?_; clear hK K)
         all_goals
          refine zbt (zb4 ?_)
          simp (disch := omega) [zbc, gE, tP, DtInst.cells, DtId.cells, DtCmd.cells, zba, zbb, zbp, zbm, Classical.not_not]
          all_goals first | grind [InstsP] | (refine zcu fun h => ?_; grind [InstsP]) | (refine zct ?_; grind [InstsP])
       ·try simp [zba, zbb, zbf, zbe, zbm, zbp] at hc6
        all_goals
         refine zbs ?_
         refine zbx ?_
         refine zc6 rfl rfl fun K hK => ?_
         simp (disch := omega) [zbc, gE, tP, DtInst.cells, DtId.cells, DtCmd.cells, zba, zbb, zbp, zbm, Classical.not_not]
         repeat' first | (exfalso; omega) | (refine ⟨fun _ => ?_, fun _ => ?_⟩) | (refine ⟨by omega, ?_⟩) | (intro _)
         all_goals (refine hK _ ?_; clear hK K)
         all_goals
          refine ⟨_, LeS.ko [(0, .sl 16 (l.map DtInst.cells)), (5, .sl 16 (l.map DtInst.cells)), (6, (.g (.int .i64 ((l.length : Nat))))), (7, (.g (.int .i64 (((i + 1) : Nat)))))] [] (by simp [KpE, zbl, zbz, zbj]; try rfl) (by simp [KpO, zbl, zbj, zbu, zcg]; try rfl) (by rfl) (by simp) (by rfl), _, ?_, i + 1, rfl, ?_, rfl⟩
          ·omega
          ·refine ⟨by omega, ?_⟩; clear hg' hl2; grind
  ·try simp [zba, zbb, zbf, zbe, zbm, zbp] at hc5
   all_goals
    refine zce ?_
    refine zbx ?_
    refine AW_r rfl rfl fun K hK => ?_
    simp (disch := omega) [zbc, gE, tP, DtInst.cells, DtId.cells, DtCmd.cells, zba, zbb, zbp, zbm, Classical.not_not]
    repeat' first | (exfalso; omega) | (refine ⟨fun _ => ?_, fun _ => ?_⟩) | (refine ⟨by omega, ?_⟩) | (intro _)
    all_goals (refine hK _ ?_; clear hK K)
    all_goals
     refine zbt (zb4 ?_)
     simp (disch := omega) [zbc, gE, tP, DtInst.cells, DtId.cells, DtCmd.cells, zba, zbb, zbp, zbm, Classical.not_not]
     all_goals first | grind [InstsP] | (refine zcu fun h => ?_; grind [InstsP]) | (refine zct ?_; grind [InstsP])
end Go.Proofs.Ytfbmhgiokfpgiaa.Vs
