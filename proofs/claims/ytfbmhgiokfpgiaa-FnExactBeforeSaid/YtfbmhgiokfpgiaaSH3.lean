import Derived.Test.YtfbmhgiokfpgiaaSH2
open Go Go.Proofs Go.Proofs.Ytfbmhgiokfpgiaa.Vs
namespace Go.Proofs.Ytfbmhgiokfpgiaa.Vs
set_option linter.all false
set_option linter.unusedSimpArgs false
set_option linter.unusedVariables false
set_option maxRecDepth 100000
noncomputable def cAt (l : List DtInst) (id : DtId) : Int := idxZ (fun x => eqB x.fId id && decide (x.fStatus = 3)) l
theorem zjt (l : List DtInst) (id : DtId) (hn : l.length ≤ 1048576) : PCall Try.prog 35 [.sl 16 (l.map DtInst.cells), .agg (DtId.cells id)] (.g (.int .i64 (cAt l id))) := by
 refine zbu Try.func35 (by rfl) (by rfl) (by rw [Try.ntmps35]; exact Nat.le_of_ble_eq_true rfl) rfl (by decide) ?_
 rw [Try.ntmps35]
 refine AW_k [(0, _), (1, _)] ⟨rfl, rfl, trivial⟩ ?_
 refine AW_r rfl rfl fun K hK => ?_
 simp (disch := omega) [zbd, gE, tP, DtInst.cells, DtCmd.cells, DtId.cells, zby]
 repeat' first | (refine ⟨by omega, ?_⟩) | (intro _)
 refine hK _ ?_; clear hK K
 refine zbt ?_
 refine AW_r rfl rfl fun K hK => ?_
 simp (disch := omega) [zbd, gE, tP, DtInst.cells, DtCmd.cells, DtId.cells, zby]
 repeat' first | (refine ⟨by omega, ?_⟩) | (intro _)
 refine hK _ ?_; clear hK K
 refine zb0 ?_
 refine zcc (fun mM sS => ∃ (i : Nat), mM = l.length - i ∧ (i ≤ l.length ∧ ∀ (j : Nat) y, j < i → l[j]? = some y → (eqB y.fId id && decide (y.fStatus = 3)) = false) ∧ sS = { env := lkE [(0, .sl 16 (l.map DtInst.cells)), (3, .ptr 64 0), (5, (.g (.int .i64 ((i : Nat)))))], ob := lk [(64, .cells (DtId.cells id))] }) ?_ ?_
 ·refine ⟨_, LeS.ko [(0, .sl 16 (l.map DtInst.cells)), (3, .ptr 64 0), (5, (.g (.int .i64 (((0) : Nat)))))] [(64, .cells (DtId.cells id))] (by simp [KpE, zbn, zb4, zbk, DtId.cells]; try rfl) (by simp [KpO, zbn, zbk, zbx, zcf, DtId.cells]; try rfl) (by rfl) (by simp) (by rfl), _, 0, rfl, ?_, rfl⟩
  ·simp
 ·rintro mM sS ⟨i, rfl, ⟨hi, hpre⟩, rfl⟩
  refine zbt ?_
  refine AW_r rfl rfl fun K hK => ?_
  simp (disch := omega) [zbd, gE, tP, DtInst.cells, DtCmd.cells, DtId.cells, zby]
  repeat' first | (refine ⟨by omega, ?_⟩) | (intro _)
  refine hK _ ?_; clear hK K
  refine zbv rfl (fun hc1 => ?_) (fun hc1 => ?_)
  ·try simp [zbb, zba, zbf, zbe, zbp, zbq] at hc1
   all_goals
    have hg : l[i]? = some l[i] := List.getElem?_eq_getElem (by omega)
    have he := zft l[i].fId id
    refine zbw ?_
    refine zb3 ?_
    refine zbt ?_
    refine zb0 ?_
    refine AW_q rfl mix (by kernel_rfl) rfl fun K hK => ?_
    simp (disch := omega) [zbd, gE, tP, DtInst.cells, DtCmd.cells, DtId.cells, zby]
    repeat' first | (exfalso; omega) | (refine ⟨fun _ => ?_, fun _ => ?_⟩) | (refine ⟨by omega, ?_⟩) | (intro _)
    all_goals (refine hK _ ?_; clear hK K)
    all_goals
     refine zbv rfl (fun hc2 => ?_) (fun hc2 => ?_)
     ·try simp [zbb, zba, zbf, zbe, zbp, zbq] at hc2
      all_goals
       refine AW_r rfl rfl fun K hK => ?_
       simp (disch := omega) [zbd, gE, tP, DtInst.cells, DtCmd.cells, DtId.cells, zby]
       repeat' first | (exfalso; omega) | (refine ⟨fun _ => ?_, fun _ => ?_⟩) | (refine ⟨by omega, ?_⟩) | (intro _)
       all_goals (refine hK _ ?_; clear hK K)
       all_goals
        refine zbz (zcb ?_)
        simp (disch := omega) [zbd, gE, tP, DtInst.cells, DtCmd.cells, DtId.cells, zby]
        all_goals first | (exact zdb (by assumption) (by rw [Bool.and_eq_true, zbf]; grind) hpre) | (exact zdl (fun j x h => hpre j x (by omega)))
     ·try simp [zbb, zba, zbf, zbe, zbp, zbq] at hc2
      all_goals
       refine zbw ?_
       refine zb3 ?_
       refine zdf rfl rfl fun K hK => ?_
       simp (disch := omega) [zbd, gE, tP, DtInst.cells, DtCmd.cells, DtId.cells, zby]
       repeat' first | (exfalso; omega) | (refine ⟨fun _ => ?_, fun _ => ?_⟩) | (refine ⟨by omega, ?_⟩) | (intro _)
       all_goals (refine hK _ ?_; clear hK K)
       all_goals
        refine ⟨_, LeS.ko [(0, .sl 16 (l.map DtInst.cells)), (3, .ptr 64 0), (5, (.g (.int .i64 (((i + 1) : Nat)))))] [(64, .cells (DtId.cells id))] (by simp [KpE, zbn, zb4, zbk, DtId.cells]; try rfl) (by simp [KpO, zbn, zbk, zbx, zcf, DtId.cells]; try rfl) (by rfl) (by simp) (by rfl), _, ?_, i + 1, rfl, ?_, rfl⟩
        ·omega
        ·refine ⟨by omega, fun j y hj hy => ?_⟩
         by_cases hji : j = i
         ·subst hji; rw [hg] at hy; cases hy; rw [Bool.and_eq_false_iff, zbe]; grind
         ·exact hpre j y (by omega) hy
  ·try simp [zbb, zba, zbf, zbe, zbp, zbq] at hc1
   all_goals
    refine zce ?_
    refine zb3 ?_
    refine AW_r rfl rfl fun K hK => ?_
    simp (disch := omega) [zbd, gE, tP, DtInst.cells, DtCmd.cells, DtId.cells, zby]
    repeat' first | (exfalso; omega) | (refine ⟨fun _ => ?_, fun _ => ?_⟩) | (refine ⟨by omega, ?_⟩) | (intro _)
    all_goals (refine hK _ ?_; clear hK K)
    all_goals
     refine zbz (zcb ?_)
     simp (disch := omega) [zbd, gE, tP, DtInst.cells, DtCmd.cells, DtId.cells, zby]
     all_goals first | (exact zdb (by assumption) (by rw [Bool.and_eq_true, zbf]; grind) hpre) | (exact zdl (fun j x h => hpre j x (by omega)))
end Go.Proofs.Ytfbmhgiokfpgiaa.Vs
