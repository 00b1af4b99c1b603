import Derived.Test.YtfbmhgiokfpgiaaSH2
open Go Go.Proofs Go.Proofs.Ytfbmhgiokfpgiaa.Vs
namespace Go.Proofs.Ytfbmhgiokfpgiaa.Vs
set_option linter.all false
set_option linter.unusedSimpArgs false
set_option linter.unusedVariables false
set_option maxRecDepth 100000
noncomputable def cAt (l : List DtInst) (id : DtId) : Int := idxZ (fun x => eqB x.fId id && decide (x.fStatus = 3)) l
theorem zmz (l : List DtInst) (id : DtId) (hn : l.length ≤ 1048576) : PCall Try.prog 35 [.sl 16 (l.map DtInst.cells), .agg (DtId.cells id)] (.g (.int .i64 (cAt l id))) := by
 refine zbq Try.func35 (by rfl) (by rfl) (by rw [Try.ntmps35]; exact Nat.le_of_ble_eq_true rfl) rfl (by decide) ?_
 rw [Try.ntmps35]
 refine AW_k [(0, _), (1, _)] ⟨rfl, rfl, trivial⟩ ?_
 refine AW_r rfl rfl fun K hK => ?_
 simp (disch := omega) [zbc, gE, tP, DtInst.cells, DtCmd.cells, DtId.cells, zch]
 repeat' first | (refine ⟨by omega, ?_⟩) | (intro _)
 refine hK _ ?_; clear hK K
 refine zbo ?_
 refine AW_r rfl rfl fun K hK => ?_
 simp (disch := omega) [zbc, gE, tP, DtInst.cells, DtCmd.cells, DtId.cells, zch]
 repeat' first | (refine ⟨by omega, ?_⟩) | (intro _)
 refine hK _ ?_; clear hK K
 refine zbw ?_
 refine zcb (fun mM sS => ∃ (i : Nat), mM = l.length - i ∧ (i ≤ l.length ∧ ∀ (j : Nat) y, j < i → l[j]? = some y → (eqB y.fId id && decide (y.fStatus = 3)) = false) ∧ sS = { env := lkE [(0, .sl 16 (l.map DtInst.cells)), (3, .ptr 64 0), (5, (.g (.int .i64 ((i : Nat)))))], ob := lk [(64, .cells (DtId.cells id))] }) ?_ ?_
 ·refine ⟨_, LeS.ko [(0, .sl 16 (l.map DtInst.cells)), (3, .ptr 64 0), (5, (.g (.int .i64 (((0) : Nat)))))] [(64, .cells (DtId.cells id))] (by simp [KpE, zbl, zbz, zbj, DtId.cells]; try rfl) (by simp [KpO, zbl, zbj, zbu, zcg, DtId.cells]; try rfl) (by rfl) (by simp) (by rfl), _, 0, rfl, ?_, rfl⟩
  ·simp
 ·rintro mM sS ⟨i, rfl, ⟨hi, hpre⟩, rfl⟩
  refine zbo ?_
  refine AW_r rfl rfl fun K hK => ?_
  simp (disch := omega) [zbc, gE, tP, DtInst.cells, DtCmd.cells, DtId.cells, zch]
  repeat' first | (refine ⟨by omega, ?_⟩) | (intro _)
  refine hK _ ?_; clear hK K
  refine zbr rfl (fun hc1 => ?_) (fun hc1 => ?_)
  ·try simp [zba, zbb, zbf, zbe, zbm, zbp] at hc1
   all_goals
    have hg : l[i]? = some l[i] := List.getElem?_eq_getElem (by omega)
    have he := zgw l[i].fId id
    refine zbs ?_
    refine zbx ?_
    refine zbo ?_
    refine zbw ?_
    refine AW_q rfl mix (by kernel_rfl) rfl fun K hK => ?_
    simp (disch := omega) [zbc, gE, tP, DtInst.cells, DtCmd.cells, DtId.cells, zch]
    repeat' first | (exfalso; omega) | (refine ⟨fun _ => ?_, fun _ => ?_⟩) | (refine ⟨by omega, ?_⟩) | (intro _)
    all_goals (refine hK _ ?_; clear hK K)
    all_goals
     refine zbr rfl (fun hc2 => ?_) (fun hc2 => ?_)
     ·try simp [zba, zbb, zbf, zbe, zbm, zbp] at hc2
      all_goals
       refine AW_r rfl rfl fun K hK => ?_
       simp (disch := omega) [zbc, gE, tP, DtInst.cells, DtCmd.cells, DtId.cells, zch]
       repeat' first | (exfalso; omega) | (refine ⟨fun _ => ?_, fun _ => ?_⟩) | (refine ⟨by omega, ?_⟩) | (intro _)
       all_goals (refine hK _ ?_; clear hK K)
       all_goals
        refine zbt (zb4 ?_)
        simp (disch := omega) [zbc, gE, tP, DtInst.cells, DtCmd.cells, DtId.cells, zch]
        all_goals first | (exact zd4 (by assumption) (by rw [Bool.and_eq_true, zbf]; grind) hpre) | (exact zfw (fun j x h => hpre j x (by omega)))
     ·try simp [zba, zbb, zbf, zbe, zbm, zbp] at hc2
      all_goals
       refine zbs ?_
       refine zbx ?_
       refine zc6 rfl rfl fun K hK => ?_
       simp (disch := omega) [zbc, gE, tP, DtInst.cells, DtCmd.cells, DtId.cells, zch]
       repeat' first | (exfalso; omega) | (refine ⟨fun _ => ?_, fun _ => ?_⟩) | (refine ⟨by omega, ?_⟩) | (intro _)
       all_goals (refine hK _ ?_; clear hK K)
       all_goals
        refine ⟨_, LeS.ko [(0, .sl 16 (l.map DtInst.cells)), (3, .ptr 64 0), (5, (.g (.int .i64 (((i + 1) : Nat)))))] [(64, .cells (DtId.cells id))] (by simp [KpE, zbl, zbz, zbj, DtId.cells]; try rfl) (by simp [KpO, zbl, zbj, zbu, zcg, DtId.cells]; try rfl) (by rfl) (by simp) (by rfl), _, ?_, i + 1, rfl, ?_, rfl⟩
        ·omega
        ·refine ⟨by omega, fun j y hj hy => ?_⟩
         by_cases hji : j = i
         ·subst hji; rw [hg] at hy; cases hy; rw [Bool.and_eq_false_iff, zbe]; grind
         ·exact hpre j y (by omega) hy
  ·try simp [zba, zbb, zbf, zbe, zbm, zbp] at hc1
   all_goals
    refine zce ?_
    refine zbx ?_
    refine AW_r rfl rfl fun K hK => ?_
    simp (disch := omega) [zbc, gE, tP, DtInst.cells, DtCmd.cells, DtId.cells, zch]
    repeat' first | (exfalso; omega) | (refine ⟨fun _ => ?_, fun _ => ?_⟩) | (refine ⟨by omega, ?_⟩) | (intro _)
    all_goals (refine hK _ ?_; clear hK K)
    all_goals
     refine zbt (zb4 ?_)
     simp (disch := omega) [zbc, gE, tP, DtInst.cells, DtCmd.cells, DtId.cells, zch]
     all_goals first | (exact zd4 (by assumption) (by rw [Bool.and_eq_true, zbf]; grind) hpre) | (exact zfw (fun j x h => hpre j x (by omega)))
end Go.Proofs.Ytfbmhgiokfpgiaa.Vs
