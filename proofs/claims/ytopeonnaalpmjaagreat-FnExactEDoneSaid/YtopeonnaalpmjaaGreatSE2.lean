import Derived.Test.YtopeonnaalpmjaaGreatSE1
open Go Go.Proofs Go.Proofs.YtopeonnaalpmjaaGreat.Vs
namespace Go.Proofs.YtopeonnaalpmjaaGreat.Vs
set_option linter.unusedVariables false
set_option linter.unusedSimpArgs false
set_option linter.unusedSectionVars false
set_option linter.unnecessarySimpa false
set_option linter.all false
set_option linter.unusedSimpArgs false
set_option linter.unusedVariables false
set_option maxRecDepth 100000
def InstP (x : DtInst) : Prop := IdP x.fId ∧ -1 ≤ x.fBal ∧ x.fBal ≤ 600 ∧ -1 ≤ x.fVBal ∧ x.fVBal ≤ x.fBal ∧ 0 ≤ x.fStatus ∧ x.fStatus ≤ 3 ∧ CmdP x.fCmd ∧ 0 ≤ x.fSeq ∧ x.fSeq ≤ 60 ∧ IdsP x.fDeps ∧ ¬ x.fId ∈ x.fDeps ∧ (x.fStatus ≠ 0 ∨ (x.fVBal = -1 ∧ x.fCmd.fKind = 0 ∧ x.fSeq = 0 ∧ x.fDeps = [] ∧ x.fSame = false))
def InstsP (l : List DtInst) : Prop := ∀ (i : Nat) x, l[i]? = some x → InstP x ∧ ∀ y, 0 < i → l[i - 1]? = some y → idLt y.fId x.fId
theorem instSz (x : DtInst) (hs : DtInst.sz x ≤ 1048576) : DtCmd.sz x.fCmd ≤ 1048576 ∧ x.fDeps.length ≤ 1048576 := by
  have h1 := DtCmd.sz_nonneg x.fCmd
  simp only [DtInst.sz] at hs
  omega
theorem instsSz (l : List DtInst) (hs : szS DtInst.sz l ≤ 1048576) : l.length ≤ 1048576 ∧ ∀ i (h : i < l.length), DtInst.sz l[i] ≤ 1048576 := by
  have h0 := sumZ_nonneg DtInst.sz_nonneg l
  simp only [szS] at hs
  refine ⟨by omega, fun i h => ?_⟩
  have h1 := sumZ_mem_le DtInst.sz_nonneg l l[i] (List.getElem_mem _)
  omega
theorem l8Inst (x : DtInst) (hs : DtInst.sz x ≤ 1048576) : PCall Tryz.prog 76 [.agg (DtInst.cells x)] (.g (.bool (decB (InstP x)))) := by
  have ⟨hc, hd⟩ := instSz x hs
  refine gcall_of_walk Tryz.func76 (by rfl) (by rfl) (by rw [Tryz.ntmps76]; exact Nat.le_of_ble_eq_true rfl) rfl (by decide) ?_
  rw [Tryz.ntmps76]
  refine AW_k [(0, _)] ⟨rfl, trivial⟩ ?_
  refine AW_r rfl rfl fun K hK => ?_
  simp (disch := omega) [wrap64, List.getElem?_eq_getElem, toNat_pred, DtInst.cells, DtId.cells, DtCmd.cells, decB_true, decB_false, len0]
  repeat' first | (exfalso; omega) | (refine ⟨fun _ => ?_, fun _ => ?_⟩) | (refine ⟨by omega, ?_⟩) | (intro _)
  all_goals (refine hK _ ?_; clear hK K)
  all_goals
    refine AW_seq ?_
    refine AW_r rfl rfl fun K hK => ?_
    simp (disch := omega) [wrap64, List.getElem?_eq_getElem, toNat_pred, DtInst.cells, DtId.cells, DtCmd.cells, decB_true, decB_false, len0]
    repeat' first | (exfalso; omega) | (refine CKd_v (am2s_cons (am2_agg rfl) am2s_nil) (l8Id _) rfl ?_; simp (disch := omega) [wrap64, List.getElem?_eq_getElem, toNat_pred, DtInst.cells, DtId.cells, DtCmd.cells, decB_true, decB_false, len0]) | (refine CKd_v (am2s_cons am2_g (am2s_cons am2_g (am2s_cons am2_g am2s_nil))) (l1In _ _ _) rfl ?_; simp (disch := omega) [wrap64, List.getElem?_eq_getElem, toNat_pred, DtInst.cells, DtId.cells, DtCmd.cells, decB_true, decB_false, len0]) | (refine CKd_v (am2s_cons (am2_agg rfl) am2s_nil) (specCmdOk _ (by assumption)) rfl ?_; simp (disch := omega) [wrap64, List.getElem?_eq_getElem, toNat_pred, DtInst.cells, DtId.cells, DtCmd.cells, decB_true, decB_false, len0]) | (refine CKd_v (am2s_cons am2_sl am2s_nil) (specIdsOk _ (by assumption)) rfl ?_; simp (disch := omega) [wrap64, List.getElem?_eq_getElem, toNat_pred, DtInst.cells, DtId.cells, DtCmd.cells, decB_true, decB_false, len0]) | (refine CKd_v (am2s_cons am2_sl (am2s_cons (am2_agg rfl) am2s_nil)) (l8Has _ _ (by assumption)) rfl ?_; simp (disch := omega) [wrap64, List.getElem?_eq_getElem, toNat_pred, DtInst.cells, DtId.cells, DtCmd.cells, decB_true, decB_false, len0]) | (refine ⟨fun _ => ?_, fun _ => ?_⟩) | (refine ⟨by omega, ?_⟩) | (intro _)
    all_goals (refine hK _ ?_; clear hK K)
    all_goals
      refine AW_cond rfl (fun hc1 => ?_) (fun hc1 => ?_)
      · try simp [decB_true, decB_false, eqB_true, eqB_false, cmpI_lt, cmpI_ge] at hc1
        all_goals
          refine AW_r rfl rfl fun K hK => ?_
          simp (disch := omega) [wrap64, List.getElem?_eq_getElem, toNat_pred, DtInst.cells, DtId.cells, DtCmd.cells, decB_true, decB_false, len0]
          repeat' first | (exfalso; omega) | (refine ⟨fun _ => ?_, fun _ => ?_⟩) | (refine ⟨by omega, ?_⟩) | (intro _)
          all_goals (refine hK _ ?_; clear hK K)
          all_goals
            refine AW_ret (end_s ?_)
            simp (disch := omega) [wrap64, List.getElem?_eq_getElem, toNat_pred, DtInst.cells, DtId.cells, DtCmd.cells, decB_true, decB_false, len0]
            all_goals first | grind [InstP] | (refine decB_f fun h => ?_; grind [InstP]) | (refine decB_t ?_; grind [InstP]) | (rw [Bool.eq_iff_iff, decB_true]; simp; grind [InstP])
      · try simp [decB_true, decB_false, eqB_true, eqB_false, cmpI_lt, cmpI_ge] at hc1
        all_goals
          refine AW_skip ?_
          refine AW_id ?_
          refine AW_r rfl rfl fun K hK => ?_
          simp (disch := omega) [wrap64, List.getElem?_eq_getElem, toNat_pred, DtInst.cells, DtId.cells, DtCmd.cells, decB_true, decB_false, len0]
          repeat' first | (exfalso; omega) | (refine ⟨fun _ => ?_, fun _ => ?_⟩) | (refine ⟨by omega, ?_⟩) | (intro _)
          all_goals (refine hK _ ?_; clear hK K)
          all_goals
            refine AW_ret (end_s ?_)
            simp (disch := omega) [wrap64, List.getElem?_eq_getElem, toNat_pred, DtInst.cells, DtId.cells, DtCmd.cells, decB_true, decB_false, len0]
            all_goals first | grind [InstP] | (refine decB_f fun h => ?_; grind [InstP]) | (refine decB_t ?_; grind [InstP]) | (rw [Bool.eq_iff_iff, decB_true]; simp; grind [InstP])
theorem instOk (x : DtInst) (hs : DtInst.sz x ≤ 1048576) : PCall Tryz.prog 84 [.agg (DtInst.cells x)] (.g (.bool (decB (InstP x)))) := by
  have ⟨hc, hd⟩ := instSz x hs
  refine gcall_of_walk Tryz.func84 (by rfl) (by rfl) (by rw [Tryz.ntmps84]; exact Nat.le_of_ble_eq_true rfl) rfl (by decide) ?_
  rw [Tryz.ntmps84]
  refine AW_k [(0, _)] ⟨rfl, trivial⟩ ?_
  refine AW_r rfl rfl fun K hK => ?_
  simp (disch := omega) [wrap64, List.getElem?_eq_getElem, toNat_pred, DtInst.cells, DtId.cells, DtCmd.cells, decB_true, decB_false, len0]
  repeat' first | (exfalso; omega) | (refine ⟨fun _ => ?_, fun _ => ?_⟩) | (refine ⟨by omega, ?_⟩) | (intro _)
  all_goals (refine hK _ ?_; clear hK K)
  all_goals
    refine AW_seq ?_
    refine AW_r rfl rfl fun K hK => ?_
    simp (disch := omega) [wrap64, List.getElem?_eq_getElem, toNat_pred, DtInst.cells, DtId.cells, DtCmd.cells, decB_true, decB_false, len0]
    repeat' first | (exfalso; omega) | (refine CKd_v (am2s_cons (am2_agg rfl) am2s_nil) (idOk _) rfl ?_; simp (disch := omega) [wrap64, List.getElem?_eq_getElem, toNat_pred, DtInst.cells, DtId.cells, DtCmd.cells, decB_true, decB_false, len0]) | (refine CKd_v (am2s_cons am2_g (am2s_cons am2_g (am2s_cons am2_g am2s_nil))) (within _ _ _) rfl ?_; simp (disch := omega) [wrap64, List.getElem?_eq_getElem, toNat_pred, DtInst.cells, DtId.cells, DtCmd.cells, decB_true, decB_false, len0]) | (refine CKd_v (am2s_cons (am2_agg rfl) am2s_nil) (implCmdOk _ (by assumption)) rfl ?_; simp (disch := omega) [wrap64, List.getElem?_eq_getElem, toNat_pred, DtInst.cells, DtId.cells, DtCmd.cells, decB_true, decB_false, len0]) | (refine CKd_v (am2s_cons am2_sl am2s_nil) (implIdsOk _ (by assumption)) rfl ?_; simp (disch := omega) [wrap64, List.getElem?_eq_getElem, toNat_pred, DtInst.cells, DtId.cells, DtCmd.cells, decB_true, decB_false, len0]) | (refine CKd_v (am2s_cons am2_sl (am2s_cons (am2_agg rfl) am2s_nil)) (containsId _ _ (by assumption)) rfl ?_; simp (disch := omega) [wrap64, List.getElem?_eq_getElem, toNat_pred, DtInst.cells, DtId.cells, DtCmd.cells, decB_true, decB_false, len0]) | (refine ⟨fun _ => ?_, fun _ => ?_⟩) | (refine ⟨by omega, ?_⟩) | (intro _)
    all_goals (refine hK _ ?_; clear hK K)
    all_goals
      refine AW_cond rfl (fun hc2 => ?_) (fun hc2 => ?_)
      · try simp [decB_true, decB_false, eqB_true, eqB_false, cmpI_lt, cmpI_ge] at hc2
        all_goals
          refine AW_r rfl rfl fun K hK => ?_
          simp (disch := omega) [wrap64, List.getElem?_eq_getElem, toNat_pred, DtInst.cells, DtId.cells, DtCmd.cells, decB_true, decB_false, len0]
          repeat' first | (exfalso; omega) | (refine ⟨fun _ => ?_, fun _ => ?_⟩) | (refine ⟨by omega, ?_⟩) | (intro _)
          all_goals (refine hK _ ?_; clear hK K)
          all_goals
            refine AW_ret (end_s ?_)
            simp (disch := omega) [wrap64, List.getElem?_eq_getElem, toNat_pred, DtInst.cells, DtId.cells, DtCmd.cells, decB_true, decB_false, len0]
            all_goals first | grind [InstP] | (refine decB_f fun h => ?_; grind [InstP]) | (refine decB_t ?_; grind [InstP]) | (rw [Bool.eq_iff_iff, decB_true]; simp; grind [InstP])
      · try simp [decB_true, decB_false, eqB_true, eqB_false, cmpI_lt, cmpI_ge] at hc2
        all_goals
          refine AW_skip ?_
          refine AW_id ?_
          refine AW_r rfl rfl fun K hK => ?_
          simp (disch := omega) [wrap64, List.getElem?_eq_getElem, toNat_pred, DtInst.cells, DtId.cells, DtCmd.cells, decB_true, decB_false, len0]
          repeat' first | (exfalso; omega) | (refine ⟨fun _ => ?_, fun _ => ?_⟩) | (refine ⟨by omega, ?_⟩) | (intro _)
          all_goals (refine hK _ ?_; clear hK K)
          all_goals
            refine AW_ret (end_s ?_)
            simp (disch := omega) [wrap64, List.getElem?_eq_getElem, toNat_pred, DtInst.cells, DtId.cells, DtCmd.cells, decB_true, decB_false, len0]
            all_goals first | grind [InstP] | (refine decB_f fun h => ?_; grind [InstP]) | (refine decB_t ?_; grind [InstP]) | (rw [Bool.eq_iff_iff, decB_true]; simp; grind [InstP])
theorem specInstsOk (l : List DtInst) (hs : szS DtInst.sz l ≤ 1048576) : PCall Tryz.prog 39 [.sl 16 (l.map DtInst.cells)] (.g (.bool (decB (InstsP l)))) := by
  have ⟨hl, hl2⟩ := instsSz l hs
  refine gcall_of_walk Tryz.func39 (by rfl) (by rfl) (by rw [Tryz.ntmps39]; exact Nat.le_of_ble_eq_true rfl) rfl (by decide) ?_
  rw [Tryz.ntmps39]
  refine AW_k [(0, _)] ⟨rfl, trivial⟩ ?_
  refine AW_r rfl rfl fun K hK => ?_
  simp (disch := omega) [wrap64, List.getElem?_eq_getElem, toNat_pred, DtInst.cells, DtId.cells, DtCmd.cells, decB_true, decB_false, cmpI_ge, cmpI_lt, Classical.not_not]
  repeat' first | (exfalso; omega) | (refine ⟨fun _ => ?_, fun _ => ?_⟩) | (refine ⟨by omega, ?_⟩) | (intro _)
  all_goals (refine hK _ ?_; clear hK K)
  all_goals
    refine AW_seq ?_
    refine AW_r rfl rfl fun K hK => ?_
    simp (disch := omega) [wrap64, List.getElem?_eq_getElem, toNat_pred, DtInst.cells, DtId.cells, DtCmd.cells, decB_true, decB_false, cmpI_ge, cmpI_lt, Classical.not_not]
    repeat' first | (exfalso; omega) | (refine ⟨fun _ => ?_, fun _ => ?_⟩) | (refine ⟨by omega, ?_⟩) | (intro _)
    all_goals (refine hK _ ?_; clear hK K)
    all_goals
      refine AW_block ?_
      refine AW_loopS (fun mM sS => ∃ (i : Nat), mM = l.length - i ∧ (i ≤ l.length ∧ ∀ (j : Nat) x, j < i → l[j]? = some x → InstP x ∧ ∀ y, 0 < j → l[j - 1]? = some y → idLt y.fId x.fId) ∧ sS = { env := lkE [(0, .sl 16 (l.map DtInst.cells)), (3, (.g (.int .i64 ((i : Nat)))))], ob := formOb [] [] }) ?_ ?_
      · refine ⟨_, LeS.kp [(0, .sl 16 (l.map DtInst.cells)), (3, (.g (.int .i64 (((0) : Nat)))))] (by simp [KpE, upd_app, lkE_app, lk_cons]; try rfl), _, 0, rfl, ?_, rfl⟩
        · simp
      · rintro mM sS ⟨i, rfl, ⟨hi, hpre⟩, rfl⟩
        refine AW_seq ?_
        refine AW_r rfl rfl fun K hK => ?_
        simp (disch := omega) [wrap64, List.getElem?_eq_getElem, toNat_pred, DtInst.cells, DtId.cells, DtCmd.cells, decB_true, decB_false, cmpI_ge, cmpI_lt, Classical.not_not]
        repeat' first | (exfalso; omega) | (refine ⟨fun _ => ?_, fun _ => ?_⟩) | (refine ⟨by omega, ?_⟩) | (intro _)
        all_goals (refine hK _ ?_; clear hK K)
        all_goals
          refine AW_cond rfl (fun hc3 => ?_) (fun hc3 => ?_)
          · try simp [decB_true, decB_false, eqB_true, eqB_false, cmpI_lt, cmpI_ge] at hc3
            all_goals
              have hg : l[i]? = some l[i] := List.getElem?_eq_getElem (by omega)
              have hg' : l[i - 1]? = some l[i - 1] := List.getElem?_eq_getElem (by omega)
              have hm := hl2 i (by omega)
              rcases Nat.eq_zero_or_pos i with hi0 | hi0
              all_goals
                refine AW_skip ?_
                refine AW_id ?_
                refine AW_seq ?_
                refine AW_block ?_
                refine AW_q rfl mix (by kernel_rfl) rfl fun K hK => ?_
                simp (disch := omega) [wrap64, List.getElem?_eq_getElem, toNat_pred, DtInst.cells, DtId.cells, DtCmd.cells, decB_true, decB_false, cmpI_ge, cmpI_lt, Classical.not_not]
                repeat' first | (exfalso; omega) | (refine CKd_v (am2s_cons (am2_agg rfl) am2s_nil) (l8Inst _ (by assumption)) rfl ?_; simp (disch := omega) [wrap64, List.getElem?_eq_getElem, toNat_pred, DtInst.cells, DtId.cells, DtCmd.cells, decB_true, decB_false, cmpI_ge, cmpI_lt, Classical.not_not]) | (refine CKd_v (am2s_cons (am2_agg rfl) (am2s_cons (am2_agg rfl) am2s_nil)) (l8Less _ _) rfl ?_; simp (disch := omega) [wrap64, List.getElem?_eq_getElem, toNat_pred, DtInst.cells, DtId.cells, DtCmd.cells, decB_true, decB_false, cmpI_ge, cmpI_lt, Classical.not_not]) | (refine ⟨fun _ => ?_, fun _ => ?_⟩) | (refine ⟨by omega, ?_⟩) | (intro _)
                all_goals (refine hK _ ?_; clear hK K)
                all_goals
                  refine AW_cond rfl (fun hc4 => ?_) (fun hc4 => ?_)
                  · try simp [decB_true, decB_false, eqB_true, eqB_false, cmpI_lt, cmpI_ge] at hc4
                    all_goals
                      refine AW_r rfl rfl fun K hK => ?_
                      simp (disch := omega) [wrap64, List.getElem?_eq_getElem, toNat_pred, DtInst.cells, DtId.cells, DtCmd.cells, decB_true, decB_false, cmpI_ge, cmpI_lt, Classical.not_not]
                      repeat' first | (exfalso; omega) | (refine ⟨fun _ => ?_, fun _ => ?_⟩) | (refine ⟨by omega, ?_⟩) | (intro _)
                      all_goals (refine hK _ ?_; clear hK K)
                      all_goals
                        refine AW_ret (end_s ?_)
                        simp (disch := omega) [wrap64, List.getElem?_eq_getElem, toNat_pred, DtInst.cells, DtId.cells, DtCmd.cells, decB_true, decB_false, cmpI_ge, cmpI_lt, Classical.not_not]
                        all_goals first | grind [InstsP] | (refine decB_f fun h => ?_; grind [InstsP]) | (refine decB_t ?_; grind [InstsP])
                  · try simp [decB_true, decB_false, eqB_true, eqB_false, cmpI_lt, cmpI_ge] at hc4
                    all_goals
                      refine AW_skip ?_
                      refine AW_id ?_
                      refine AW_re rfl rfl fun K hK => ?_
                      simp (disch := omega) [wrap64, List.getElem?_eq_getElem, toNat_pred, DtInst.cells, DtId.cells, DtCmd.cells, decB_true, decB_false, cmpI_ge, cmpI_lt, Classical.not_not]
                      repeat' first | (exfalso; omega) | (refine ⟨fun _ => ?_, fun _ => ?_⟩) | (refine ⟨by omega, ?_⟩) | (intro _)
                      all_goals (refine hK _ ?_; clear hK K)
                      all_goals
                        refine ⟨_, LeS.kp [(0, .sl 16 (l.map DtInst.cells)), (3, (.g (.int .i64 (((i + 1) : Nat)))))] (by simp [KpE, upd_app, lkE_app, lk_cons]; try rfl), _, ?_, i + 1, rfl, ?_, rfl⟩
                        · omega
                        · refine ⟨by omega, ?_⟩; clear hg' hl2; grind
          · try simp [decB_true, decB_false, eqB_true, eqB_false, cmpI_lt, cmpI_ge] at hc3
            all_goals
              refine AW_exit ?_
              refine AW_id ?_
              refine AW_r rfl rfl fun K hK => ?_
              simp (disch := omega) [wrap64, List.getElem?_eq_getElem, toNat_pred, DtInst.cells, DtId.cells, DtCmd.cells, decB_true, decB_false, cmpI_ge, cmpI_lt, Classical.not_not]
              repeat' first | (exfalso; omega) | (refine ⟨fun _ => ?_, fun _ => ?_⟩) | (refine ⟨by omega, ?_⟩) | (intro _)
              all_goals (refine hK _ ?_; clear hK K)
              all_goals
                refine AW_ret (end_s ?_)
                simp (disch := omega) [wrap64, List.getElem?_eq_getElem, toNat_pred, DtInst.cells, DtId.cells, DtCmd.cells, decB_true, decB_false, cmpI_ge, cmpI_lt, Classical.not_not]
                all_goals first | grind [InstsP] | (refine decB_f fun h => ?_; grind [InstsP]) | (refine decB_t ?_; grind [InstsP])
theorem implInstsOk (l : List DtInst) (hs : szS DtInst.sz l ≤ 1048576) : PCall Tryz.prog 54 [.sl 16 (l.map DtInst.cells)] (.g (.bool (decB (InstsP l)))) := by
  have ⟨hl, hl2⟩ := instsSz l hs
  refine gcall_of_walk Tryz.func54 (by rfl) (by rfl) (by rw [Tryz.ntmps54]; exact Nat.le_of_ble_eq_true rfl) rfl (by decide) ?_
  rw [Tryz.ntmps54]
  refine AW_k [(0, _)] ⟨rfl, trivial⟩ ?_
  refine AW_r rfl rfl fun K hK => ?_
  simp (disch := omega) [wrap64, List.getElem?_eq_getElem, toNat_pred, DtInst.cells, DtId.cells, DtCmd.cells, decB_true, decB_false, cmpI_ge, cmpI_lt, Classical.not_not]
  repeat' first | (exfalso; omega) | (refine ⟨fun _ => ?_, fun _ => ?_⟩) | (refine ⟨by omega, ?_⟩) | (intro _)
  all_goals (refine hK _ ?_; clear hK K)
  all_goals
    refine AW_seq ?_
    refine AW_r rfl rfl fun K hK => ?_
    simp (disch := omega) [wrap64, List.getElem?_eq_getElem, toNat_pred, DtInst.cells, DtId.cells, DtCmd.cells, decB_true, decB_false, cmpI_ge, cmpI_lt, Classical.not_not]
    repeat' first | (exfalso; omega) | (refine ⟨fun _ => ?_, fun _ => ?_⟩) | (refine ⟨by omega, ?_⟩) | (intro _)
    all_goals (refine hK _ ?_; clear hK K)
    all_goals
      refine AW_block ?_
      refine AW_loopS (fun mM sS => ∃ (i : Nat), mM = l.length - i ∧ (i ≤ l.length ∧ ∀ (j : Nat) x, j < i → l[j]? = some x → InstP x ∧ ∀ y, 0 < j → l[j - 1]? = some y → idLt y.fId x.fId) ∧ sS = { env := lkE [(0, .sl 16 (l.map DtInst.cells)), (5, .sl 16 (l.map DtInst.cells)), (6, (.g (.int .i64 ((l.length : Nat))))), (7, (.g (.int .i64 ((i : Nat)))))], ob := lk [] }) ?_ ?_
      · refine ⟨_, LeS.ko [(0, .sl 16 (l.map DtInst.cells)), (5, .sl 16 (l.map DtInst.cells)), (6, (.g (.int .i64 ((l.length : Nat))))), (7, (.g (.int .i64 (((0) : Nat)))))] [] (by simp [KpE, upd_app, lkE_app, lk_cons]; try rfl) (by simp [KpO, upd_app, lk_cons, lk_nil, formOb_nn]; try rfl) (by rfl) (by simp) (by rfl), _, 0, rfl, ?_, rfl⟩
        · simp
      · rintro mM sS ⟨i, rfl, ⟨hi, hpre⟩, rfl⟩
        refine AW_r rfl rfl fun K hK => ?_
        simp (disch := omega) [wrap64, List.getElem?_eq_getElem, toNat_pred, DtInst.cells, DtId.cells, DtCmd.cells, decB_true, decB_false, cmpI_ge, cmpI_lt, Classical.not_not]
        repeat' first | (exfalso; omega) | (refine ⟨fun _ => ?_, fun _ => ?_⟩) | (refine ⟨by omega, ?_⟩) | (intro _)
        all_goals (refine hK _ ?_; clear hK K)
        all_goals
          refine AW_seq ?_
          refine AW_cond rfl (fun hc5 => ?_) (fun hc5 => ?_)
          · try simp [decB_true, decB_false, eqB_true, eqB_false, cmpI_lt, cmpI_ge] at hc5
            all_goals
              have hg : l[i]? = some l[i] := List.getElem?_eq_getElem (by omega)
              have hg' : l[i - 1]? = some l[i - 1] := List.getElem?_eq_getElem (by omega)
              have hm := hl2 i (by omega)
              rcases Nat.eq_zero_or_pos i with hi0 | hi0
              all_goals
                refine AW_skip ?_
                refine AW_id ?_
                refine AW_seq ?_
                refine AW_block ?_
                refine AW_r rfl rfl fun K hK => ?_
                simp (disch := omega) [wrap64, List.getElem?_eq_getElem, toNat_pred, DtInst.cells, DtId.cells, DtCmd.cells, decB_true, decB_false, cmpI_ge, cmpI_lt, Classical.not_not]
                repeat' first | (exfalso; omega) | (refine ⟨fun _ => ?_, fun _ => ?_⟩) | (refine ⟨by omega, ?_⟩) | (intro _)
                all_goals (refine hK _ ?_; clear hK K)
                all_goals
                  refine AW_q rfl mix (by kernel_rfl) rfl fun K hK => ?_
                  simp (disch := omega) [wrap64, List.getElem?_eq_getElem, toNat_pred, DtInst.cells, DtId.cells, DtCmd.cells, decB_true, decB_false, cmpI_ge, cmpI_lt, Classical.not_not]
                  repeat' first | (exfalso; omega) | (refine CKd_v (am2s_cons (am2_agg rfl) am2s_nil) (instOk _ (by assumption)) rfl ?_; simp (disch := omega) [wrap64, List.getElem?_eq_getElem, toNat_pred, DtInst.cells, DtId.cells, DtCmd.cells, decB_true, decB_false, cmpI_ge, cmpI_lt, Classical.not_not]) | (refine CKd_v (am2s_cons (am2_agg rfl) (am2s_cons (am2_agg rfl) am2s_nil)) (compareIds _ _) rfl ?_; simp (disch := omega) [wrap64, List.getElem?_eq_getElem, toNat_pred, DtInst.cells, DtId.cells, DtCmd.cells, decB_true, decB_false, cmpI_ge, cmpI_lt, Classical.not_not]) | (refine ⟨fun _ => ?_, fun _ => ?_⟩) | (refine ⟨by omega, ?_⟩) | (intro _)
                  all_goals (refine hK _ ?_; clear hK K)
                  all_goals
                    refine AW_cond rfl (fun hc6 => ?_) (fun hc6 => ?_)
                    · try simp [decB_true, decB_false, eqB_true, eqB_false, cmpI_lt, cmpI_ge] at hc6
                      all_goals
                        refine AW_r rfl rfl fun K hK => ?_
                        simp (disch := omega) [wrap64, List.getElem?_eq_getElem, toNat_pred, DtInst.cells, DtId.cells, DtCmd.cells, decB_true, decB_false, cmpI_ge, cmpI_lt, Classical.not_not]
                        repeat' first | (exfalso; omega) | (refine ⟨fun _ => ?_, fun _ => ?_⟩) | (refine ⟨by omega, ?_⟩) | (intro _)
                        all_goals (refine hK _ ?_; clear hK K)
                        all_goals
                          refine AW_ret (end_s ?_)
                          simp (disch := omega) [wrap64, List.getElem?_eq_getElem, toNat_pred, DtInst.cells, DtId.cells, DtCmd.cells, decB_true, decB_false, cmpI_ge, cmpI_lt, Classical.not_not]
                          all_goals first | grind [InstsP] | (refine decB_f fun h => ?_; grind [InstsP]) | (refine decB_t ?_; grind [InstsP])
                    · try simp [decB_true, decB_false, eqB_true, eqB_false, cmpI_lt, cmpI_ge] at hc6
                      all_goals
                        refine AW_skip ?_
                        refine AW_id ?_
                        refine AW_re rfl rfl fun K hK => ?_
                        simp (disch := omega) [wrap64, List.getElem?_eq_getElem, toNat_pred, DtInst.cells, DtId.cells, DtCmd.cells, decB_true, decB_false, cmpI_ge, cmpI_lt, Classical.not_not]
                        repeat' first | (exfalso; omega) | (refine ⟨fun _ => ?_, fun _ => ?_⟩) | (refine ⟨by omega, ?_⟩) | (intro _)
                        all_goals (refine hK _ ?_; clear hK K)
                        all_goals
                          refine ⟨_, LeS.ko [(0, .sl 16 (l.map DtInst.cells)), (5, .sl 16 (l.map DtInst.cells)), (6, (.g (.int .i64 ((l.length : Nat))))), (7, (.g (.int .i64 (((i + 1) : Nat)))))] [] (by simp [KpE, upd_app, lkE_app, lk_cons]; try rfl) (by simp [KpO, upd_app, lk_cons, lk_nil, formOb_nn]; try rfl) (by rfl) (by simp) (by rfl), _, ?_, i + 1, rfl, ?_, rfl⟩
                          · omega
                          · refine ⟨by omega, ?_⟩; clear hg' hl2; grind
          · try simp [decB_true, decB_false, eqB_true, eqB_false, cmpI_lt, cmpI_ge] at hc5
            all_goals
              refine AW_exit ?_
              refine AW_id ?_
              refine AW_r rfl rfl fun K hK => ?_
              simp (disch := omega) [wrap64, List.getElem?_eq_getElem, toNat_pred, DtInst.cells, DtId.cells, DtCmd.cells, decB_true, decB_false, cmpI_ge, cmpI_lt, Classical.not_not]
              repeat' first | (exfalso; omega) | (refine ⟨fun _ => ?_, fun _ => ?_⟩) | (refine ⟨by omega, ?_⟩) | (intro _)
              all_goals (refine hK _ ?_; clear hK K)
              all_goals
                refine AW_ret (end_s ?_)
                simp (disch := omega) [wrap64, List.getElem?_eq_getElem, toNat_pred, DtInst.cells, DtId.cells, DtCmd.cells, decB_true, decB_false, cmpI_ge, cmpI_lt, Classical.not_not]
                all_goals first | grind [InstsP] | (refine decB_f fun h => ?_; grind [InstsP]) | (refine decB_t ?_; grind [InstsP])
theorem areDeps (l : List DtId) (x : DtId) (hn : l.length ≤ 1048576) : PCall Tryz.prog 60 [.sl 2 (l.map DtId.cells), .agg (DtId.cells x)] (.g (.bool (decB (IdsP l ∧ ¬ x ∈ l)))) := by
  refine gcall_of_walk Tryz.func60 (by rfl) (by rfl) (by rw [Tryz.ntmps60]; exact Nat.le_of_ble_eq_true rfl) rfl (by decide) ?_
  rw [Tryz.ntmps60]
  refine AW_k [(0, _), (1, _)] ⟨rfl, rfl, trivial⟩ ?_
  refine AW_r rfl rfl fun K hK => ?_
  simp (disch := omega) [wrap64, List.getElem?_eq_getElem, toNat_pred, DtId.cells]
  repeat' first | (exfalso; omega) | (refine ⟨fun _ => ?_, fun _ => ?_⟩) | (refine ⟨by omega, ?_⟩) | (intro _)
  all_goals (refine hK _ ?_; clear hK K)
  all_goals
    refine AW_r rfl rfl fun K hK => ?_
    simp (disch := omega) [wrap64, List.getElem?_eq_getElem, toNat_pred, DtId.cells]
    repeat' first | (exfalso; omega) | (refine CKd_v (am2s_cons am2_sl am2s_nil) (implIdsOk _ (by assumption)) rfl ?_; simp (disch := omega) [wrap64, List.getElem?_eq_getElem, toNat_pred, DtId.cells]) | (refine CKd_v (am2s_cons am2_sl (am2s_cons (am2_agg rfl) am2s_nil)) (containsId _ _ (by assumption)) rfl ?_; simp (disch := omega) [wrap64, List.getElem?_eq_getElem, toNat_pred, DtId.cells]) | (refine ⟨fun _ => ?_, fun _ => ?_⟩) | (refine ⟨by omega, ?_⟩) | (intro _)
    all_goals (refine hK _ ?_; clear hK K)
    all_goals
      refine AW_ret (end_s ?_)
      simp (disch := omega) [wrap64, List.getElem?_eq_getElem, toNat_pred, DtId.cells]
      all_goals first | (rw [Bool.eq_iff_iff, decB_true]; simp_all [decB_true, decB_false]; done) | (refine decB_f fun h => ?_; simp_all [decB_true, decB_false]) | (rw [Bool.eq_iff_iff]; simp_all [decB_true, decB_false])
end Go.Proofs.YtopeonnaalpmjaaGreat.Vs
