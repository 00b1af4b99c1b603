import Derived.Test.YtopeonnaalpmjaaGreatSK1
open Go Go.Proofs Go.Proofs.YtopeonnaalpmjaaGreat.Vs
namespace Go.Proofs.YtopeonnaalpmjaaGreat.Vs
set_option linter.unusedVariables false
set_option linter.unusedSimpArgs false
set_option linter.unusedSectionVars false
set_option linter.unnecessarySimpa false
set_option linter.all false
set_option linter.unusedSimpArgs false
set_option linter.unusedVariables false
set_option maxRecDepth 100000
theorem e2_id : eq2 Tryz.prog 44 = true := by kernel_rfl
def IdP (x : DtId) : Prop := 0 ≤ x.fRep ∧ x.fRep ≤ 2 ∧ 1 ≤ x.fSlot ∧ x.fSlot ≤ 6
def idLt (a b : DtId) : Prop := a.fRep < b.fRep ∨ (a.fRep = b.fRep ∧ a.fSlot < b.fSlot)
def IdsP (l : List DtId) : Prop := ∀ (i : Nat) x, l[i]? = some x → IdP x ∧ ∀ y, 0 < i → l[i - 1]? = some y → idLt y x
noncomputable def cmpI (a b : DtId) : Int := bif decB (idLt a b) then -1 else bif eqB a b then 0 else 1
theorem cmpI_lt (a b : DtId) : (cmpI a b < 0) = idLt a b := by
  by_cases h : idLt a b
  · have e : cmpI a b = -1 := by rw [cmpI, decB_t h]; rfl
    rw [e]; simp [h]
  · have e : 0 ≤ cmpI a b := by
      rw [cmpI, decB_f h]
      cases eqB a b <;> simp
    simp [h]; omega
theorem cmpI_ge (a b : DtId) : (0 ≤ cmpI a b) = ¬ idLt a b := by
  rw [← cmpI_lt]; simp
theorem id_ext (a b : DtId) : (a = b) = (a.fRep = b.fRep ∧ a.fSlot = b.fSlot) := DtId.ext_iff a b
theorem l8Id (x : DtId) : PCall Tryz.prog 42 [.agg (DtId.cells x)] (.g (.bool (decB (IdP x)))) := by
  refine gcall_of_walk Tryz.func42 (by rfl) (by rfl) (by rw [Tryz.ntmps42]; exact Nat.le_of_ble_eq_true rfl) rfl (by decide) ?_
  rw [Tryz.ntmps42]
  refine AW_k [(0, _)] ⟨rfl, trivial⟩ ?_
  refine AW_r rfl rfl fun K hK => ?_
  simp (disch := omega) [wrap64, List.getElem?_eq_getElem, toNat_pred, DtId.cells, decB_true, decB_false]
  repeat' first | (exfalso; omega) | (refine ⟨fun _ => ?_, fun _ => ?_⟩) | (refine ⟨by omega, ?_⟩) | (intro _)
  all_goals (refine hK _ ?_; clear hK K)
  all_goals
    refine AW_r rfl rfl fun K hK => ?_
    simp (disch := omega) [wrap64, List.getElem?_eq_getElem, toNat_pred, DtId.cells, decB_true, decB_false]
    repeat' first | (exfalso; omega) | (refine CKd_v (am2s_cons am2_g (am2s_cons am2_g (am2s_cons am2_g am2s_nil))) (l1In _ _ _) rfl ?_; simp (disch := omega) [wrap64, List.getElem?_eq_getElem, toNat_pred, DtId.cells, decB_true, decB_false]) | (refine ⟨fun _ => ?_, fun _ => ?_⟩) | (refine ⟨by omega, ?_⟩) | (intro _)
    all_goals (refine hK _ ?_; clear hK K)
    all_goals
      refine AW_ret (end_s ?_)
      simp (disch := omega) [wrap64, List.getElem?_eq_getElem, toNat_pred, DtId.cells, decB_true, decB_false]
      all_goals first | grind [IdP] | (rw [Bool.eq_iff_iff, decB_true]; simp; grind [IdP])
theorem idOk (x : DtId) : PCall Tryz.prog 58 [.agg (DtId.cells x)] (.g (.bool (decB (IdP x)))) := by
  refine gcall_of_walk Tryz.func58 (by rfl) (by rfl) (by rw [Tryz.ntmps58]; exact Nat.le_of_ble_eq_true rfl) rfl (by decide) ?_
  rw [Tryz.ntmps58]
  refine AW_k [(0, _)] ⟨rfl, trivial⟩ ?_
  refine AW_r rfl rfl fun K hK => ?_
  simp (disch := omega) [wrap64, List.getElem?_eq_getElem, toNat_pred, DtId.cells, decB_true, decB_false]
  repeat' first | (exfalso; omega) | (refine ⟨fun _ => ?_, fun _ => ?_⟩) | (refine ⟨by omega, ?_⟩) | (intro _)
  all_goals (refine hK _ ?_; clear hK K)
  all_goals
    refine AW_r rfl rfl fun K hK => ?_
    simp (disch := omega) [wrap64, List.getElem?_eq_getElem, toNat_pred, DtId.cells, decB_true, decB_false]
    repeat' first | (exfalso; omega) | (refine CKd_v (am2s_cons am2_g (am2s_cons am2_g (am2s_cons am2_g am2s_nil))) (within _ _ _) rfl ?_; simp (disch := omega) [wrap64, List.getElem?_eq_getElem, toNat_pred, DtId.cells, decB_true, decB_false]) | (refine ⟨fun _ => ?_, fun _ => ?_⟩) | (refine ⟨by omega, ?_⟩) | (intro _)
    all_goals (refine hK _ ?_; clear hK K)
    all_goals
      refine AW_ret (end_s ?_)
      simp (disch := omega) [wrap64, List.getElem?_eq_getElem, toNat_pred, DtId.cells, decB_true, decB_false]
      all_goals first | grind [IdP] | (rw [Bool.eq_iff_iff, decB_true]; simp; grind [IdP])
theorem l8Less (a b : DtId) : PCall Tryz.prog 77 [.agg (DtId.cells a), .agg (DtId.cells b)] (.g (.bool (decB (idLt a b)))) := by
  refine gcall_of_walk Tryz.func77 (by rfl) (by rfl) (by rw [Tryz.ntmps77]; exact Nat.le_of_ble_eq_true rfl) rfl (by decide) ?_
  rw [Tryz.ntmps77]
  refine AW_k [(0, _), (1, _)] ⟨rfl, rfl, trivial⟩ ?_
  refine AW_r rfl rfl fun K hK => ?_
  simp (disch := omega) [wrap64, List.getElem?_eq_getElem, toNat_pred, DtId.cells, decB_true, decB_false]
  repeat' first | (exfalso; omega) | (refine ⟨fun _ => ?_, fun _ => ?_⟩) | (refine ⟨by omega, ?_⟩) | (intro _)
  all_goals (refine hK _ ?_; clear hK K)
  all_goals
    refine AW_r rfl rfl fun K hK => ?_
    simp (disch := omega) [wrap64, List.getElem?_eq_getElem, toNat_pred, DtId.cells, decB_true, decB_false]
    repeat' first | (exfalso; omega) | (refine ⟨fun _ => ?_, fun _ => ?_⟩) | (refine ⟨by omega, ?_⟩) | (intro _)
    all_goals (refine hK _ ?_; clear hK K)
    all_goals
      refine AW_ret (end_s ?_)
      simp (disch := omega) [wrap64, List.getElem?_eq_getElem, toNat_pred, DtId.cells, decB_true, decB_false]
      all_goals first | grind [idLt] | (rw [Bool.eq_iff_iff, decB_true]; simp; grind [idLt])
theorem compareIds (a b : DtId) : PCall Tryz.prog 85 [.agg (DtId.cells a), .agg (DtId.cells b)] (.g (.int .i64 (cmpI a b))) := by
  have hd : decB (idLt a b) = true ∨ decB (idLt a b) = false := by cases decB (idLt a b) <;> simp
  have he := id_ext a b
  have k1 : (a.fRep < b.fRep ∨ (a.fRep = b.fRep ∧ a.fSlot < b.fSlot)) → cmpI a b = -1 := fun h => by
    have h : idLt a b := h
    rw [cmpI, decB_t h]; rfl
  have k2 : ¬ (a.fRep < b.fRep ∨ (a.fRep = b.fRep ∧ a.fSlot < b.fSlot)) → (a.fRep = b.fRep ∧ a.fSlot = b.fSlot) → cmpI a b = 0 := fun h h2 => by
    have h : ¬ idLt a b := h
    rw [cmpI, decB_f h, eqB_of (he.mpr h2)]; rfl
  have k3 : ¬ (a.fRep < b.fRep ∨ (a.fRep = b.fRep ∧ a.fSlot < b.fSlot)) → ¬ (a.fRep = b.fRep ∧ a.fSlot = b.fSlot) → cmpI a b = 1 := fun h h2 => by
    have h : ¬ idLt a b := h
    rw [cmpI, decB_f h, eqB_ne (fun e => h2 (he.mp e))]; rfl
  refine gcall_of_walk Tryz.func85 (by rfl) (by rfl) (by rw [Tryz.ntmps85]; exact Nat.le_of_ble_eq_true rfl) rfl (by decide) ?_
  rw [Tryz.ntmps85]
  refine AW_k [(0, _), (1, _)] ⟨rfl, rfl, trivial⟩ ?_
  refine AW_r rfl rfl fun K hK => ?_
  simp (disch := omega) [wrap64, List.getElem?_eq_getElem, toNat_pred, DtId.cells, e2_id]
  repeat' first | (exfalso; omega) | (refine ⟨fun _ => ?_, fun _ => ?_⟩) | (refine ⟨by omega, ?_⟩) | (intro _)
  all_goals (refine hK _ ?_; clear hK K)
  all_goals
    refine AW_seq ?_
    refine AW_block ?_
    refine AW_r rfl rfl fun K hK => ?_
    simp (disch := omega) [wrap64, List.getElem?_eq_getElem, toNat_pred, DtId.cells, e2_id]
    repeat' first | (exfalso; omega) | (refine ⟨fun _ => ?_, fun _ => ?_⟩) | (refine ⟨by omega, ?_⟩) | (intro _)
    all_goals (refine hK _ ?_; clear hK K)
    all_goals
      refine AW_cond rfl (fun hc1 => ?_) (fun hc1 => ?_)
      · try simp [decB_true, decB_false, eqB_true, eqB_false] at hc1
        all_goals
          refine AW_r rfl rfl fun K hK => ?_
          simp (disch := omega) [wrap64, List.getElem?_eq_getElem, toNat_pred, DtId.cells, e2_id]
          repeat' first | (exfalso; omega) | (refine ⟨fun _ => ?_, fun _ => ?_⟩) | (refine ⟨by omega, ?_⟩) | (intro _)
          all_goals (refine hK _ ?_; clear hK K)
          all_goals
            refine AW_ret (end_s ?_)
            simp (disch := omega) [wrap64, List.getElem?_eq_getElem, toNat_pred, DtId.cells, e2_id]
            all_goals (clear hd he; grind)
      · try simp [decB_true, decB_false, eqB_true, eqB_false] at hc1
        all_goals
          refine AW_r rfl rfl fun K hK => ?_
          simp (disch := omega) [wrap64, List.getElem?_eq_getElem, toNat_pred, DtId.cells, e2_id]
          repeat' first | (exfalso; omega) | (refine ⟨fun _ => ?_, fun _ => ?_⟩) | (refine ⟨by omega, ?_⟩) | (intro _)
          all_goals (refine hK _ ?_; clear hK K)
          all_goals
            refine AW_cond rfl (fun hc2 => ?_) (fun hc2 => ?_)
            · try simp [decB_true, decB_false, eqB_true, eqB_false] at hc2
              all_goals
                refine AW_r rfl rfl fun K hK => ?_
                simp (disch := omega) [wrap64, List.getElem?_eq_getElem, toNat_pred, DtId.cells, e2_id]
                repeat' first | (exfalso; omega) | (refine ⟨fun _ => ?_, fun _ => ?_⟩) | (refine ⟨by omega, ?_⟩) | (intro _)
                all_goals (refine hK _ ?_; clear hK K)
                all_goals
                  refine AW_ret (end_s ?_)
                  simp (disch := omega) [wrap64, List.getElem?_eq_getElem, toNat_pred, DtId.cells, e2_id]
                  all_goals (clear hd he; grind)
            · try simp [decB_true, decB_false, eqB_true, eqB_false] at hc2
              all_goals
                refine AW_skip ?_
                refine AW_id ?_
                refine AW_r rfl rfl fun K hK => ?_
                simp (disch := omega) [wrap64, List.getElem?_eq_getElem, toNat_pred, DtId.cells, e2_id]
                repeat' first | (exfalso; omega) | (refine ⟨fun _ => ?_, fun _ => ?_⟩) | (refine ⟨by omega, ?_⟩) | (intro _)
                all_goals (refine hK _ ?_; clear hK K)
                all_goals
                  refine AW_ret (end_s ?_)
                  simp (disch := omega) [wrap64, List.getElem?_eq_getElem, toNat_pred, DtId.cells, e2_id]
                  all_goals (clear hd he; grind)
theorem specIdsOk (l : List DtId) (hn : l.length ≤ 1048576) : PCall Tryz.prog 44 [.sl 2 (l.map DtId.cells)] (.g (.bool (decB (IdsP l)))) := by
  refine gcall_of_walk Tryz.func44 (by rfl) (by rfl) (by rw [Tryz.ntmps44]; exact Nat.le_of_ble_eq_true rfl) rfl (by decide) ?_
  rw [Tryz.ntmps44]
  refine AW_k [(0, _)] ⟨rfl, trivial⟩ ?_
  refine AW_r rfl rfl fun K hK => ?_
  simp (disch := omega) [wrap64, List.getElem?_eq_getElem, toNat_pred, DtId.cells, decB_true, decB_false, cmpI_ge, cmpI_lt, Classical.not_not]
  repeat' first | (exfalso; omega) | (refine ⟨fun _ => ?_, fun _ => ?_⟩) | (refine ⟨by omega, ?_⟩) | (intro _)
  all_goals (refine hK _ ?_; clear hK K)
  all_goals
    refine AW_seq ?_
    refine AW_r rfl rfl fun K hK => ?_
    simp (disch := omega) [wrap64, List.getElem?_eq_getElem, toNat_pred, DtId.cells, decB_true, decB_false, cmpI_ge, cmpI_lt, Classical.not_not]
    repeat' first | (exfalso; omega) | (refine ⟨fun _ => ?_, fun _ => ?_⟩) | (refine ⟨by omega, ?_⟩) | (intro _)
    all_goals (refine hK _ ?_; clear hK K)
    all_goals
      refine AW_block ?_
      refine AW_loopS (fun mM sS => ∃ (i : Nat), mM = l.length - i ∧ (i ≤ l.length ∧ ∀ (j : Nat) x, j < i → l[j]? = some x → IdP x ∧ ∀ y, 0 < j → l[j - 1]? = some y → idLt y x) ∧ sS = { env := lkE [(0, .sl 2 (l.map DtId.cells)), (3, (.g (.int .i64 ((i : Nat)))))], ob := formOb [] [] }) ?_ ?_
      · refine ⟨_, LeS.kp [(0, .sl 2 (l.map DtId.cells)), (3, (.g (.int .i64 (((0) : Nat)))))] (by simp [KpE, upd_app, lkE_app, lk_cons]; try rfl), _, 0, rfl, ?_, rfl⟩
        · simp
      · rintro mM sS ⟨i, rfl, ⟨hi, hpre⟩, rfl⟩
        refine AW_seq ?_
        refine AW_r rfl rfl fun K hK => ?_
        simp (disch := omega) [wrap64, List.getElem?_eq_getElem, toNat_pred, DtId.cells, decB_true, decB_false, cmpI_ge, cmpI_lt, Classical.not_not]
        repeat' first | (exfalso; omega) | (refine ⟨fun _ => ?_, fun _ => ?_⟩) | (refine ⟨by omega, ?_⟩) | (intro _)
        all_goals (refine hK _ ?_; clear hK K)
        all_goals
          refine AW_cond rfl (fun hc3 => ?_) (fun hc3 => ?_)
          · try simp [decB_true, decB_false, eqB_true, eqB_false, cmpI_lt, cmpI_ge] at hc3
            all_goals
              have hg : l[i]? = some l[i] := List.getElem?_eq_getElem (by omega)
              have hg' : l[i - 1]? = some l[i - 1] := List.getElem?_eq_getElem (by omega)
              rcases Nat.eq_zero_or_pos i with hi0 | hi0
              all_goals
                refine AW_skip ?_
                refine AW_id ?_
                refine AW_seq ?_
                refine AW_block ?_
                refine AW_q rfl mix (by kernel_rfl) rfl fun K hK => ?_
                simp (disch := omega) [wrap64, List.getElem?_eq_getElem, toNat_pred, DtId.cells, decB_true, decB_false, cmpI_ge, cmpI_lt, Classical.not_not]
                repeat' first | (exfalso; omega) | (refine CKd_v (am2s_cons (am2_agg rfl) am2s_nil) (l8Id _) rfl ?_; simp (disch := omega) [wrap64, List.getElem?_eq_getElem, toNat_pred, DtId.cells, decB_true, decB_false, cmpI_ge, cmpI_lt, Classical.not_not]) | (refine CKd_v (am2s_cons (am2_agg rfl) (am2s_cons (am2_agg rfl) am2s_nil)) (l8Less _ _) rfl ?_; simp (disch := omega) [wrap64, List.getElem?_eq_getElem, toNat_pred, DtId.cells, decB_true, decB_false, cmpI_ge, cmpI_lt, Classical.not_not]) | (refine ⟨fun _ => ?_, fun _ => ?_⟩) | (refine ⟨by omega, ?_⟩) | (intro _)
                all_goals (refine hK _ ?_; clear hK K)
                all_goals
                  refine AW_cond rfl (fun hc4 => ?_) (fun hc4 => ?_)
                  · try simp [decB_true, decB_false, eqB_true, eqB_false, cmpI_lt, cmpI_ge] at hc4
                    all_goals
                      refine AW_r rfl rfl fun K hK => ?_
                      simp (disch := omega) [wrap64, List.getElem?_eq_getElem, toNat_pred, DtId.cells, decB_true, decB_false, cmpI_ge, cmpI_lt, Classical.not_not]
                      repeat' first | (exfalso; omega) | (refine ⟨fun _ => ?_, fun _ => ?_⟩) | (refine ⟨by omega, ?_⟩) | (intro _)
                      all_goals (refine hK _ ?_; clear hK K)
                      all_goals
                        refine AW_ret (end_s ?_)
                        simp (disch := omega) [wrap64, List.getElem?_eq_getElem, toNat_pred, DtId.cells, decB_true, decB_false, cmpI_ge, cmpI_lt, Classical.not_not]
                        all_goals first | grind [IdsP] | (refine decB_f fun h => ?_; grind [IdsP]) | (refine decB_t ?_; grind [IdsP])
                  · try simp [decB_true, decB_false, eqB_true, eqB_false, cmpI_lt, cmpI_ge] at hc4
                    all_goals
                      refine AW_skip ?_
                      refine AW_id ?_
                      refine AW_re rfl rfl fun K hK => ?_
                      simp (disch := omega) [wrap64, List.getElem?_eq_getElem, toNat_pred, DtId.cells, decB_true, decB_false, cmpI_ge, cmpI_lt, Classical.not_not]
                      repeat' first | (exfalso; omega) | (refine ⟨fun _ => ?_, fun _ => ?_⟩) | (refine ⟨by omega, ?_⟩) | (intro _)
                      all_goals (refine hK _ ?_; clear hK K)
                      all_goals
                        refine ⟨_, LeS.kp [(0, .sl 2 (l.map DtId.cells)), (3, (.g (.int .i64 (((i + 1) : Nat)))))] (by simp [KpE, upd_app, lkE_app, lk_cons]; try rfl), _, ?_, i + 1, rfl, ?_, rfl⟩
                        · omega
                        · refine ⟨by omega, ?_⟩; clear hg'; grind
          · try simp [decB_true, decB_false, eqB_true, eqB_false, cmpI_lt, cmpI_ge] at hc3
            all_goals
              refine AW_exit ?_
              refine AW_id ?_
              refine AW_r rfl rfl fun K hK => ?_
              simp (disch := omega) [wrap64, List.getElem?_eq_getElem, toNat_pred, DtId.cells, decB_true, decB_false, cmpI_ge, cmpI_lt, Classical.not_not]
              repeat' first | (exfalso; omega) | (refine ⟨fun _ => ?_, fun _ => ?_⟩) | (refine ⟨by omega, ?_⟩) | (intro _)
              all_goals (refine hK _ ?_; clear hK K)
              all_goals
                refine AW_ret (end_s ?_)
                simp (disch := omega) [wrap64, List.getElem?_eq_getElem, toNat_pred, DtId.cells, decB_true, decB_false, cmpI_ge, cmpI_lt, Classical.not_not]
                all_goals first | grind [IdsP] | (refine decB_f fun h => ?_; grind [IdsP]) | (refine decB_t ?_; grind [IdsP])
theorem implIdsOk (l : List DtId) (hn : l.length ≤ 1048576) : PCall Tryz.prog 91 [.sl 2 (l.map DtId.cells)] (.g (.bool (decB (IdsP l)))) := by
  refine gcall_of_walk Tryz.func91 (by rfl) (by rfl) (by rw [Tryz.ntmps91]; exact Nat.le_of_ble_eq_true rfl) rfl (by decide) ?_
  rw [Tryz.ntmps91]
  refine AW_k [(0, _)] ⟨rfl, trivial⟩ ?_
  refine AW_r rfl rfl fun K hK => ?_
  simp (disch := omega) [wrap64, List.getElem?_eq_getElem, toNat_pred, DtId.cells, decB_true, decB_false, cmpI_ge, cmpI_lt, Classical.not_not]
  repeat' first | (exfalso; omega) | (refine ⟨fun _ => ?_, fun _ => ?_⟩) | (refine ⟨by omega, ?_⟩) | (intro _)
  all_goals (refine hK _ ?_; clear hK K)
  all_goals
    refine AW_seq ?_
    refine AW_r rfl rfl fun K hK => ?_
    simp (disch := omega) [wrap64, List.getElem?_eq_getElem, toNat_pred, DtId.cells, decB_true, decB_false, cmpI_ge, cmpI_lt, Classical.not_not]
    repeat' first | (exfalso; omega) | (refine ⟨fun _ => ?_, fun _ => ?_⟩) | (refine ⟨by omega, ?_⟩) | (intro _)
    all_goals (refine hK _ ?_; clear hK K)
    all_goals
      refine AW_block ?_
      refine AW_loopS (fun mM sS => ∃ (i : Nat), mM = l.length - i ∧ (i ≤ l.length ∧ ∀ (j : Nat) x, j < i → l[j]? = some x → IdP x ∧ ∀ y, 0 < j → l[j - 1]? = some y → idLt y x) ∧ sS = { env := lkE [(0, .sl 2 (l.map DtId.cells)), (5, .sl 2 (l.map DtId.cells)), (6, (.g (.int .i64 ((l.length : Nat))))), (7, (.g (.int .i64 ((i : Nat)))))], ob := lk [] }) ?_ ?_
      · refine ⟨_, LeS.ko [(0, .sl 2 (l.map DtId.cells)), (5, .sl 2 (l.map DtId.cells)), (6, (.g (.int .i64 ((l.length : Nat))))), (7, (.g (.int .i64 (((0) : Nat)))))] [] (by simp [KpE, upd_app, lkE_app, lk_cons]; try rfl) (by simp [KpO, upd_app, lk_cons, lk_nil, formOb_nn]; try rfl) (by rfl) (by simp) (by rfl), _, 0, rfl, ?_, rfl⟩
        · simp
      · rintro mM sS ⟨i, rfl, ⟨hi, hpre⟩, rfl⟩
        refine AW_r rfl rfl fun K hK => ?_
        simp (disch := omega) [wrap64, List.getElem?_eq_getElem, toNat_pred, DtId.cells, decB_true, decB_false, cmpI_ge, cmpI_lt, Classical.not_not]
        repeat' first | (exfalso; omega) | (refine ⟨fun _ => ?_, fun _ => ?_⟩) | (refine ⟨by omega, ?_⟩) | (intro _)
        all_goals (refine hK _ ?_; clear hK K)
        all_goals
          refine AW_seq ?_
          refine AW_cond rfl (fun hc5 => ?_) (fun hc5 => ?_)
          · try simp [decB_true, decB_false, eqB_true, eqB_false, cmpI_lt, cmpI_ge] at hc5
            all_goals
              have hg : l[i]? = some l[i] := List.getElem?_eq_getElem (by omega)
              have hg' : l[i - 1]? = some l[i - 1] := List.getElem?_eq_getElem (by omega)
              rcases Nat.eq_zero_or_pos i with hi0 | hi0
              all_goals
                refine AW_skip ?_
                refine AW_id ?_
                refine AW_seq ?_
                refine AW_block ?_
                refine AW_r rfl rfl fun K hK => ?_
                simp (disch := omega) [wrap64, List.getElem?_eq_getElem, toNat_pred, DtId.cells, decB_true, decB_false, cmpI_ge, cmpI_lt, Classical.not_not]
                repeat' first | (exfalso; omega) | (refine ⟨fun _ => ?_, fun _ => ?_⟩) | (refine ⟨by omega, ?_⟩) | (intro _)
                all_goals (refine hK _ ?_; clear hK K)
                all_goals
                  refine AW_q rfl mix (by kernel_rfl) rfl fun K hK => ?_
                  simp (disch := omega) [wrap64, List.getElem?_eq_getElem, toNat_pred, DtId.cells, decB_true, decB_false, cmpI_ge, cmpI_lt, Classical.not_not]
                  repeat' first | (exfalso; omega) | (refine CKd_v (am2s_cons (am2_agg rfl) am2s_nil) (idOk _) rfl ?_; simp (disch := omega) [wrap64, List.getElem?_eq_getElem, toNat_pred, DtId.cells, decB_true, decB_false, cmpI_ge, cmpI_lt, Classical.not_not]) | (refine CKd_v (am2s_cons (am2_agg rfl) (am2s_cons (am2_agg rfl) am2s_nil)) (compareIds _ _) rfl ?_; simp (disch := omega) [wrap64, List.getElem?_eq_getElem, toNat_pred, DtId.cells, decB_true, decB_false, cmpI_ge, cmpI_lt, Classical.not_not]) | (refine ⟨fun _ => ?_, fun _ => ?_⟩) | (refine ⟨by omega, ?_⟩) | (intro _)
                  all_goals (refine hK _ ?_; clear hK K)
                  all_goals
                    refine AW_cond rfl (fun hc6 => ?_) (fun hc6 => ?_)
                    · try simp [decB_true, decB_false, eqB_true, eqB_false, cmpI_lt, cmpI_ge] at hc6
                      all_goals
                        refine AW_r rfl rfl fun K hK => ?_
                        simp (disch := omega) [wrap64, List.getElem?_eq_getElem, toNat_pred, DtId.cells, decB_true, decB_false, cmpI_ge, cmpI_lt, Classical.not_not]
                        repeat' first | (exfalso; omega) | (refine ⟨fun _ => ?_, fun _ => ?_⟩) | (refine ⟨by omega, ?_⟩) | (intro _)
                        all_goals (refine hK _ ?_; clear hK K)
                        all_goals
                          refine AW_ret (end_s ?_)
                          simp (disch := omega) [wrap64, List.getElem?_eq_getElem, toNat_pred, DtId.cells, decB_true, decB_false, cmpI_ge, cmpI_lt, Classical.not_not]
                          all_goals first | grind [IdsP] | (refine decB_f fun h => ?_; grind [IdsP]) | (refine decB_t ?_; grind [IdsP])
                    · try simp [decB_true, decB_false, eqB_true, eqB_false, cmpI_lt, cmpI_ge] at hc6
                      all_goals
                        refine AW_skip ?_
                        refine AW_id ?_
                        refine AW_re rfl rfl fun K hK => ?_
                        simp (disch := omega) [wrap64, List.getElem?_eq_getElem, toNat_pred, DtId.cells, decB_true, decB_false, cmpI_ge, cmpI_lt, Classical.not_not]
                        repeat' first | (exfalso; omega) | (refine ⟨fun _ => ?_, fun _ => ?_⟩) | (refine ⟨by omega, ?_⟩) | (intro _)
                        all_goals (refine hK _ ?_; clear hK K)
                        all_goals
                          refine ⟨_, LeS.ko [(0, .sl 2 (l.map DtId.cells)), (5, .sl 2 (l.map DtId.cells)), (6, (.g (.int .i64 ((l.length : Nat))))), (7, (.g (.int .i64 (((i + 1) : Nat)))))] [] (by simp [KpE, upd_app, lkE_app, lk_cons]; try rfl) (by simp [KpO, upd_app, lk_cons, lk_nil, formOb_nn]; try rfl) (by rfl) (by simp) (by rfl), _, ?_, i + 1, rfl, ?_, rfl⟩
                          · omega
                          · refine ⟨by omega, ?_⟩; clear hg'; grind
          · try simp [decB_true, decB_false, eqB_true, eqB_false, cmpI_lt, cmpI_ge] at hc5
            all_goals
              refine AW_exit ?_
              refine AW_id ?_
              refine AW_r rfl rfl fun K hK => ?_
              simp (disch := omega) [wrap64, List.getElem?_eq_getElem, toNat_pred, DtId.cells, decB_true, decB_false, cmpI_ge, cmpI_lt, Classical.not_not]
              repeat' first | (exfalso; omega) | (refine ⟨fun _ => ?_, fun _ => ?_⟩) | (refine ⟨by omega, ?_⟩) | (intro _)
              all_goals (refine hK _ ?_; clear hK K)
              all_goals
                refine AW_ret (end_s ?_)
                simp (disch := omega) [wrap64, List.getElem?_eq_getElem, toNat_pred, DtId.cells, decB_true, decB_false, cmpI_ge, cmpI_lt, Classical.not_not]
                all_goals first | grind [IdsP] | (refine decB_f fun h => ?_; grind [IdsP]) | (refine decB_t ?_; grind [IdsP])
theorem l8Has (l : List DtId) (x : DtId) (hn : l.length ≤ 1048576) : PCall Tryz.prog 45 [.sl 2 (l.map DtId.cells), .agg (DtId.cells x)] (.g (.bool (decB (x ∈ l)))) := by
  refine gcall_of_walk Tryz.func45 (by rfl) (by rfl) (by rw [Tryz.ntmps45]; exact Nat.le_of_ble_eq_true rfl) rfl (by decide) ?_
  rw [Tryz.ntmps45]
  refine AW_k [(0, _), (1, _)] ⟨rfl, rfl, trivial⟩ ?_
  refine AW_r rfl rfl fun K hK => ?_
  simp (disch := omega) [wrap64, List.getElem?_eq_getElem, toNat_pred, DtId.cells, e2_id]
  repeat' first | (exfalso; omega) | (refine ⟨fun _ => ?_, fun _ => ?_⟩) | (refine ⟨by omega, ?_⟩) | (intro _)
  all_goals (refine hK _ ?_; clear hK K)
  all_goals
    refine AW_seq ?_
    refine AW_r rfl rfl fun K hK => ?_
    simp (disch := omega) [wrap64, List.getElem?_eq_getElem, toNat_pred, DtId.cells, e2_id]
    repeat' first | (exfalso; omega) | (refine ⟨fun _ => ?_, fun _ => ?_⟩) | (refine ⟨by omega, ?_⟩) | (intro _)
    all_goals (refine hK _ ?_; clear hK K)
    all_goals
      refine AW_block ?_
      refine AW_loopS (fun mM sS => ∃ (i : Nat), mM = l.length - i ∧ (i ≤ l.length ∧ ∀ (j : Nat) y, j < i → l[j]? = some y → ¬ (y.fRep = x.fRep ∧ y.fSlot = x.fSlot)) ∧ sS = { env := lkE [(0, .sl 2 (l.map DtId.cells)), (3, .ptr 64 0), (5, (.g (.int .i64 ((i : Nat)))))], ob := lk [(64, .cells (DtId.cells x))] }) ?_ ?_
      · refine ⟨_, LeS.ko [(0, .sl 2 (l.map DtId.cells)), (3, .ptr 64 0), (5, (.g (.int .i64 (((0) : Nat)))))] [(64, .cells (DtId.cells x))] (by simp [KpE, upd_app, lkE_app, lk_cons, DtId.cells]; try rfl) (by simp [KpO, upd_app, lk_cons, lk_nil, formOb_nn, DtId.cells]; try rfl) (by rfl) (by simp) (by rfl), _, 0, rfl, ?_, rfl⟩
        · simp
      · rintro mM sS ⟨i, rfl, ⟨hi, hpre⟩, rfl⟩
        refine AW_seq ?_
        refine AW_r rfl rfl fun K hK => ?_
        simp (disch := omega) [wrap64, List.getElem?_eq_getElem, toNat_pred, DtId.cells, e2_id]
        repeat' first | (exfalso; omega) | (refine ⟨fun _ => ?_, fun _ => ?_⟩) | (refine ⟨by omega, ?_⟩) | (intro _)
        all_goals (refine hK _ ?_; clear hK K)
        all_goals
          refine AW_cond rfl (fun hc7 => ?_) (fun hc7 => ?_)
          · try simp [decB_true, decB_false, eqB_true, eqB_false, cmpI_lt, cmpI_ge] at hc7
            all_goals
              have hg : l[i]? = some l[i] := List.getElem?_eq_getElem (by omega)
              refine AW_skip ?_
              refine AW_id ?_
              refine AW_seq ?_
              refine AW_block ?_
              refine AW_q rfl mix (by kernel_rfl) rfl fun K hK => ?_
              simp (disch := omega) [wrap64, List.getElem?_eq_getElem, toNat_pred, DtId.cells, e2_id]
              repeat' first | (exfalso; omega) | (refine ⟨fun _ => ?_, fun _ => ?_⟩) | (refine ⟨by omega, ?_⟩) | (intro _)
              all_goals (refine hK _ ?_; clear hK K)
              all_goals
                refine AW_cond rfl (fun hc8 => ?_) (fun hc8 => ?_)
                · try simp [decB_true, decB_false, eqB_true, eqB_false, cmpI_lt, cmpI_ge] at hc8
                  all_goals
                    refine AW_r rfl rfl fun K hK => ?_
                    simp (disch := omega) [wrap64, List.getElem?_eq_getElem, toNat_pred, DtId.cells, e2_id]
                    repeat' first | (exfalso; omega) | (refine ⟨fun _ => ?_, fun _ => ?_⟩) | (refine ⟨by omega, ?_⟩) | (intro _)
                    all_goals (refine hK _ ?_; clear hK K)
                    all_goals
                      refine AW_ret (end_s ?_)
                      simp (disch := omega) [wrap64, List.getElem?_eq_getElem, toNat_pred, DtId.cells, e2_id]
                      all_goals first | (refine decB_f fun h => ?_; grind [List.mem_iff_getElem?]) | (refine decB_t ?_; grind [List.mem_iff_getElem?, id_ext])
                · try simp [decB_true, decB_false, eqB_true, eqB_false, cmpI_lt, cmpI_ge] at hc8
                  all_goals
                    refine AW_skip ?_
                    refine AW_id ?_
                    refine AW_re rfl rfl fun K hK => ?_
                    simp (disch := omega) [wrap64, List.getElem?_eq_getElem, toNat_pred, DtId.cells, e2_id]
                    repeat' first | (exfalso; omega) | (refine ⟨fun _ => ?_, fun _ => ?_⟩) | (refine ⟨by omega, ?_⟩) | (intro _)
                    all_goals (refine hK _ ?_; clear hK K)
                    all_goals
                      refine ⟨_, LeS.ko [(0, .sl 2 (l.map DtId.cells)), (3, .ptr 64 0), (5, (.g (.int .i64 (((i + 1) : Nat)))))] [(64, .cells (DtId.cells x))] (by simp [KpE, upd_app, lkE_app, lk_cons, DtId.cells]; try rfl) (by simp [KpO, upd_app, lk_cons, lk_nil, formOb_nn, DtId.cells]; try rfl) (by rfl) (by simp) (by rfl), _, ?_, i + 1, rfl, ?_, rfl⟩
                      · omega
                      · refine ⟨by omega, ?_⟩; grind
          · try simp [decB_true, decB_false, eqB_true, eqB_false, cmpI_lt, cmpI_ge] at hc7
            all_goals
              refine AW_exit ?_
              refine AW_id ?_
              refine AW_r rfl rfl fun K hK => ?_
              simp (disch := omega) [wrap64, List.getElem?_eq_getElem, toNat_pred, DtId.cells, e2_id]
              repeat' first | (exfalso; omega) | (refine ⟨fun _ => ?_, fun _ => ?_⟩) | (refine ⟨by omega, ?_⟩) | (intro _)
              all_goals (refine hK _ ?_; clear hK K)
              all_goals
                refine AW_ret (end_s ?_)
                simp (disch := omega) [wrap64, List.getElem?_eq_getElem, toNat_pred, DtId.cells, e2_id]
                all_goals first | (refine decB_f fun h => ?_; grind [List.mem_iff_getElem?]) | (refine decB_t ?_; grind [List.mem_iff_getElem?, id_ext])
theorem indexId (l : List DtId) (x : DtId) (hn : l.length ≤ 1048576) : PCall Tryz.prog 105 [.sl 2 (l.map DtId.cells), .agg (DtId.cells x)] (.g (.int .i64 (idxZ (fun y => eqB x y) l))) := by
  refine gcall_of_walk Tryz.func105 (by rfl) (by rfl) (by rw [Tryz.ntmps105]; exact Nat.le_of_ble_eq_true rfl) rfl (by decide) ?_
  rw [Tryz.ntmps105]
  refine AW_k [(0, _), (1, _)] ⟨rfl, rfl, trivial⟩ ?_
  refine AW_r rfl rfl fun K hK => ?_
  simp (disch := omega) [wrap64, List.getElem?_eq_getElem, toNat_pred, DtId.cells, e2_id]
  repeat' first | (exfalso; omega) | (refine ⟨fun _ => ?_, fun _ => ?_⟩) | (refine ⟨by omega, ?_⟩) | (intro _)
  all_goals (refine hK _ ?_; clear hK K)
  all_goals
    refine AW_seq ?_
    refine AW_r rfl rfl fun K hK => ?_
    simp (disch := omega) [wrap64, List.getElem?_eq_getElem, toNat_pred, DtId.cells, e2_id]
    repeat' first | (exfalso; omega) | (refine ⟨fun _ => ?_, fun _ => ?_⟩) | (refine ⟨by omega, ?_⟩) | (intro _)
    all_goals (refine hK _ ?_; clear hK K)
    all_goals
      refine AW_block ?_
      refine AW_loopS (fun mM sS => ∃ (i : Nat), mM = l.length - i ∧ (i ≤ l.length ∧ ∀ (j : Nat) y, j < i → l[j]? = some y → eqB x y = false) ∧ sS = { env := lkE [(0, .sl 2 (l.map DtId.cells)), (3, .ptr 64 0), (6, .sl 2 (l.map DtId.cells)), (7, (.g (.int .i64 ((l.length : Nat))))), (8, (.g (.int .i64 ((i : Nat)))))], ob := lk [(64, .cells (DtId.cells x))] }) ?_ ?_
      · refine ⟨_, LeS.ko [(0, .sl 2 (l.map DtId.cells)), (3, .ptr 64 0), (6, .sl 2 (l.map DtId.cells)), (7, (.g (.int .i64 ((l.length : Nat))))), (8, (.g (.int .i64 (((0) : Nat)))))] [(64, .cells (DtId.cells x))] (by simp [KpE, upd_app, lkE_app, lk_cons, DtId.cells]; try rfl) (by simp [KpO, upd_app, lk_cons, lk_nil, formOb_nn, DtId.cells]; try rfl) (by rfl) (by simp) (by rfl), _, 0, rfl, ?_, rfl⟩
        · simp
      · rintro mM sS ⟨i, rfl, ⟨hi, hpre⟩, rfl⟩
        refine AW_r rfl rfl fun K hK => ?_
        simp (disch := omega) [wrap64, List.getElem?_eq_getElem, toNat_pred, DtId.cells, e2_id]
        repeat' first | (exfalso; omega) | (refine ⟨fun _ => ?_, fun _ => ?_⟩) | (refine ⟨by omega, ?_⟩) | (intro _)
        all_goals (refine hK _ ?_; clear hK K)
        all_goals
          refine AW_seq ?_
          refine AW_cond rfl (fun hc9 => ?_) (fun hc9 => ?_)
          · try simp [decB_true, decB_false, eqB_true, eqB_false, cmpI_lt, cmpI_ge] at hc9
            all_goals
              have hg : l[i]? = some l[i] := List.getElem?_eq_getElem (by omega)
              refine AW_skip ?_
              refine AW_id ?_
              refine AW_seq ?_
              refine AW_block ?_
              refine AW_r rfl rfl fun K hK => ?_
              simp (disch := omega) [wrap64, List.getElem?_eq_getElem, toNat_pred, DtId.cells, e2_id]
              repeat' first | (exfalso; omega) | (refine ⟨fun _ => ?_, fun _ => ?_⟩) | (refine ⟨by omega, ?_⟩) | (intro _)
              all_goals (refine hK _ ?_; clear hK K)
              all_goals
                refine AW_q rfl mix (by kernel_rfl) rfl fun K hK => ?_
                simp (disch := omega) [wrap64, List.getElem?_eq_getElem, toNat_pred, DtId.cells, e2_id]
                repeat' first | (exfalso; omega) | (refine ⟨fun _ => ?_, fun _ => ?_⟩) | (refine ⟨by omega, ?_⟩) | (intro _)
                all_goals (refine hK _ ?_; clear hK K)
                all_goals
                  refine AW_cond rfl (fun hc10 => ?_) (fun hc10 => ?_)
                  · try simp [decB_true, decB_false, eqB_true, eqB_false, cmpI_lt, cmpI_ge] at hc10
                    all_goals
                      refine AW_r rfl rfl fun K hK => ?_
                      simp (disch := omega) [wrap64, List.getElem?_eq_getElem, toNat_pred, DtId.cells, e2_id]
                      repeat' first | (exfalso; omega) | (refine ⟨fun _ => ?_, fun _ => ?_⟩) | (refine ⟨by omega, ?_⟩) | (intro _)
                      all_goals (refine hK _ ?_; clear hK K)
                      all_goals
                        refine AW_ret (end_s ?_)
                        simp (disch := omega) [wrap64, List.getElem?_eq_getElem, toNat_pred, DtId.cells, e2_id]
                        all_goals first | (exact idxZ_found (by assumption) (by simp_all [eqB_true, id_ext]) hpre) | (exact idxZ_none (fun j x h => hpre j x (by omega)))
                  · try simp [decB_true, decB_false, eqB_true, eqB_false, cmpI_lt, cmpI_ge] at hc10
                    all_goals
                      refine AW_skip ?_
                      refine AW_id ?_
                      refine AW_re rfl rfl fun K hK => ?_
                      simp (disch := omega) [wrap64, List.getElem?_eq_getElem, toNat_pred, DtId.cells, e2_id]
                      repeat' first | (exfalso; omega) | (refine ⟨fun _ => ?_, fun _ => ?_⟩) | (refine ⟨by omega, ?_⟩) | (intro _)
                      all_goals (refine hK _ ?_; clear hK K)
                      all_goals
                        refine ⟨_, LeS.ko [(0, .sl 2 (l.map DtId.cells)), (3, .ptr 64 0), (6, .sl 2 (l.map DtId.cells)), (7, (.g (.int .i64 ((l.length : Nat))))), (8, (.g (.int .i64 (((i + 1) : Nat)))))] [(64, .cells (DtId.cells x))] (by simp [KpE, upd_app, lkE_app, lk_cons, DtId.cells]; try rfl) (by simp [KpO, upd_app, lk_cons, lk_nil, formOb_nn, DtId.cells]; try rfl) (by rfl) (by simp) (by rfl), _, ?_, i + 1, rfl, ?_, rfl⟩
                        · omega
                        · refine ⟨by omega, ?_⟩; grind [eqB_false, id_ext]
          · try simp [decB_true, decB_false, eqB_true, eqB_false, cmpI_lt, cmpI_ge] at hc9
            all_goals
              refine AW_exit ?_
              refine AW_id ?_
              refine AW_r rfl rfl fun K hK => ?_
              simp (disch := omega) [wrap64, List.getElem?_eq_getElem, toNat_pred, DtId.cells, e2_id]
              repeat' first | (exfalso; omega) | (refine ⟨fun _ => ?_, fun _ => ?_⟩) | (refine ⟨by omega, ?_⟩) | (intro _)
              all_goals (refine hK _ ?_; clear hK K)
              all_goals
                refine AW_ret (end_s ?_)
                simp (disch := omega) [wrap64, List.getElem?_eq_getElem, toNat_pred, DtId.cells, e2_id]
                all_goals first | (exact idxZ_found (by assumption) (by simp_all [eqB_true, id_ext]) hpre) | (exact idxZ_none (fun j x h => hpre j x (by omega)))
theorem idxZ_mem {α : Type} (l : List α) (x : α) : decide (0 ≤ idxZ (fun y => eqB x y) l) = decB (x ∈ l) := by
  rw [Bool.eq_iff_iff, decB_true]
  simp only [decide_eq_true_eq]
  unfold idxZ
  split
  · rename_i i h
    obtain ⟨h1, h2, -⟩ := List.findIdx?_eq_some_iff_getElem.1 h
    rw [eqB_true] at h2
    exact ⟨fun _ => h2 ▸ List.getElem_mem _, fun _ => by omega⟩
  · rename_i h
    rw [List.findIdx?_eq_none_iff] at h
    refine ⟨fun h => by omega, fun hx => ?_⟩
    have := h x hx
    simp [eqB_self] at this
theorem containsId (l : List DtId) (x : DtId) (hn : l.length ≤ 1048576) : PCall Tryz.prog 92 [.sl 2 (l.map DtId.cells), .agg (DtId.cells x)] (.g (.bool (decB (x ∈ l)))) := by
  refine gcall_of_walk Tryz.func92 (by rfl) (by rfl) (by rw [Tryz.ntmps92]; exact Nat.le_of_ble_eq_true rfl) rfl (by decide) ?_
  rw [Tryz.ntmps92]
  refine AW_k [(0, _), (1, _)] ⟨rfl, rfl, trivial⟩ ?_
  refine AW_r rfl rfl fun K hK => ?_
  simp (disch := omega) [wrap64, List.getElem?_eq_getElem, toNat_pred, DtId.cells, idxZ_mem]
  repeat' first | (exfalso; omega) | (refine ⟨fun _ => ?_, fun _ => ?_⟩) | (refine ⟨by omega, ?_⟩) | (intro _)
  all_goals (refine hK _ ?_; clear hK K)
  all_goals
    refine AW_r rfl rfl fun K hK => ?_
    simp (disch := omega) [wrap64, List.getElem?_eq_getElem, toNat_pred, DtId.cells, idxZ_mem]
    repeat' first | (exfalso; omega) | (refine CKd_v (am2s_cons am2_sl (am2s_cons (am2_agg rfl) am2s_nil)) (indexId _ _ (by omega)) rfl ?_; simp (disch := omega) [wrap64, List.getElem?_eq_getElem, toNat_pred, DtId.cells, idxZ_mem]) | (refine ⟨fun _ => ?_, fun _ => ?_⟩) | (refine ⟨by omega, ?_⟩) | (intro _)
    all_goals (refine hK _ ?_; clear hK K)
    all_goals
      refine AW_ret (end_s ?_)
      simp (disch := omega) [wrap64, List.getElem?_eq_getElem, toNat_pred, DtId.cells, idxZ_mem]
      all_goals first | omega | (simp_all; done) | (simp [List.take_of_length_le]; done) | ((try simp_all); (try simp (disch := omega) only [wrap64, Int.tdiv_eq_ediv_of_nonneg, Int.tmod_eq_emod_of_nonneg, and_true, true_and]); done) | ((try simp_all); (try simp (disch := omega) only [wrap64, Int.tdiv_eq_ediv_of_nonneg, Int.tmod_eq_emod_of_nonneg, and_true, true_and] at *); omega)
end Go.Proofs.YtopeonnaalpmjaaGreat.Vs
