import Derived.Test.YtpaccfeiaekacaaSM3
import Derived.Test.YtpaccfeiaekacaaVsXF
open Go Go.Proofs Go.Proofs.Ytpaccfeiaekacaa.Vs
namespace Go.Proofs.Ytpaccfeiaekacaa.Vs
set_option linter.unusedVariables false
set_option linter.unusedSimpArgs false
set_option linter.unusedSectionVars false
set_option linter.unnecessarySimpa false
set_option linter.all false
set_option linter.unusedSimpArgs false
set_option linter.unusedVariables false
set_option maxRecDepth 100000
/-- A copy under way. -/
def cpR {α : Type} (z : α) (l : List α) (i : Nat) : List α := l.take i ++ List.replicate (l.length - i) z
theorem cpR_len {α : Type} (z : α) (l : List α) (i : Nat) (h : i ≤ l.length) : (cpR z l i).length = l.length := by simp [cpR]; omega
theorem cpR_0 {α : Type} (z : α) (l : List α) : cpR z l 0 = List.replicate l.length z := by simp [cpR]
theorem cpR_n {α : Type} (z : α) (l : List α) (i : Nat) (h : l.length ≤ i) : cpR z l i = l := by
  unfold cpR
  rw [List.take_of_length_le h, show l.length - i = 0 by omega]
  simp
theorem cpR_set {α : Type} (z : α) (l : List α) (i : Nat) (h : i < l.length) : (cpR z l i).set i l[i] = cpR z l (i + 1) := by
  apply List.ext_getElem?
  intro j
  unfold cpR
  rw [List.getElem?_set]
  by_cases hj : i = j
  · subst hj
    rw [if_pos rfl, if_pos (by simp; omega), List.getElem?_append_left (by simp; omega)]
    simp [h]
  · rw [if_neg hj]
    by_cases hlt : j < i
    · rw [List.getElem?_append_left (by simp; omega), List.getElem?_append_left (by simp; omega)]
      simp [hlt, show j < i + 1 by omega]
    · rw [List.getElem?_append_right (by simp; omega), List.getElem?_append_right (by simp; omega)]
      simp only [List.length_take, List.getElem?_replicate]
      congr 1
      simp
      omega
theorem cpR_get {α : Type} (z : α) (l : List α) (i : Nat) (h : i < l.length) : (cpR z l i)[i]? = some z := by
  unfold cpR
  rw [List.getElem?_append_right (by simp; omega), List.getElem?_replicate]
  simp; omega
theorem cpR_setI (l : List Int) (i : Nat) (h : i < l.length) : ((cpR 0 l i).map cI).set i [.g (.int .i64 l[i])] = (cpR 0 l (i + 1)).map cI := by
  rw [← cpR_set 0 l i h, List.map_set]; rfl
theorem toIntSX (l : List Int) (hl : l.length ≤ 1048576) : XCall Try.prog 9 [.sl 1 (l.map cI)] [] (.arr 16 0 l.length) [] [.own 1 (l.map cI)] := by
  refine xcall_of_walk Try.func9 (by rfl) (by rfl) (by rw [Try.ntmps9]; exact Nat.le_of_ble_eq_true rfl) rfl (by simp) rfl rfl ?_
  rw [Try.ntmps9]
  refine AW_x0   ?_
  refine AW_k [(0, _)] ⟨rfl, trivial⟩ ?_
  refine AW_x rfl rfl fun K hK => ?_
  simp (disch := omega) [wrap64, List.getElem?_eq_getElem, toNat_pred, cI]
  repeat' first | (exfalso; omega) | (refine ⟨fun _ => ?_, fun _ => ?_⟩) | (refine ⟨by omega, ?_⟩) | (intro _)
  all_goals (refine hK _ ?_; clear hK K)
  all_goals
    refine AW_x rfl rfl fun K hK => ?_
    simp (disch := omega) [wrap64, List.getElem?_eq_getElem, toNat_pred, cI]
    repeat' first | (exfalso; omega) | (refine ⟨fun _ => ?_, fun _ => ?_⟩) | (refine ⟨by omega, ?_⟩) | (intro _)
    all_goals (refine hK _ ?_; clear hK K)
    all_goals
      refine AW_seq ?_
      refine AW_x rfl rfl fun K hK => ?_
      simp (disch := omega) [wrap64, List.getElem?_eq_getElem, toNat_pred, cI]
      repeat' first | (exfalso; omega) | (refine ⟨fun _ => ?_, fun _ => ?_⟩) | (refine ⟨by omega, ?_⟩) | (intro _)
      all_goals (refine hK _ ?_; clear hK K)
      all_goals
        refine AW_block ?_
        refine AW_loopS (fun mM sS => ∃ (i : Nat), mM = l.length - i ∧ (i ≤ l.length) ∧ sS = { env := lkE [(0, .sl 1 (l.map cI)), (3, .arr 128 0 l.length), (4, (.g (.int .i64 ((i : Nat)))))], ob := lk [(128, .flat 1 ((cpR 0 l i).map cI))] }) ?_ ?_
        · refine ⟨_, LeS.kx [(128, 128)] [(0, .sl 1 (l.map cI)), (3, .arr 128 0 l.length), (4, (.g (.int .i64 (((0) : Nat)))))] [(128, .flat 1 ((cpR 0 l (0)).map cI))] (by simp [KpR, renV2, renV, upd_app, lkE_app, lk_cons, lk_nil, cpR_0, cI]; try (first | rfl | (omega; done))) (by simp [KpOX, renO, plO, cvO, renV, pl1, lk_cons, lk_nil, upd_app, cpR_0, cI]; try (first | rfl | (simp [cpR_setI l i (by omega)]; done))) (by rfl) (by simp) (by simp) (by rfl) (by simp [formsX, List.range_succ, lk_cons, lk_nil]), _, 0, rfl, ?_, rfl⟩
          · simp
        · rintro mM sS ⟨i, rfl, hi, rfl⟩
          have hln : (cpR 0 l i).length = l.length := cpR_len _ _ _ hi
          refine AW_seq ?_
          refine AW_x rfl rfl fun K hK => ?_
          simp (disch := omega) [wrap64, List.getElem?_eq_getElem, toNat_pred, cI]
          repeat' first | (exfalso; omega) | (refine ⟨fun _ => ?_, fun _ => ?_⟩) | (refine ⟨by omega, ?_⟩) | (intro _)
          all_goals (refine hK _ ?_; clear hK K)
          all_goals
            refine AW_cond rfl (fun hc1 => ?_) (fun hc1 => ?_)
            · try simp at hc1
              all_goals
                have hg : (cpR 0 l i)[i]? = some 0 := cpR_get _ _ _ (by omega)
                refine AW_skip ?_
                refine AW_id ?_
                refine AW_seq ?_
                refine AW_block ?_
                refine AW_xe rfl rfl fun K hK => ?_
                simp (disch := omega) [wrap64, List.getElem?_eq_getElem, toNat_pred, cI]
                repeat' first | (exfalso; omega) | (refine ⟨fun _ => ?_, fun _ => ?_⟩) | (refine ⟨by omega, ?_⟩) | (intro _)
                all_goals (refine hK _ ?_; clear hK K)
                all_goals
                  refine AW_id ?_
                  refine AW_xe rfl rfl fun K hK => ?_
                  simp (disch := omega) [wrap64, List.getElem?_eq_getElem, toNat_pred, cI]
                  repeat' first | (exfalso; omega) | (refine ⟨fun _ => ?_, fun _ => ?_⟩) | (refine ⟨by omega, ?_⟩) | (intro _)
                  all_goals (refine hK _ ?_; clear hK K)
                  all_goals
                    refine ⟨_, LeS.kx [(128, 128)] [(0, .sl 1 (l.map cI)), (3, .arr 128 0 l.length), (4, (.g (.int .i64 (((i + 1) : Nat)))))] [(128, .flat 1 ((cpR 0 l (i + 1)).map cI))] (by simp [KpR, renV2, renV, upd_app, lkE_app, lk_cons, lk_nil, cpR_0, cI]; try (first | rfl | (omega; done))) (by simp [KpOX, renO, plO, cvO, renV, pl1, lk_cons, lk_nil, upd_app, cpR_0, cI]; try (first | rfl | (simp [cpR_setI l i (by omega)]; done))) (by rfl) (by simp) (by simp) (by rfl) (by simp [formsX, List.range_succ, lk_cons, lk_nil]), _, ?_, i + 1, rfl, ?_, rfl⟩
                    · omega
                    · omega
            · try simp at hc1
              all_goals
                refine AW_exit ?_
                refine AW_id ?_
                refine AW_x rfl rfl fun K hK => ?_
                simp (disch := omega) [wrap64, List.getElem?_eq_getElem, toNat_pred, cI]
                repeat' first | (exfalso; omega) | (refine ⟨fun _ => ?_, fun _ => ?_⟩) | (refine ⟨by omega, ?_⟩) | (intro _)
                all_goals (refine hK _ ?_; clear hK K)
                all_goals
                  refine AW_ret (end_x [128] [] (by simp [List.range_succ, lk_cons, lk_nil, upd_app]) (by simp) ?_)
                  simp (disch := omega) [wrap64, List.getElem?_eq_getElem, toNat_pred, cI]
                  all_goals (rw [cpR_n _ _ _ (by omega)])
end Go.Proofs.Ytpaccfeiaekacaa.Vs
