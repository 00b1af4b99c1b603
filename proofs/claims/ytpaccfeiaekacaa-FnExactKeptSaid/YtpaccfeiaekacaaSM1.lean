import Derived.Test.YtpaccfeiaekacaaSCT
open Go Go.Proofs Go.Proofs.Ytpaccfeiaekacaa.Vs
namespace Go.Proofs.Ytpaccfeiaekacaa.Vs
set_option linter.unusedVariables false
set_option linter.unusedSimpArgs false
set_option linter.unusedSectionVars false
set_option linter.unnecessarySimpa false
set_option linter.all false
set_option linter.unusedSimpArgs false
set_option linter.unusedVariables false
set_option maxRecDepth 100000
/-- Marks. -/
def mkL {α : Type} (f : Int → α) (k : Int) (n : Nat) : List α := (List.range n).map fun j => f (k + (j : Nat))
def mkR {α : Type} (f : Int → α) (k : Int) (l : List α) (i : Nat) : List α := mkL f k i ++ l.drop i
theorem mkL_len {α : Type} (f : Int → α) (k : Int) (n : Nat) : (mkL f k n).length = n := by simp [mkL]
theorem mkR_len {α : Type} (f : Int → α) (k : Int) (l : List α) (i : Nat) (h : i ≤ l.length) : (mkR f k l i).length = l.length := by simp [mkR, mkL_len]; omega
theorem mkR_0 {α : Type} (f : Int → α) (k : Int) (l : List α) : mkR f k l 0 = l := by simp [mkR, mkL]
theorem mkR_n {α : Type} (f : Int → α) (k : Int) (l : List α) (i : Nat) (h : l.length ≤ i) (hi : i ≤ l.length) : mkR f k l i = mkL f k l.length := by
  have : i = l.length := by omega
  subst this
  simp [mkR]
theorem mkL_get {α : Type} (f : Int → α) (k : Int) (n j : Nat) (h : j < n) : (mkL f k n)[j]? = some (f (k + (j : Nat))) := by
  simp [mkL, h]
theorem take_mkL {α β : Type} (g : α → β) (f : Int → α) (k : Int) (n : Nat) : ((mkL f k n).map g).take n = (mkL f k n).map g := List.take_of_length_le (by simp [mkL])
theorem mkL_el {α : Type} (f : Int → α) (k : Int) (n j : Nat) (h : j < (mkL f k n).length) : (mkL f k n)[j] = f (k + (j : Nat)) := by
  simp [mkL]
theorem mkR_get {α : Type} (f : Int → α) (k : Int) (l : List α) (i : Nat) (h : i < l.length) : (mkR f k l i)[i]? = some l[i] := by
  unfold mkR
  rw [List.getElem?_append_right (by simp [mkL_len])]
  simp [mkL_len, h]
theorem mkR_set {α : Type} (f : Int → α) (k : Int) (l : List α) (i : Nat) (h : i < l.length) : (mkR f k l i).set i (f (k + (i : Nat))) = mkR f k l (i + 1) := by
  apply List.ext_getElem?
  intro j
  unfold mkR
  rw [List.getElem?_set]
  by_cases hj : i = j
  · subst hj
    rw [if_pos rfl, if_pos (by simp [mkL_len]; omega), List.getElem?_append_left (by simp [mkL_len])]
    rw [mkL_get _ _ _ _ (by omega)]
  · rw [if_neg hj]
    by_cases hlt : j < i
    · rw [List.getElem?_append_left (by simp [mkL_len]; omega), List.getElem?_append_left (by simp [mkL_len]; omega), mkL_get _ _ _ _ hlt, mkL_get _ _ _ _ (by omega)]
    · rw [List.getElem?_append_right (by simp [mkL_len]; omega), List.getElem?_append_right (by simp [mkL_len]; omega)]
      simp [mkL_len]
      congr 1
      omega
theorem mkR_setI (k : Int) (l : List Int) (i : Nat) (h : i < l.length) : ((mkR id k l i).map cI).set i [.g (.int .i64 (k + (i : Nat)))] = (mkR id k l (i + 1)).map cI := by
  rw [← mkR_set id k l i h, List.map_set]; rfl
theorem markIntS (l : List Int) (k : Int) (hl : l.length ≤ 1048576) (hk : 0 ≤ k ∧ k ≤ 1073741824) : XCall Try.prog 14 [.arr 8 0 l.length, (.g (.int .i64 (k)))] [.own 1 (l.map cI)] (.g (.int .i64 (k + (l.length : Nat)))) [.own 1 ((mkL id k l.length).map cI)] [] := by
  refine xcall_of_walk Try.func14 (by rfl) (by rfl) (by rw [Try.ntmps14]; exact Nat.le_of_ble_eq_true rfl) rfl (by simp) rfl rfl ?_
  rw [Try.ntmps14]
  refine AW_x1 (.win 1 (l.map cI)) (by simp [cvO]) ?_
  refine AW_k [(0, _), (1, _)] ⟨rfl, rfl, trivial⟩ ?_
  refine AW_x rfl rfl fun K hK => ?_
  simp (disch := omega) [wrap64, List.getElem?_eq_getElem, toNat_pred, cI, mkR_setI, mkR_0, mkR_n]
  repeat' first | (exfalso; omega) | (refine ⟨fun _ => ?_, fun _ => ?_⟩) | (refine ⟨by omega, ?_⟩) | (intro _)
  all_goals (refine hK _ ?_; clear hK K)
  all_goals
    refine AW_seq ?_
    refine AW_x rfl rfl fun K hK => ?_
    simp (disch := omega) [wrap64, List.getElem?_eq_getElem, toNat_pred, cI, mkR_setI, mkR_0, mkR_n]
    repeat' first | (exfalso; omega) | (refine ⟨fun _ => ?_, fun _ => ?_⟩) | (refine ⟨by omega, ?_⟩) | (intro _)
    all_goals (refine hK _ ?_; clear hK K)
    all_goals
      refine AW_block ?_
      refine AW_loopS (fun mM sS => ∃ (i : Nat), mM = l.length - i ∧ (i ≤ l.length) ∧ sS = { env := lkE [(0, .arr 8 0 l.length), (1, (.g (.int .i64 (k + (i : Nat))))), (5, (.g (.int .i64 ((i : Nat)))))], ob := lk [(8, .win 1 ((mkR id k l i).map cI))] }) ?_ ?_
      · refine ⟨_, LeS.kx [(8, 8)] [(0, .arr 8 0 l.length), (1, (.g (.int .i64 (k + ((0) : Nat))))), (5, (.g (.int .i64 (((0) : Nat)))))] [(8, .win 1 ((mkR id k l (0)).map cI))] (by simp [KpR, renV2, renV, upd_app, lkE_app, lk_cons, lk_nil, mkR_0]; try (first | rfl | (omega; done))) (by simp [KpOX, renO, plO, cvO, renV, pl1, lk_cons, lk_nil, upd_app, mkR_0]; try (first | rfl | (simp [mkR_setI k l i (by omega)]; done))) (by rfl) (by simp) (by simp) (by rfl) (by simp [formsX, List.range_succ, lk_cons, lk_nil]), _, 0, rfl, ?_, rfl⟩
        · simp
      · rintro mM sS ⟨i, rfl, hi, rfl⟩
        have hln : (mkR id k l i).length = l.length := mkR_len _ _ _ _ hi
        refine AW_seq ?_
        refine AW_x rfl rfl fun K hK => ?_
        simp (disch := omega) [wrap64, List.getElem?_eq_getElem, toNat_pred, cI, mkR_setI, mkR_0, mkR_n]
        repeat' first | (exfalso; omega) | (refine ⟨fun _ => ?_, fun _ => ?_⟩) | (refine ⟨by omega, ?_⟩) | (intro _)
        all_goals (refine hK _ ?_; clear hK K)
        all_goals
          refine AW_cond rfl (fun hc1 => ?_) (fun hc1 => ?_)
          · try simp at hc1
            all_goals
              have hg : (mkR id k l i)[i]? = some (l[i]) := mkR_get _ _ _ _ (by omega)
              refine AW_skip ?_
              refine AW_id ?_
              refine AW_seq ?_
              refine AW_block ?_
              refine AW_x rfl rfl fun K hK => ?_
              simp (disch := omega) [wrap64, List.getElem?_eq_getElem, toNat_pred, cI, mkR_setI, mkR_0, mkR_n]
              repeat' first | (exfalso; omega) | (refine ⟨fun _ => ?_, fun _ => ?_⟩) | (refine ⟨by omega, ?_⟩) | (intro _)
              all_goals (refine hK _ ?_; clear hK K)
              all_goals
                refine AW_xe rfl rfl fun K hK => ?_
                simp (disch := omega) [wrap64, List.getElem?_eq_getElem, toNat_pred, cI, mkR_setI, mkR_0, mkR_n]
                repeat' first | (exfalso; omega) | (refine ⟨fun _ => ?_, fun _ => ?_⟩) | (refine ⟨by omega, ?_⟩) | (intro _)
                all_goals (refine hK _ ?_; clear hK K)
                all_goals
                  refine AW_id ?_
                  refine AW_xe rfl rfl fun K hK => ?_
                  simp (disch := omega) [wrap64, List.getElem?_eq_getElem, toNat_pred, cI, mkR_setI, mkR_0, mkR_n]
                  repeat' first | (exfalso; omega) | (refine ⟨fun _ => ?_, fun _ => ?_⟩) | (refine ⟨by omega, ?_⟩) | (intro _)
                  all_goals (refine hK _ ?_; clear hK K)
                  all_goals
                    refine ⟨_, LeS.kx [(8, 8)] [(0, .arr 8 0 l.length), (1, (.g (.int .i64 (k + ((i + 1) : Nat))))), (5, (.g (.int .i64 (((i + 1) : Nat)))))] [(8, .win 1 ((mkR id k l (i + 1)).map cI))] (by simp [KpR, renV2, renV, upd_app, lkE_app, lk_cons, lk_nil, mkR_0]; try (first | rfl | (omega; done))) (by simp [KpOX, renO, plO, cvO, renV, pl1, lk_cons, lk_nil, upd_app, mkR_0]; try (first | rfl | (simp [mkR_setI k l i (by omega)]; done))) (by rfl) (by simp) (by simp) (by rfl) (by simp [formsX, List.range_succ, lk_cons, lk_nil]), _, ?_, i + 1, rfl, ?_, rfl⟩
                    · omega
                    · omega
          · try simp at hc1
            all_goals
              refine AW_exit ?_
              refine AW_id ?_
              refine AW_x rfl rfl fun K hK => ?_
              simp (disch := omega) [wrap64, List.getElem?_eq_getElem, toNat_pred, cI, mkR_setI, mkR_0, mkR_n]
              repeat' first | (exfalso; omega) | (refine ⟨fun _ => ?_, fun _ => ?_⟩) | (refine ⟨by omega, ?_⟩) | (intro _)
              all_goals (refine hK _ ?_; clear hK K)
              all_goals
                refine AW_ret (end_x [] [] (by simp [List.range_succ, lk_cons, lk_nil, upd_app]) (by simp) ?_)
                simp (disch := omega) [wrap64, List.getElem?_eq_getElem, toNat_pred, cI, mkR_setI, mkR_0, mkR_n]
                all_goals omega
end Go.Proofs.Ytpaccfeiaekacaa.Vs
