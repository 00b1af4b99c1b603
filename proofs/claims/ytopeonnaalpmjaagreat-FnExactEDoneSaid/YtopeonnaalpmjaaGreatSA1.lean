import Derived.Test.YtopeonnaalpmjaaGreatSW1
open Go Go.Proofs Go.Proofs.YtopeonnaalpmjaaGreat.Vs
namespace Go.Proofs.YtopeonnaalpmjaaGreat.Vs
set_option linter.unusedVariables false
set_option linter.unusedSimpArgs false
set_option linter.unusedSectionVars false
set_option linter.unnecessarySimpa false
set_option linter.all false
set_option linter.unusedSimpArgs false
set_option linter.unusedVariables false
set_option maxRecDepth 100000
def Ch8 (l : List (List UInt8)) : Prop := ∀ (j : Nat) c, l[j]? = some c → c.length = 8
theorem areChunks (l : List (List UInt8)) (hs : l.length ≤ 1048576) : PCall Tryz.prog 90 [.sl 1 (l.map cS)] (.g (.bool (decB (Ch8 l)))) := by
  refine gcall_of_walk Tryz.func90 (by rfl) (by rfl) (by rw [Tryz.ntmps90]; exact Nat.le_of_ble_eq_true rfl) rfl (by decide) ?_
  rw [Tryz.ntmps90]
  refine AW_k [(0, _)] ⟨rfl, trivial⟩ ?_
  refine AW_r rfl rfl fun K hK => ?_
  simp (disch := omega) [wrap64, List.getElem?_eq_getElem, toNat_pred, cS]
  repeat' first | (exfalso; omega) | (refine ⟨fun _ => ?_, fun _ => ?_⟩) | (refine ⟨by omega, ?_⟩) | (intro _)
  all_goals (refine hK _ ?_; clear hK K)
  all_goals
    refine AW_seq ?_
    refine AW_r rfl rfl fun K hK => ?_
    simp (disch := omega) [wrap64, List.getElem?_eq_getElem, toNat_pred, cS]
    repeat' first | (exfalso; omega) | (refine ⟨fun _ => ?_, fun _ => ?_⟩) | (refine ⟨by omega, ?_⟩) | (intro _)
    all_goals (refine hK _ ?_; clear hK K)
    all_goals
      refine AW_block ?_
      refine AW_loopS (fun mM sS => ∃ (i : Nat), mM = l.length - i ∧ (i ≤ l.length ∧ ∀ (j : Nat) c, j < i → l[j]? = some c → c.length = 8) ∧ sS = { env := lkE [(5, .sl 1 (l.map cS)), (6, (.g (.int .i64 ((l.length : Nat))))), (7, (.g (.int .i64 ((i : Nat)))))], ob := formOb [] [] }) ?_ ?_
      · refine ⟨_, LeS.kp [(5, .sl 1 (l.map cS)), (6, (.g (.int .i64 ((l.length : Nat))))), (7, (.g (.int .i64 (((0) : Nat)))))] (by simp [KpE, upd_app, lkE_app, lk_cons]; try rfl), _, 0, rfl, ?_, rfl⟩
        · simp
      · rintro mM sS ⟨i, rfl, ⟨hi, hpre⟩, rfl⟩
        refine AW_r rfl rfl fun K hK => ?_
        simp (disch := omega) [wrap64, List.getElem?_eq_getElem, toNat_pred, cS]
        repeat' first | (exfalso; omega) | (refine ⟨fun _ => ?_, fun _ => ?_⟩) | (refine ⟨by omega, ?_⟩) | (intro _)
        all_goals (refine hK _ ?_; clear hK K)
        all_goals
          refine AW_seq ?_
          refine AW_cond rfl (fun hc1 => ?_) (fun hc1 => ?_)
          · try simp at hc1
            all_goals
              have hg : l[i]? = some (l[i]) := List.getElem?_eq_getElem (by omega)
              refine AW_skip ?_
              refine AW_id ?_
              refine AW_seq ?_
              refine AW_block ?_
              refine AW_r rfl rfl fun K hK => ?_
              simp (disch := omega) [wrap64, List.getElem?_eq_getElem, toNat_pred, cS]
              repeat' first | (exfalso; omega) | (refine ⟨fun _ => ?_, fun _ => ?_⟩) | (refine ⟨by omega, ?_⟩) | (intro _)
              all_goals (refine hK _ ?_; clear hK K)
              all_goals
                refine AW_r rfl rfl fun K hK => ?_
                simp (disch := omega) [wrap64, List.getElem?_eq_getElem, toNat_pred, cS]
                repeat' first | (exfalso; omega) | (refine ⟨fun _ => ?_, fun _ => ?_⟩) | (refine ⟨by omega, ?_⟩) | (intro _)
                all_goals (refine hK _ ?_; clear hK K)
                all_goals
                  refine AW_cond rfl (fun hc2 => ?_) (fun hc2 => ?_)
                  · try simp at hc2
                    all_goals
                      refine AW_r rfl rfl fun K hK => ?_
                      simp (disch := omega) [wrap64, List.getElem?_eq_getElem, toNat_pred, cS]
                      repeat' first | (exfalso; omega) | (refine ⟨fun _ => ?_, fun _ => ?_⟩) | (refine ⟨by omega, ?_⟩) | (intro _)
                      all_goals (refine hK _ ?_; clear hK K)
                      all_goals
                        refine AW_ret (end_s ?_)
                        simp (disch := omega) [wrap64, List.getElem?_eq_getElem, toNat_pred, cS]
                        all_goals first | (refine decB_f fun h => ?_; grind [Ch8]) | (refine decB_t ?_; grind [Ch8])
                  · try simp at hc2
                    all_goals
                      refine AW_skip ?_
                      refine AW_id ?_
                      refine AW_re rfl rfl fun K hK => ?_
                      simp (disch := omega) [wrap64, List.getElem?_eq_getElem, toNat_pred, cS]
                      repeat' first | (exfalso; omega) | (refine ⟨fun _ => ?_, fun _ => ?_⟩) | (refine ⟨by omega, ?_⟩) | (intro _)
                      all_goals (refine hK _ ?_; clear hK K)
                      all_goals
                        refine ⟨_, LeS.kp [(5, .sl 1 (l.map cS)), (6, (.g (.int .i64 ((l.length : Nat))))), (7, (.g (.int .i64 (((i + 1) : Nat)))))] (by simp [KpE, upd_app, lkE_app, lk_cons]; try rfl), _, ?_, i + 1, rfl, ?_, rfl⟩
                        · omega
                        · refine ⟨by omega, ?_⟩; grind
          · try simp at hc1
            all_goals
              refine AW_exit ?_
              refine AW_id ?_
              refine AW_r rfl rfl fun K hK => ?_
              simp (disch := omega) [wrap64, List.getElem?_eq_getElem, toNat_pred, cS]
              repeat' first | (exfalso; omega) | (refine ⟨fun _ => ?_, fun _ => ?_⟩) | (refine ⟨by omega, ?_⟩) | (intro _)
              all_goals (refine hK _ ?_; clear hK K)
              all_goals
                refine AW_ret (end_s ?_)
                simp (disch := omega) [wrap64, List.getElem?_eq_getElem, toNat_pred, cS]
                all_goals first | (refine decB_f fun h => ?_; grind [Ch8]) | (refine decB_t ?_; grind [Ch8])
end Go.Proofs.YtopeonnaalpmjaaGreat.Vs
