import Derived.Test.YtpaccfeiaekacaaSD6
import Derived.Test.YtpaccfeiaekacaaSM4
open Go Go.Proofs Go.Proofs.Ytpaccfeiaekacaa.Vs
namespace Go.Proofs.Ytpaccfeiaekacaa.Vs
set_option linter.unusedVariables false
set_option linter.unusedSimpArgs false
set_option linter.unusedSectionVars false
set_option linter.unnecessarySimpa false
set_option linter.all false
set_option linter.unusedSimpArgs false
set_option linter.unusedVariables false
set_option maxRecDepth 100000
/-- Is there a cut behind byte i, where the piece began at f? -/
def cutAt (s : List UInt8) (i f : Nat) : Prop := (i : Int) + 1 - f = 12 ∨ (3 ≤ (i : Int) + 1 - f ∧ ((s.getD i 0).toNat : Int) % 8 = 0)
instance (s : List UInt8) (i f : Nat) : Decidable (cutAt s i f) := by unfold cutAt; infer_instance
/-- Where the piece under way began, and the pieces, behind i bytes. -/
def cs (s : List UInt8) : Nat → Nat × List (List UInt8)
  | 0 => (0, [])
  | i + 1 => if cutAt s i (cs s i).1 then (i + 1, (cs s i).2 ++ [(s.drop (cs s i).1).take (i + 1 - (cs s i).1)]) else cs s i
def cutL (s : List UInt8) : List (List UInt8) := if 400 < s.length then [] else if (cs s s.length).1 < s.length then (cs s s.length).2 ++ [s.drop (cs s s.length).1] else (cs s s.length).2
theorem cs_0 (s : List UInt8) : cs s 0 = (0, []) := rfl
theorem cutL_0 {s : List UInt8} (h : 400 < (s.length : Int)) : cutL s = [] := by unfold cutL; rw [if_pos (by omega)]
theorem cutL_1 {s : List UInt8} (h : (s.length : Int) ≤ 400) (h2 : (cs s s.length).1 < s.length) : cutL s = (cs s s.length).2 ++ [s.drop (cs s s.length).1] := by unfold cutL; rw [if_neg (by omega), if_pos h2]
theorem cutL_2 {s : List UInt8} (h : (s.length : Int) ≤ 400) (h2 : s.length ≤ (cs s s.length).1) : cutL s = (cs s s.length).2 := by unfold cutL; rw [if_neg (by omega), if_neg (by omega)]
theorem cs_t (s : List UInt8) (i : Nat) (h : cutAt s i (cs s i).1) : cs s (i + 1) = (i + 1, (cs s i).2 ++ [(s.drop (cs s i).1).take (i + 1 - (cs s i).1)]) := by
  rw [cs, if_pos h]
theorem cs_f (s : List UInt8) (i : Nat) (h : ¬ cutAt s i (cs s i).1) : cs s (i + 1) = cs s i := by
  rw [cs, if_neg h]
theorem cs_b (s : List UInt8) : ∀ (i : Nat), (cs s i).1 ≤ i ∧ i ≤ (cs s i).1 + 11 ∧ (cs s i).2.length ≤ i
  | 0 => by simp [cs]
  | i + 1 => by
    obtain ⟨h1, h2, h3⟩ := cs_b s i
    by_cases h : cutAt s i (cs s i).1
    · rw [cs_t s i h]
      exact ⟨Nat.le_refl _, by show i + 1 ≤ i + 1 + 11; omega, by simpa using h3⟩
    · rw [cs_f s i h]
      unfold cutAt at h
      exact ⟨by omega, by omega, by omega⟩
theorem specCut (s : List UInt8) : PCall Try.prog 20 [.s s] (.sl 1 ((cutL s).map cS)) := by
  refine gcall_of_walk Try.func20 (by rfl) (by rfl) (by rw [Try.ntmps20]; exact Nat.le_of_ble_eq_true rfl) rfl (by decide) ?_
  rw [Try.ntmps20]
  refine AW_k [(0, _)] ⟨rfl, trivial⟩ ?_
  refine AW_r rfl rfl fun K hK => ?_
  simp (disch := omega) [wrap64, List.getElem?_eq_getElem, toNat_pred, Int.tdiv_eq_ediv_of_nonneg, Int.tmod_eq_emod_of_nonneg, cS, take_map_n]
  repeat' first | (exfalso; omega) | (refine ⟨fun _ => ?_, fun _ => ?_⟩) | (refine ⟨by omega, ?_⟩) | (intro _)
  all_goals (refine hK _ ?_; clear hK K)
  all_goals
    refine AW_r rfl rfl fun K hK => ?_
    simp (disch := omega) [wrap64, List.getElem?_eq_getElem, toNat_pred, Int.tdiv_eq_ediv_of_nonneg, Int.tmod_eq_emod_of_nonneg, cS, take_map_n]
    repeat' first | (exfalso; omega) | (refine ⟨fun _ => ?_, fun _ => ?_⟩) | (refine ⟨by omega, ?_⟩) | (intro _)
    all_goals (refine hK _ ?_; clear hK K)
    all_goals
      refine AW_seq ?_
      refine AW_r rfl rfl fun K hK => ?_
      simp (disch := omega) [wrap64, List.getElem?_eq_getElem, toNat_pred, Int.tdiv_eq_ediv_of_nonneg, Int.tmod_eq_emod_of_nonneg, cS, take_map_n]
      repeat' first | (exfalso; omega) | (refine ⟨fun _ => ?_, fun _ => ?_⟩) | (refine ⟨by omega, ?_⟩) | (intro _)
      all_goals (refine hK _ ?_; clear hK K)
      all_goals
        refine AW_cond rfl (fun hc1 => ?_) (fun hc1 => ?_)
        · try simp at hc1
          all_goals
            refine AW_r rfl rfl fun K hK => ?_
            simp (disch := omega) [wrap64, List.getElem?_eq_getElem, toNat_pred, Int.tdiv_eq_ediv_of_nonneg, Int.tmod_eq_emod_of_nonneg, cS, take_map_n]
            repeat' first | (exfalso; omega) | (refine ⟨fun _ => ?_, fun _ => ?_⟩) | (refine ⟨by omega, ?_⟩) | (intro _)
            all_goals (refine hK _ ?_; clear hK K)
            all_goals
              refine AW_ret (end_s ?_)
              simp (disch := omega) [wrap64, List.getElem?_eq_getElem, toNat_pred, Int.tdiv_eq_ediv_of_nonneg, Int.tmod_eq_emod_of_nonneg, cS, take_map_n]
              all_goals first | (exact cutL_0 hc1) | ((have e : i = s.length := by omega); subst e; first | (rw [cutL_2 hc1 (by omega)]; done) | (rw [cutL_2 hc1 (by omega)]; simp; done) | (rw [cutL_1 hc1 (by omega)]; simp [cS, List.take_of_length_le]; done)) | trace_state
        · try simp at hc1
          all_goals
            refine AW_skip ?_
            refine AW_id ?_
            refine AW_r rfl rfl fun K hK => ?_
            simp (disch := omega) [wrap64, List.getElem?_eq_getElem, toNat_pred, Int.tdiv_eq_ediv_of_nonneg, Int.tmod_eq_emod_of_nonneg, cS, take_map_n]
            repeat' first | (exfalso; omega) | (refine ⟨fun _ => ?_, fun _ => ?_⟩) | (refine ⟨by omega, ?_⟩) | (intro _)
            all_goals (refine hK _ ?_; clear hK K)
            all_goals
              refine AW_seq ?_
              refine AW_r rfl rfl fun K hK => ?_
              simp (disch := omega) [wrap64, List.getElem?_eq_getElem, toNat_pred, Int.tdiv_eq_ediv_of_nonneg, Int.tmod_eq_emod_of_nonneg, cS, take_map_n]
              repeat' first | (exfalso; omega) | (refine ⟨fun _ => ?_, fun _ => ?_⟩) | (refine ⟨by omega, ?_⟩) | (intro _)
              all_goals (refine hK _ ?_; clear hK K)
              all_goals
                refine AW_block ?_
                refine AW_loopS (fun mM sS => ∃ (i : Nat), mM = s.length - i ∧ (i ≤ s.length) ∧ sS = { env := lkE [(0, .s s), (3, .arr 128 0 (cs s i).2.length), (4, (.g (.int .i64 (((cs s i).1 : Nat))))), (5, (.g (.int .i64 ((i : Nat)))))], ob := lk [(128, .flat 1 ((cs s i).2.map cS))] }) ?_ ?_
                · refine ⟨_, LeS.kr [(128, 128)] [(0, .s s), (3, .arr 128 0 (cs s (0)).2.length), (4, (.g (.int .i64 (((cs s (0)).1 : Nat))))), (5, (.g (.int .i64 (((0) : Nat)))))] [(128, .flat 1 ((cs s (0)).2.map cS))] (by simp [KpR, renV2, renV, upd_app, lkE_app, lk_cons, lk_nil, cs_0, cS, take_map_n]; try (first | rfl | (rw [hs]; done) | (rw [hs]; simp; done))) (by simp [KpOR, renO, renV, upd_app, lk_cons, lk_nil, formOb_nn, cs_0, cS, take_map_n]; try (first | rfl | (rw [hs]; done) | (rw [hs]; simp [cS]; done))) (by rfl) (by rfl) (by simp) (by simp) (by rfl) (by simp [forms]), _, 0, rfl, ?_, rfl⟩
                  · simp
                · rintro mM sS ⟨i, rfl, hi, rfl⟩
                  obtain ⟨hb1, hb2, hb3⟩ := cs_b s i
                  refine AW_seq ?_
                  refine AW_r rfl rfl fun K hK => ?_
                  simp (disch := omega) [wrap64, List.getElem?_eq_getElem, toNat_pred, Int.tdiv_eq_ediv_of_nonneg, Int.tmod_eq_emod_of_nonneg, cS, take_map_n]
                  repeat' first | (exfalso; omega) | (refine ⟨fun _ => ?_, fun _ => ?_⟩) | (refine ⟨by omega, ?_⟩) | (intro _)
                  all_goals (refine hK _ ?_; clear hK K)
                  all_goals
                    refine AW_cond rfl (fun hc2 => ?_) (fun hc2 => ?_)
                    · try simp at hc2
                      all_goals
                        have hgd : s.getD i 0 = s[i] := by simp [List.getD, show i < s.length by omega]
                        refine AW_skip ?_
                        refine AW_id ?_
                        refine AW_seq ?_
                        refine AW_block ?_
                        refine AW_r rfl rfl fun K hK => ?_
                        simp (disch := omega) [wrap64, List.getElem?_eq_getElem, toNat_pred, Int.tdiv_eq_ediv_of_nonneg, Int.tmod_eq_emod_of_nonneg, cS, take_map_n]
                        repeat' first | (exfalso; omega) | (refine ⟨fun _ => ?_, fun _ => ?_⟩) | (refine ⟨by omega, ?_⟩) | (intro _)
                        all_goals (refine hK _ ?_; clear hK K)
                        all_goals
                          refine AW_r rfl rfl fun K hK => ?_
                          simp (disch := omega) [wrap64, List.getElem?_eq_getElem, toNat_pred, Int.tdiv_eq_ediv_of_nonneg, Int.tmod_eq_emod_of_nonneg, cS, take_map_n]
                          repeat' first | (exfalso; omega) | (refine ⟨fun _ => ?_, fun _ => ?_⟩) | (refine ⟨by omega, ?_⟩) | (intro _)
                          all_goals (refine hK _ ?_; clear hK K)
                          all_goals
                            refine AW_cond rfl (fun hc3 => ?_) (fun hc3 => ?_)
                            · try simp at hc3
                              all_goals
                                refine AW_r rfl rfl fun K hK => ?_
                                simp (disch := omega) [wrap64, List.getElem?_eq_getElem, toNat_pred, Int.tdiv_eq_ediv_of_nonneg, Int.tmod_eq_emod_of_nonneg, cS, take_map_n]
                                repeat' first | (exfalso; omega) | (refine ⟨fun _ => ?_, fun _ => ?_⟩) | (refine ⟨by omega, ?_⟩) | (intro _)
                                all_goals (refine hK _ ?_; clear hK K)
                                all_goals
                                  refine AW_re rfl rfl fun K hK => ?_
                                  simp (disch := omega) [wrap64, List.getElem?_eq_getElem, toNat_pred, Int.tdiv_eq_ediv_of_nonneg, Int.tmod_eq_emod_of_nonneg, cS, take_map_n]
                                  repeat' first | (exfalso; omega) | (refine ⟨fun _ => ?_, fun _ => ?_⟩) | (refine ⟨by omega, ?_⟩) | (intro _)
                                  all_goals (refine hK _ ?_; clear hK K)
                                  all_goals
                                    refine AW_id ?_
                                    refine AW_re rfl rfl fun K hK => ?_
                                    simp (disch := omega) [wrap64, List.getElem?_eq_getElem, toNat_pred, Int.tdiv_eq_ediv_of_nonneg, Int.tmod_eq_emod_of_nonneg, cS, take_map_n]
                                    repeat' first | (exfalso; omega) | (refine ⟨fun _ => ?_, fun _ => ?_⟩) | (refine ⟨by omega, ?_⟩) | (intro _)
                                    all_goals (refine hK _ ?_; clear hK K)
                                    all_goals
                                      first | have hs := cs_t s i (by unfold cutAt; grind) | have hs := cs_f s i (by unfold cutAt; grind) | trace_state
                                      refine ⟨_, LeS.kr [(128, 688)] [(0, .s s), (3, .arr 128 0 (cs s (i + 1)).2.length), (4, (.g (.int .i64 (((cs s (i + 1)).1 : Nat))))), (5, (.g (.int .i64 (((i + 1) : Nat)))))] [(128, .flat 1 ((cs s (i + 1)).2.map cS))] (by simp [KpR, renV2, renV, upd_app, lkE_app, lk_cons, lk_nil, cs_0, cS, take_map_n]; try (first | rfl | (rw [hs]; done) | (rw [hs]; simp; done))) (by simp [KpOR, renO, renV, upd_app, lk_cons, lk_nil, formOb_nn, cs_0, cS, take_map_n]; try (first | rfl | (rw [hs]; done) | (rw [hs]; simp [cS]; done))) (by rfl) (by rfl) (by simp) (by simp) (by rfl) (by simp [forms]), _, ?_, i + 1, rfl, ?_, rfl⟩
                                      · omega
                                      · omega
                            · try simp at hc3
                              all_goals
                                refine AW_skip ?_
                                refine AW_id ?_
                                refine AW_re rfl rfl fun K hK => ?_
                                simp (disch := omega) [wrap64, List.getElem?_eq_getElem, toNat_pred, Int.tdiv_eq_ediv_of_nonneg, Int.tmod_eq_emod_of_nonneg, cS, take_map_n]
                                repeat' first | (exfalso; omega) | (refine ⟨fun _ => ?_, fun _ => ?_⟩) | (refine ⟨by omega, ?_⟩) | (intro _)
                                all_goals (refine hK _ ?_; clear hK K)
                                all_goals
                                  first | have hs := cs_t s i (by unfold cutAt; grind) | have hs := cs_f s i (by unfold cutAt; grind) | trace_state
                                  refine ⟨_, LeS.kr [(128, 128)] [(0, .s s), (3, .arr 128 0 (cs s (i + 1)).2.length), (4, (.g (.int .i64 (((cs s (i + 1)).1 : Nat))))), (5, (.g (.int .i64 (((i + 1) : Nat)))))] [(128, .flat 1 ((cs s (i + 1)).2.map cS))] (by simp [KpR, renV2, renV, upd_app, lkE_app, lk_cons, lk_nil, cs_0, cS, take_map_n]; try (first | rfl | (rw [hs]; done) | (rw [hs]; simp; done))) (by simp [KpOR, renO, renV, upd_app, lk_cons, lk_nil, formOb_nn, cs_0, cS, take_map_n]; try (first | rfl | (rw [hs]; done) | (rw [hs]; simp [cS]; done))) (by rfl) (by rfl) (by simp) (by simp) (by rfl) (by simp [forms]), _, ?_, i + 1, rfl, ?_, rfl⟩
                                  · omega
                                  · omega
                    · try simp at hc2
                      all_goals
                        refine AW_exit ?_
                        refine AW_id ?_
                        refine AW_seq ?_
                        refine AW_r rfl rfl fun K hK => ?_
                        simp (disch := omega) [wrap64, List.getElem?_eq_getElem, toNat_pred, Int.tdiv_eq_ediv_of_nonneg, Int.tmod_eq_emod_of_nonneg, cS, take_map_n]
                        repeat' first | (exfalso; omega) | (refine ⟨fun _ => ?_, fun _ => ?_⟩) | (refine ⟨by omega, ?_⟩) | (intro _)
                        all_goals (refine hK _ ?_; clear hK K)
                        all_goals
                          refine AW_cond rfl (fun hc4 => ?_) (fun hc4 => ?_)
                          · try simp at hc4
                            all_goals
                              refine AW_re rfl rfl fun K hK => ?_
                              simp (disch := omega) [wrap64, List.getElem?_eq_getElem, toNat_pred, Int.tdiv_eq_ediv_of_nonneg, Int.tmod_eq_emod_of_nonneg, cS, take_map_n]
                              repeat' first | (exfalso; omega) | (refine ⟨fun _ => ?_, fun _ => ?_⟩) | (refine ⟨by omega, ?_⟩) | (intro _)
                              all_goals (refine hK _ ?_; clear hK K)
                              all_goals
                                refine AW_id ?_
                                refine AW_r rfl rfl fun K hK => ?_
                                simp (disch := omega) [wrap64, List.getElem?_eq_getElem, toNat_pred, Int.tdiv_eq_ediv_of_nonneg, Int.tmod_eq_emod_of_nonneg, cS, take_map_n]
                                repeat' first | (exfalso; omega) | (refine ⟨fun _ => ?_, fun _ => ?_⟩) | (refine ⟨by omega, ?_⟩) | (intro _)
                                all_goals (refine hK _ ?_; clear hK K)
                                all_goals
                                  refine AW_ret (end_s ?_)
                                  simp (disch := omega) [wrap64, List.getElem?_eq_getElem, toNat_pred, Int.tdiv_eq_ediv_of_nonneg, Int.tmod_eq_emod_of_nonneg, cS, take_map_n]
                                  all_goals first | (exact cutL_0 hc1) | ((have e : i = s.length := by omega); subst e; first | (rw [cutL_2 hc1 (by omega)]; done) | (rw [cutL_2 hc1 (by omega)]; simp; done) | (rw [cutL_1 hc1 (by omega)]; simp [cS, List.take_of_length_le]; done)) | trace_state
                          · try simp at hc4
                            all_goals
                              refine AW_skip ?_
                              refine AW_id ?_
                              refine AW_r rfl rfl fun K hK => ?_
                              simp (disch := omega) [wrap64, List.getElem?_eq_getElem, toNat_pred, Int.tdiv_eq_ediv_of_nonneg, Int.tmod_eq_emod_of_nonneg, cS, take_map_n]
                              repeat' first | (exfalso; omega) | (refine ⟨fun _ => ?_, fun _ => ?_⟩) | (refine ⟨by omega, ?_⟩) | (intro _)
                              all_goals (refine hK _ ?_; clear hK K)
                              all_goals
                                refine AW_ret (end_s ?_)
                                simp (disch := omega) [wrap64, List.getElem?_eq_getElem, toNat_pred, Int.tdiv_eq_ediv_of_nonneg, Int.tmod_eq_emod_of_nonneg, cS, take_map_n]
                                all_goals first | (exact cutL_0 hc1) | ((have e : i = s.length := by omega); subst e; first | (rw [cutL_2 hc1 (by omega)]; done) | (rw [cutL_2 hc1 (by omega)]; simp; done) | (rw [cutL_1 hc1 (by omega)]; simp [cS, List.take_of_length_le]; done)) | trace_state
theorem implCut (s : List UInt8) : XCall Try.prog 21 [.s s] [] (.arr 16 0 (cutL s).length) [] [.own 1 ((cutL s).map cS)] := by
  refine xcall_of_walk Try.func21 (by rfl) (by rfl) (by rw [Try.ntmps21]; exact Nat.le_of_ble_eq_true rfl) rfl (by simp) rfl rfl ?_
  rw [Try.ntmps21]
  refine AW_x0   ?_
  refine AW_k [(0, _)] ⟨rfl, trivial⟩ ?_
  refine AW_x rfl rfl fun K hK => ?_
  simp (disch := omega) [wrap64, List.getElem?_eq_getElem, toNat_pred, Int.tdiv_eq_ediv_of_nonneg, Int.tmod_eq_emod_of_nonneg, cS, take_map_n]
  repeat' first | (exfalso; omega) | (refine ⟨fun _ => ?_, fun _ => ?_⟩) | (refine ⟨by omega, ?_⟩) | (intro _)
  all_goals (refine hK _ ?_; clear hK K)
  all_goals
    refine AW_seq ?_
    refine AW_x rfl rfl fun K hK => ?_
    simp (disch := omega) [wrap64, List.getElem?_eq_getElem, toNat_pred, Int.tdiv_eq_ediv_of_nonneg, Int.tmod_eq_emod_of_nonneg, cS, take_map_n]
    repeat' first | (exfalso; omega) | (refine ⟨fun _ => ?_, fun _ => ?_⟩) | (refine ⟨by omega, ?_⟩) | (intro _)
    all_goals (refine hK _ ?_; clear hK K)
    all_goals
      refine AW_cond rfl (fun hc5 => ?_) (fun hc5 => ?_)
      · try simp at hc5
        all_goals
          refine AW_x rfl rfl fun K hK => ?_
          simp (disch := omega) [wrap64, List.getElem?_eq_getElem, toNat_pred, Int.tdiv_eq_ediv_of_nonneg, Int.tmod_eq_emod_of_nonneg, cS, take_map_n]
          repeat' first | (exfalso; omega) | (refine ⟨fun _ => ?_, fun _ => ?_⟩) | (refine ⟨by omega, ?_⟩) | (intro _)
          all_goals (refine hK _ ?_; clear hK K)
          all_goals
            refine AW_ret (end_x [1000] [(1000, 1)] (by simp [List.range_succ, lk_cons, lk_nil, upd_app]) (by simp) ?_)
            simp (disch := omega) [wrap64, List.getElem?_eq_getElem, toNat_pred, Int.tdiv_eq_ediv_of_nonneg, Int.tmod_eq_emod_of_nonneg, cS, take_map_n]
            all_goals first | (exact cutL_0 hc5) | (rw [cutL_0 hc5]; simp; done) | ((have e : i = s.length := by omega); subst e; first | (rw [cutL_2 hc5 (by omega)]; done) | (rw [cutL_2 hc5 (by omega)]; simp; done) | (rw [cutL_1 hc5 (by omega)]; simp [cS, List.take_of_length_le]; done) | (rw [cutL_1 hc5 (by omega)]; refine ⟨by simp, by simp [cS, List.take_of_length_le], by simp⟩)) | trace_state
      · try simp at hc5
        all_goals
          refine AW_skip ?_
          refine AW_id ?_
          refine AW_x rfl rfl fun K hK => ?_
          simp (disch := omega) [wrap64, List.getElem?_eq_getElem, toNat_pred, Int.tdiv_eq_ediv_of_nonneg, Int.tmod_eq_emod_of_nonneg, cS, take_map_n]
          repeat' first | (exfalso; omega) | (refine ⟨fun _ => ?_, fun _ => ?_⟩) | (refine ⟨by omega, ?_⟩) | (intro _)
          all_goals (refine hK _ ?_; clear hK K)
          all_goals
            refine AW_x rfl rfl fun K hK => ?_
            simp (disch := omega) [wrap64, List.getElem?_eq_getElem, toNat_pred, Int.tdiv_eq_ediv_of_nonneg, Int.tmod_eq_emod_of_nonneg, cS, take_map_n]
            repeat' first | (exfalso; omega) | (refine ⟨fun _ => ?_, fun _ => ?_⟩) | (refine ⟨by omega, ?_⟩) | (intro _)
            all_goals (refine hK _ ?_; clear hK K)
            all_goals
              refine AW_seq ?_
              refine AW_x rfl rfl fun K hK => ?_
              simp (disch := omega) [wrap64, List.getElem?_eq_getElem, toNat_pred, Int.tdiv_eq_ediv_of_nonneg, Int.tmod_eq_emod_of_nonneg, cS, take_map_n]
              repeat' first | (exfalso; omega) | (refine ⟨fun _ => ?_, fun _ => ?_⟩) | (refine ⟨by omega, ?_⟩) | (intro _)
              all_goals (refine hK _ ?_; clear hK K)
              all_goals
                refine AW_block ?_
                refine AW_loopS (fun mM sS => ∃ (i : Nat), mM = s.length - i ∧ (i ≤ s.length) ∧ sS = { env := lkE [(0, .s s), (3, .arr 176 0 (cs s i).2.length), (4, (.g (.int .i64 (((cs s i).1 : Nat))))), (5, (.g (.int .i64 ((i : Nat)))))], ob := lk [(176, .flat 1 ((cs s i).2.map cS))] }) ?_ ?_
                · refine ⟨_, LeS.kx [(176, 176)] [(0, .s s), (3, .arr 176 0 (cs s (0)).2.length), (4, (.g (.int .i64 (((cs s (0)).1 : Nat))))), (5, (.g (.int .i64 (((0) : Nat)))))] [(176, .flat 1 ((cs s (0)).2.map cS))] (by simp [KpR, renV2, renV, upd_app, lkE_app, lk_cons, lk_nil, cs_0, cS, take_map_n]; try (first | rfl | (rw [hs]; done) | (rw [hs]; simp; done))) (by simp [KpOX, renO, plO, cvO, renV, pl1, lk_cons, lk_nil, upd_app, cs_0, cS, take_map_n]; try (first | rfl | (rw [hs]; done) | (rw [hs]; simp [cS]; done))) (by rfl) (by simp) (by simp) (by rfl) (by simp [formsX, List.range_succ, lk_cons, lk_nil]), _, 0, rfl, ?_, rfl⟩
                  · simp
                · rintro mM sS ⟨i, rfl, hi, rfl⟩
                  obtain ⟨hb1, hb2, hb3⟩ := cs_b s i
                  refine AW_seq ?_
                  refine AW_x rfl rfl fun K hK => ?_
                  simp (disch := omega) [wrap64, List.getElem?_eq_getElem, toNat_pred, Int.tdiv_eq_ediv_of_nonneg, Int.tmod_eq_emod_of_nonneg, cS, take_map_n]
                  repeat' first | (exfalso; omega) | (refine ⟨fun _ => ?_, fun _ => ?_⟩) | (refine ⟨by omega, ?_⟩) | (intro _)
                  all_goals (refine hK _ ?_; clear hK K)
                  all_goals
                    refine AW_cond rfl (fun hc6 => ?_) (fun hc6 => ?_)
                    · try simp at hc6
                      all_goals
                        have hgd : s.getD i 0 = s[i] := by simp [List.getD, show i < s.length by omega]
                        refine AW_skip ?_
                        refine AW_id ?_
                        refine AW_seq ?_
                        refine AW_block ?_
                        refine AW_x rfl rfl fun K hK => ?_
                        simp (disch := omega) [wrap64, List.getElem?_eq_getElem, toNat_pred, Int.tdiv_eq_ediv_of_nonneg, Int.tmod_eq_emod_of_nonneg, cS, take_map_n]
                        repeat' first | (exfalso; omega) | (refine ⟨fun _ => ?_, fun _ => ?_⟩) | (refine ⟨by omega, ?_⟩) | (intro _)
                        all_goals (refine hK _ ?_; clear hK K)
                        all_goals
                          refine AW_x rfl rfl fun K hK => ?_
                          simp (disch := omega) [wrap64, List.getElem?_eq_getElem, toNat_pred, Int.tdiv_eq_ediv_of_nonneg, Int.tmod_eq_emod_of_nonneg, cS, take_map_n]
                          repeat' first | (exfalso; omega) | (refine ⟨fun _ => ?_, fun _ => ?_⟩) | (refine ⟨by omega, ?_⟩) | (intro _)
                          all_goals (refine hK _ ?_; clear hK K)
                          all_goals
                            refine AW_cond rfl (fun hc7 => ?_) (fun hc7 => ?_)
                            · try simp at hc7
                              all_goals
                                refine AW_x rfl rfl fun K hK => ?_
                                simp (disch := omega) [wrap64, List.getElem?_eq_getElem, toNat_pred, Int.tdiv_eq_ediv_of_nonneg, Int.tmod_eq_emod_of_nonneg, cS, take_map_n]
                                repeat' first | (exfalso; omega) | (refine ⟨fun _ => ?_, fun _ => ?_⟩) | (refine ⟨by omega, ?_⟩) | (intro _)
                                all_goals (refine hK _ ?_; clear hK K)
                                all_goals
                                  refine AW_xe rfl rfl fun K hK => ?_
                                  simp (disch := omega) [wrap64, List.getElem?_eq_getElem, toNat_pred, Int.tdiv_eq_ediv_of_nonneg, Int.tmod_eq_emod_of_nonneg, cS, take_map_n]
                                  repeat' first | (exfalso; omega) | (refine ⟨fun _ => ?_, fun _ => ?_⟩) | (refine ⟨by omega, ?_⟩) | (intro _)
                                  all_goals (refine hK _ ?_; clear hK K)
                                  all_goals
                                    refine AW_id ?_
                                    refine AW_xe rfl rfl fun K hK => ?_
                                    simp (disch := omega) [wrap64, List.getElem?_eq_getElem, toNat_pred, Int.tdiv_eq_ediv_of_nonneg, Int.tmod_eq_emod_of_nonneg, cS, take_map_n]
                                    repeat' first | (exfalso; omega) | (refine ⟨fun _ => ?_, fun _ => ?_⟩) | (refine ⟨by omega, ?_⟩) | (intro _)
                                    all_goals (refine hK _ ?_; clear hK K)
                                    all_goals
                                      first | have hs := cs_t s i (by unfold cutAt; grind) | have hs := cs_f s i (by unfold cutAt; grind) | trace_state
                                      refine ⟨_, LeS.kx [(176, 672)] [(0, .s s), (3, .arr 176 0 (cs s (i + 1)).2.length), (4, (.g (.int .i64 (((cs s (i + 1)).1 : Nat))))), (5, (.g (.int .i64 (((i + 1) : Nat)))))] [(176, .flat 1 ((cs s (i + 1)).2.map cS))] (by simp [KpR, renV2, renV, upd_app, lkE_app, lk_cons, lk_nil, cs_0, cS, take_map_n]; try (first | rfl | (rw [hs]; done) | (rw [hs]; simp; done))) (by simp [KpOX, renO, plO, cvO, renV, pl1, lk_cons, lk_nil, upd_app, cs_0, cS, take_map_n]; try (first | rfl | (rw [hs]; done) | (rw [hs]; simp [cS]; done))) (by rfl) (by simp) (by simp) (by rfl) (by simp [formsX, List.range_succ, lk_cons, lk_nil]), _, ?_, i + 1, rfl, ?_, rfl⟩
                                      · omega
                                      · omega
                            · try simp at hc7
                              all_goals
                                refine AW_skip ?_
                                refine AW_id ?_
                                refine AW_xe rfl rfl fun K hK => ?_
                                simp (disch := omega) [wrap64, List.getElem?_eq_getElem, toNat_pred, Int.tdiv_eq_ediv_of_nonneg, Int.tmod_eq_emod_of_nonneg, cS, take_map_n]
                                repeat' first | (exfalso; omega) | (refine ⟨fun _ => ?_, fun _ => ?_⟩) | (refine ⟨by omega, ?_⟩) | (intro _)
                                all_goals (refine hK _ ?_; clear hK K)
                                all_goals
                                  first | have hs := cs_t s i (by unfold cutAt; grind) | have hs := cs_f s i (by unfold cutAt; grind) | trace_state
                                  refine ⟨_, LeS.kx [(176, 176)] [(0, .s s), (3, .arr 176 0 (cs s (i + 1)).2.length), (4, (.g (.int .i64 (((cs s (i + 1)).1 : Nat))))), (5, (.g (.int .i64 (((i + 1) : Nat)))))] [(176, .flat 1 ((cs s (i + 1)).2.map cS))] (by simp [KpR, renV2, renV, upd_app, lkE_app, lk_cons, lk_nil, cs_0, cS, take_map_n]; try (first | rfl | (rw [hs]; done) | (rw [hs]; simp; done))) (by simp [KpOX, renO, plO, cvO, renV, pl1, lk_cons, lk_nil, upd_app, cs_0, cS, take_map_n]; try (first | rfl | (rw [hs]; done) | (rw [hs]; simp [cS]; done))) (by rfl) (by simp) (by simp) (by rfl) (by simp [formsX, List.range_succ, lk_cons, lk_nil]), _, ?_, i + 1, rfl, ?_, rfl⟩
                                  · omega
                                  · omega
                    · try simp at hc6
                      all_goals
                        refine AW_exit ?_
                        refine AW_id ?_
                        refine AW_seq ?_
                        refine AW_x rfl rfl fun K hK => ?_
                        simp (disch := omega) [wrap64, List.getElem?_eq_getElem, toNat_pred, Int.tdiv_eq_ediv_of_nonneg, Int.tmod_eq_emod_of_nonneg, cS, take_map_n]
                        repeat' first | (exfalso; omega) | (refine ⟨fun _ => ?_, fun _ => ?_⟩) | (refine ⟨by omega, ?_⟩) | (intro _)
                        all_goals (refine hK _ ?_; clear hK K)
                        all_goals
                          refine AW_cond rfl (fun hc8 => ?_) (fun hc8 => ?_)
                          · try simp at hc8
                            all_goals
                              refine AW_xe rfl rfl fun K hK => ?_
                              simp (disch := omega) [wrap64, List.getElem?_eq_getElem, toNat_pred, Int.tdiv_eq_ediv_of_nonneg, Int.tmod_eq_emod_of_nonneg, cS, take_map_n]
                              repeat' first | (exfalso; omega) | (refine ⟨fun _ => ?_, fun _ => ?_⟩) | (refine ⟨by omega, ?_⟩) | (intro _)
                              all_goals (refine hK _ ?_; clear hK K)
                              all_goals
                                refine AW_id ?_
                                refine AW_x rfl rfl fun K hK => ?_
                                simp (disch := omega) [wrap64, List.getElem?_eq_getElem, toNat_pred, Int.tdiv_eq_ediv_of_nonneg, Int.tmod_eq_emod_of_nonneg, cS, take_map_n]
                                repeat' first | (exfalso; omega) | (refine ⟨fun _ => ?_, fun _ => ?_⟩) | (refine ⟨by omega, ?_⟩) | (intro _)
                                all_goals (refine hK _ ?_; clear hK K)
                                all_goals
                                  refine AW_ret (end_x [864] [] (by simp [List.range_succ, lk_cons, lk_nil, upd_app]) (by simp) ?_)
                                  simp (disch := omega) [wrap64, List.getElem?_eq_getElem, toNat_pred, Int.tdiv_eq_ediv_of_nonneg, Int.tmod_eq_emod_of_nonneg, cS, take_map_n]
                                  all_goals first | (exact cutL_0 hc5) | (rw [cutL_0 hc5]; simp; done) | ((have e : i = s.length := by omega); subst e; first | (rw [cutL_2 hc5 (by omega)]; done) | (rw [cutL_2 hc5 (by omega)]; simp; done) | (rw [cutL_1 hc5 (by omega)]; simp [cS, List.take_of_length_le]; done) | (rw [cutL_1 hc5 (by omega)]; refine ⟨by simp, by simp [cS, List.take_of_length_le], by simp⟩)) | trace_state
                          · try simp at hc8
                            all_goals
                              refine AW_skip ?_
                              refine AW_id ?_
                              refine AW_x rfl rfl fun K hK => ?_
                              simp (disch := omega) [wrap64, List.getElem?_eq_getElem, toNat_pred, Int.tdiv_eq_ediv_of_nonneg, Int.tmod_eq_emod_of_nonneg, cS, take_map_n]
                              repeat' first | (exfalso; omega) | (refine ⟨fun _ => ?_, fun _ => ?_⟩) | (refine ⟨by omega, ?_⟩) | (intro _)
                              all_goals (refine hK _ ?_; clear hK K)
                              all_goals
                                refine AW_ret (end_x [176] [] (by simp [List.range_succ, lk_cons, lk_nil, upd_app]) (by simp) ?_)
                                simp (disch := omega) [wrap64, List.getElem?_eq_getElem, toNat_pred, Int.tdiv_eq_ediv_of_nonneg, Int.tmod_eq_emod_of_nonneg, cS, take_map_n]
                                all_goals first | (exact cutL_0 hc5) | (rw [cutL_0 hc5]; simp; done) | ((have e : i = s.length := by omega); subst e; first | (rw [cutL_2 hc5 (by omega)]; done) | (rw [cutL_2 hc5 (by omega)]; simp; done) | (rw [cutL_1 hc5 (by omega)]; simp [cS, List.take_of_length_le]; done) | (rw [cutL_1 hc5 (by omega)]; refine ⟨by simp, by simp [cS, List.take_of_length_le], by simp⟩)) | trace_state
end Go.Proofs.Ytpaccfeiaekacaa.Vs
