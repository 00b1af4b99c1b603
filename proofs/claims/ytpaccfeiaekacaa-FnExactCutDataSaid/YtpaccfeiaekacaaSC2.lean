import Derived.Test.YtpaccfeiaekacaaSC1
open Go Go.Proofs Go.Proofs.Ytpaccfeiaekacaa.Vs
namespace Go.Proofs.Ytpaccfeiaekacaa.Vs
set_option linter.unusedVariables false
set_option linter.unusedSimpArgs false
set_option linter.unusedSectionVars false
set_option linter.unnecessarySimpa false
set_option linter.all false
set_option linter.unusedSimpArgs false
set_option linter.unusedVariables false
set_option maxRecDepth 100000
theorem cutL_len (s : List UInt8) : (cutL s).length ≤ 401 := by
  obtain ⟨h1, h2, h3⟩ := cs_b s s.length
  unfold cutL
  split
  · simp
  · split
    · simp; omega
    · omega
theorem sumZ_le (m : Nat) : ∀ (l : List (List UInt8)), (∀ x ∈ l, x.length ≤ m) → sumZ lenZ l ≤ (l.length * m : Nat)
  | [], _ => by simp [sumZ]
  | x :: l, h => by
    have h1 := sumZ_le m l fun y hy => h y (by simp [hy])
    have h2 := h x (by simp)
    rw [sumZ_cons, List.length_cons, Nat.add_mul]
    unfold lenZ at h1 ⊢
    omega
theorem cs_p (s : List UInt8) : ∀ (i : Nat), ∀ x ∈ (cs s i).2, x.length ≤ s.length
  | 0 => by simp [cs]
  | i + 1 => by
    intro x hx
    by_cases h : cutAt s i (cs s i).1
    · rw [cs_t s i h] at hx
      rcases List.mem_append.1 hx with hx | hx
      · exact cs_p s i x hx
      · simp at hx; subst hx; simp; omega
    · rw [cs_f s i h] at hx
      exact cs_p s i x hx
theorem cutL_sz (s : List UInt8) : szS lenZ (cutL s) ≤ 1048576 := by
  have hl := cutL_len s
  have h : ∀ x ∈ cutL s, x.length ≤ 400 := by
    intro x hx
    unfold cutL at hx
    split at hx
    · simp at hx
    · split at hx
      · rcases List.mem_append.1 hx with hx | hx
        · have := cs_p s _ x hx; omega
        · simp at hx; subst hx; simp; omega
      · have := cs_p s _ x hx; omega
  have := sumZ_le 400 _ h
  have h3 : (cutL s).length * 400 ≤ 401 * 400 := Nat.mul_le_mul_right _ hl
  unfold szS
  omega
theorem implCutP (s : List UInt8) : PCall Try.prog 21 [.s s] (.sl 1 ((cutL s).map cS)) := pcall_row (implCut s) (by simp)
theorem lawCutDataX (s : List UInt8) : XCall Try.prog 5 [.s s] [] (.g (.bool (true))) [] [] := by
  have hkl := cutL_len s
  refine xcall_of_walk Try.func5 (by rfl) (by rfl) (by rw [Try.ntmps5]; exact Nat.le_of_ble_eq_true rfl) rfl (by simp) rfl rfl ?_
  rw [Try.ntmps5]
  refine AW_x0   ?_
  refine AW_k [(0, _)] ⟨rfl, trivial⟩ ?_
  refine AW_x rfl rfl fun K hK => ?_
  simp (disch := omega) [wrap64, List.getElem?_eq_getElem, toNat_pred, eqB_self, mkL_len, take_mkL]
  repeat' first | (exfalso; omega) | (refine ⟨fun _ => ?_, fun _ => ?_⟩) | (refine ⟨by omega, ?_⟩) | (intro _)
  all_goals (refine hK _ ?_; clear hK K)
  all_goals
    refine AW_seq ?_
    refine AW_x rfl rfl fun K hK => ?_
    simp (disch := omega) [wrap64, List.getElem?_eq_getElem, toNat_pred, eqB_self, mkL_len, take_mkL]
    repeat' first | (exfalso; omega) | (refine ⟨fun _ => ?_, fun _ => ?_⟩) | (refine ⟨by omega, ?_⟩) | (intro _)
    all_goals (refine hK _ ?_; clear hK K)
    all_goals
      refine AW_cond rfl (fun hc1 => ?_) (fun hc1 => ?_)
      · try simp at hc1
        all_goals
          refine AW_x rfl rfl fun K hK => ?_
          simp (disch := omega) [wrap64, List.getElem?_eq_getElem, toNat_pred, eqB_self, mkL_len, take_mkL]
          repeat' first | (exfalso; omega) | (refine ⟨fun _ => ?_, fun _ => ?_⟩) | (refine ⟨by omega, ?_⟩) | (intro _)
          all_goals (refine hK _ ?_; clear hK K)
          all_goals
            refine AW_ret (end_x [] [] (by simp [List.range_succ, lk_cons, lk_nil, upd_app]) (by simp) ?_)
            simp (disch := omega) [wrap64, List.getElem?_eq_getElem, toNat_pred, eqB_self, mkL_len, take_mkL]
            all_goals skip
      · try simp at hc1
        all_goals
          refine AW_skip ?_
          refine AW_id ?_
          refine AW_x rfl rfl fun K hK => ?_
          simp (disch := omega) [wrap64, List.getElem?_eq_getElem, toNat_pred, eqB_self, mkL_len, take_mkL]
          repeat' first | (exfalso; omega) | (refine XKd_v (am2s_cons am2_s am2s_nil) (specCut s) rfl ?_; simp (disch := omega) [wrap64, List.getElem?_eq_getElem, toNat_pred, eqB_self, mkL_len, take_mkL]) | (refine XKd_p (specCut s) (by rfl) ?_ ?_; (focus (simp (disch := omega) [wrap64, List.getElem?_eq_getElem, toNat_pred, eqB_self, mkL_len, take_mkL, take_map_n]; done)); simp (disch := omega) [wrap64, List.getElem?_eq_getElem, toNat_pred, eqB_self, mkL_len, take_mkL]) | (refine ⟨fun _ => ?_, fun _ => ?_⟩) | (refine ⟨by omega, ?_⟩) | (intro _)
          all_goals (refine hK _ ?_; clear hK K)
          all_goals
            refine AW_x rfl rfl fun K hK => ?_
            simp (disch := omega) [wrap64, List.getElem?_eq_getElem, toNat_pred, eqB_self, mkL_len, take_mkL]
            repeat' first | (exfalso; omega) | (refine XKd_x [] true [] (implCut s) ?_ ?_ ?_; (focus (simp [List.range_succ, nmC]; done)); (focus (simp (disch := omega) [wrap64, List.getElem?_eq_getElem, toNat_pred, eqB_self, mkL_len, take_mkL, take_map_n]; done)); simp (disch := omega) [wrap64, List.getElem?_eq_getElem, toNat_pred, eqB_self, mkL_len, take_mkL]) | (refine XKd_v (am2s_cons am2_s am2s_nil) (implCutP s) rfl ?_; simp (disch := omega) [wrap64, List.getElem?_eq_getElem, toNat_pred, eqB_self, mkL_len, take_mkL]) | (refine XKd_p (implCutP s) (by rfl) ?_ ?_; (focus (simp (disch := omega) [wrap64, List.getElem?_eq_getElem, toNat_pred, eqB_self, mkL_len, take_mkL, take_map_n]; done)); simp (disch := omega) [wrap64, List.getElem?_eq_getElem, toNat_pred, eqB_self, mkL_len, take_mkL]) | (refine ⟨fun _ => ?_, fun _ => ?_⟩) | (refine ⟨by omega, ?_⟩) | (intro _)
            all_goals (refine hK _ ?_; clear hK K)
            all_goals
              refine AW_seq ?_
              refine AW_x rfl rfl fun K hK => ?_
              simp (disch := omega) [wrap64, List.getElem?_eq_getElem, toNat_pred, eqB_self, mkL_len, take_mkL]
              repeat' first | (exfalso; omega) | (refine XKd_v (am2s_cons am2_sl (am2s_cons am2_sl am2s_nil)) (eqStringS (cutL s) (cutL s) (cutL_sz s)) rfl ?_; simp (disch := omega) [wrap64, List.getElem?_eq_getElem, toNat_pred, eqB_self, mkL_len, take_mkL]) | (refine XKd_p (eqStringS (cutL s) (cutL s) (cutL_sz s)) (by rfl) ?_ ?_; (focus (simp (disch := omega) [wrap64, List.getElem?_eq_getElem, toNat_pred, eqB_self, mkL_len, take_mkL, take_map_n]; done)); simp (disch := omega) [wrap64, List.getElem?_eq_getElem, toNat_pred, eqB_self, mkL_len, take_mkL]) | (refine ⟨fun _ => ?_, fun _ => ?_⟩) | (refine ⟨by omega, ?_⟩) | (intro _)
              all_goals (refine hK _ ?_; clear hK K)
              all_goals
                refine AW_cond rfl (fun hc2 => ?_) (fun hc2 => ?_)
                · try simp at hc2
                  all_goals
                    refine AW_x rfl rfl fun K hK => ?_
                    simp (disch := omega) [wrap64, List.getElem?_eq_getElem, toNat_pred, eqB_self, mkL_len, take_mkL]
                    repeat' first | (exfalso; omega) | (refine ⟨fun _ => ?_, fun _ => ?_⟩) | (refine ⟨by omega, ?_⟩) | (intro _)
                    all_goals (refine hK _ ?_; clear hK K)
                    all_goals
                      refine AW_ret (end_x [] [] (by simp [List.range_succ, lk_cons, lk_nil, upd_app]) (by simp) ?_)
                      simp (disch := omega) [wrap64, List.getElem?_eq_getElem, toNat_pred, eqB_self, mkL_len, take_mkL]
                      all_goals skip
                · try simp at hc2
                  all_goals
                    refine AW_skip ?_
                    refine AW_id ?_
                    refine AW_x rfl rfl fun K hK => ?_
                    simp (disch := omega) [wrap64, List.getElem?_eq_getElem, toNat_pred, eqB_self, mkL_len, take_mkL]
                    repeat' first | (exfalso; omega) | (refine ⟨fun _ => ?_, fun _ => ?_⟩) | (refine ⟨by omega, ?_⟩) | (intro _)
                    all_goals (refine hK _ ?_; clear hK K)
                    all_goals
                      refine AW_x rfl rfl fun K hK => ?_
                      simp (disch := omega) [wrap64, List.getElem?_eq_getElem, toNat_pred, eqB_self, mkL_len, take_mkL]
                      repeat' first | (exfalso; omega) | (refine XKd_x [240] true [] (markStringS (cutL s) 1 (by omega) (by omega)) ?_ ?_ ?_; (focus (simp [List.range_succ, nmC]; done)); (focus (simp (disch := omega) [wrap64, List.getElem?_eq_getElem, toNat_pred, eqB_self, mkL_len, take_mkL, take_map_n]; done)); simp (disch := omega) [wrap64, List.getElem?_eq_getElem, toNat_pred, eqB_self, mkL_len, take_mkL]) | (refine ⟨fun _ => ?_, fun _ => ?_⟩) | (refine ⟨by omega, ?_⟩) | (intro _)
                      all_goals (refine hK _ ?_; clear hK K)
                      all_goals
                        refine AW_x rfl rfl fun K hK => ?_
                        simp (disch := omega) [wrap64, List.getElem?_eq_getElem, toNat_pred, eqB_self, mkL_len, take_mkL]
                        repeat' first | (exfalso; omega) | (refine ⟨fun _ => ?_, fun _ => ?_⟩) | (refine ⟨by omega, ?_⟩) | (intro _)
                        all_goals (refine hK _ ?_; clear hK K)
                        all_goals
                          refine AW_x rfl rfl fun K hK => ?_
                          simp (disch := omega) [wrap64, List.getElem?_eq_getElem, toNat_pred, eqB_self, mkL_len, take_mkL]
                          repeat' first | (exfalso; omega) | (refine XKd_v (am2s_cons am2_sl (am2s_cons am2_g am2s_nil)) (heldStringS (cutL s).length 1 (by omega) (by omega)) rfl ?_; simp (disch := omega) [wrap64, List.getElem?_eq_getElem, toNat_pred, eqB_self, mkL_len, take_mkL]) | (refine XKd_p (heldStringS (cutL s).length 1 (by omega) (by omega)) (by rfl) ?_ ?_; (focus (simp (disch := omega) [wrap64, List.getElem?_eq_getElem, toNat_pred, eqB_self, mkL_len, take_mkL, take_map_n]; done)); simp (disch := omega) [wrap64, List.getElem?_eq_getElem, toNat_pred, eqB_self, mkL_len, take_mkL]) | (refine ⟨fun _ => ?_, fun _ => ?_⟩) | (refine ⟨by omega, ?_⟩) | (intro _)
                          all_goals (refine hK _ ?_; clear hK K)
                          all_goals
                            refine AW_seq ?_
                            refine AW_x rfl rfl fun K hK => ?_
                            simp (disch := omega) [wrap64, List.getElem?_eq_getElem, toNat_pred, eqB_self, mkL_len, take_mkL]
                            repeat' first | (exfalso; omega) | (refine ⟨fun _ => ?_, fun _ => ?_⟩) | (refine ⟨by omega, ?_⟩) | (intro _)
                            all_goals (refine hK _ ?_; clear hK K)
                            all_goals
                              refine AW_cond rfl (fun hc3 => ?_) (fun hc3 => ?_)
                              · try simp at hc3
                                all_goals
                                  refine AW_x rfl rfl fun K hK => ?_
                                  simp (disch := omega) [wrap64, List.getElem?_eq_getElem, toNat_pred, eqB_self, mkL_len, take_mkL]
                                  repeat' first | (exfalso; omega) | (refine ⟨fun _ => ?_, fun _ => ?_⟩) | (refine ⟨by omega, ?_⟩) | (intro _)
                                  all_goals (refine hK _ ?_; clear hK K)
                                  all_goals
                                    refine AW_ret (end_x [] [] (by simp [List.range_succ, lk_cons, lk_nil, upd_app]) (by simp) ?_)
                                    simp (disch := omega) [wrap64, List.getElem?_eq_getElem, toNat_pred, eqB_self, mkL_len, take_mkL]
                                    all_goals skip
                              · try simp at hc3
                                all_goals
                                  refine AW_skip ?_
                                  refine AW_id ?_
                                  refine AW_seq ?_
                                  refine AW_x rfl rfl fun K hK => ?_
                                  simp (disch := omega) [wrap64, List.getElem?_eq_getElem, toNat_pred, eqB_self, mkL_len, take_mkL]
                                  repeat' first | (exfalso; omega) | (refine ⟨fun _ => ?_, fun _ => ?_⟩) | (refine ⟨by omega, ?_⟩) | (intro _)
                                  all_goals (refine hK _ ?_; clear hK K)
                                  all_goals
                                    refine AW_cond rfl (fun hc4 => ?_) (fun hc4 => ?_)
                                    · try simp at hc4
                                      all_goals
                                        refine AW_x rfl rfl fun K hK => ?_
                                        simp (disch := omega) [wrap64, List.getElem?_eq_getElem, toNat_pred, eqB_self, mkL_len, take_mkL]
                                        repeat' first | (exfalso; omega) | (refine ⟨fun _ => ?_, fun _ => ?_⟩) | (refine ⟨by omega, ?_⟩) | (intro _)
                                        all_goals (refine hK _ ?_; clear hK K)
                                        all_goals
                                          refine AW_ret (end_x [] [] (by simp [List.range_succ, lk_cons, lk_nil, upd_app]) (by simp) ?_)
                                          simp (disch := omega) [wrap64, List.getElem?_eq_getElem, toNat_pred, eqB_self, mkL_len, take_mkL]
                                          all_goals skip
                                    · try simp at hc4
                                      all_goals
                                        refine AW_skip ?_
                                        refine AW_id ?_
                                        refine AW_x rfl rfl fun K hK => ?_
                                        simp (disch := omega) [wrap64, List.getElem?_eq_getElem, toNat_pred, eqB_self, mkL_len, take_mkL]
                                        repeat' first | (exfalso; omega) | (refine XKd_x [] true [] (implCut s) ?_ ?_ ?_; (focus (simp [List.range_succ, nmC]; done)); (focus (simp (disch := omega) [wrap64, List.getElem?_eq_getElem, toNat_pred, eqB_self, mkL_len, take_mkL, take_map_n]; done)); simp (disch := omega) [wrap64, List.getElem?_eq_getElem, toNat_pred, eqB_self, mkL_len, take_mkL]) | (refine XKd_v (am2s_cons am2_s am2s_nil) (implCutP s) rfl ?_; simp (disch := omega) [wrap64, List.getElem?_eq_getElem, toNat_pred, eqB_self, mkL_len, take_mkL]) | (refine XKd_p (implCutP s) (by rfl) ?_ ?_; (focus (simp (disch := omega) [wrap64, List.getElem?_eq_getElem, toNat_pred, eqB_self, mkL_len, take_mkL, take_map_n]; done)); simp (disch := omega) [wrap64, List.getElem?_eq_getElem, toNat_pred, eqB_self, mkL_len, take_mkL]) | (refine ⟨fun _ => ?_, fun _ => ?_⟩) | (refine ⟨by omega, ?_⟩) | (intro _)
                                        all_goals (refine hK _ ?_; clear hK K)
                                        all_goals
                                          refine AW_seq ?_
                                          refine AW_x rfl rfl fun K hK => ?_
                                          simp (disch := omega) [wrap64, List.getElem?_eq_getElem, toNat_pred, eqB_self, mkL_len, take_mkL]
                                          repeat' first | (exfalso; omega) | (refine XKd_v (am2s_cons am2_sl (am2s_cons am2_sl am2s_nil)) (eqStringS (cutL s) (cutL s) (cutL_sz s)) rfl ?_; simp (disch := omega) [wrap64, List.getElem?_eq_getElem, toNat_pred, eqB_self, mkL_len, take_mkL]) | (refine XKd_p (eqStringS (cutL s) (cutL s) (cutL_sz s)) (by rfl) ?_ ?_; (focus (simp (disch := omega) [wrap64, List.getElem?_eq_getElem, toNat_pred, eqB_self, mkL_len, take_mkL, take_map_n]; done)); simp (disch := omega) [wrap64, List.getElem?_eq_getElem, toNat_pred, eqB_self, mkL_len, take_mkL]) | (refine ⟨fun _ => ?_, fun _ => ?_⟩) | (refine ⟨by omega, ?_⟩) | (intro _)
                                          all_goals (refine hK _ ?_; clear hK K)
                                          all_goals
                                            refine AW_cond rfl (fun hc5 => ?_) (fun hc5 => ?_)
                                            · try simp at hc5
                                              all_goals
                                                refine AW_x rfl rfl fun K hK => ?_
                                                simp (disch := omega) [wrap64, List.getElem?_eq_getElem, toNat_pred, eqB_self, mkL_len, take_mkL]
                                                repeat' first | (exfalso; omega) | (refine ⟨fun _ => ?_, fun _ => ?_⟩) | (refine ⟨by omega, ?_⟩) | (intro _)
                                                all_goals (refine hK _ ?_; clear hK K)
                                                all_goals
                                                  refine AW_ret (end_x [] [] (by simp [List.range_succ, lk_cons, lk_nil, upd_app]) (by simp) ?_)
                                                  simp (disch := omega) [wrap64, List.getElem?_eq_getElem, toNat_pred, eqB_self, mkL_len, take_mkL]
                                                  all_goals skip
                                            · try simp at hc5
                                              all_goals
                                                refine AW_skip ?_
                                                refine AW_id ?_
                                                refine AW_x rfl rfl fun K hK => ?_
                                                simp (disch := omega) [wrap64, List.getElem?_eq_getElem, toNat_pred, eqB_self, mkL_len, take_mkL]
                                                repeat' first | (exfalso; omega) | (refine ⟨fun _ => ?_, fun _ => ?_⟩) | (refine ⟨by omega, ?_⟩) | (intro _)
                                                all_goals (refine hK _ ?_; clear hK K)
                                                all_goals
                                                  refine AW_x rfl rfl fun K hK => ?_
                                                  simp (disch := omega) [wrap64, List.getElem?_eq_getElem, toNat_pred, eqB_self, mkL_len, take_mkL]
                                                  repeat' first | (exfalso; omega) | (refine XKd_v (am2s_cons am2_sl (am2s_cons am2_g am2s_nil)) (heldStringS (cutL s).length 1 (by omega) (by omega)) rfl ?_; simp (disch := omega) [wrap64, List.getElem?_eq_getElem, toNat_pred, eqB_self, mkL_len, take_mkL]) | (refine XKd_p (heldStringS (cutL s).length 1 (by omega) (by omega)) (by rfl) ?_ ?_; (focus (simp (disch := omega) [wrap64, List.getElem?_eq_getElem, toNat_pred, eqB_self, mkL_len, take_mkL, take_map_n]; done)); simp (disch := omega) [wrap64, List.getElem?_eq_getElem, toNat_pred, eqB_self, mkL_len, take_mkL]) | (refine ⟨fun _ => ?_, fun _ => ?_⟩) | (refine ⟨by omega, ?_⟩) | (intro _)
                                                  all_goals (refine hK _ ?_; clear hK K)
                                                  all_goals
                                                    refine AW_seq ?_
                                                    refine AW_x rfl rfl fun K hK => ?_
                                                    simp (disch := omega) [wrap64, List.getElem?_eq_getElem, toNat_pred, eqB_self, mkL_len, take_mkL]
                                                    repeat' first | (exfalso; omega) | (refine ⟨fun _ => ?_, fun _ => ?_⟩) | (refine ⟨by omega, ?_⟩) | (intro _)
                                                    all_goals (refine hK _ ?_; clear hK K)
                                                    all_goals
                                                      refine AW_cond rfl (fun hc6 => ?_) (fun hc6 => ?_)
                                                      · try simp at hc6
                                                        all_goals
                                                          refine AW_x rfl rfl fun K hK => ?_
                                                          simp (disch := omega) [wrap64, List.getElem?_eq_getElem, toNat_pred, eqB_self, mkL_len, take_mkL]
                                                          repeat' first | (exfalso; omega) | (refine ⟨fun _ => ?_, fun _ => ?_⟩) | (refine ⟨by omega, ?_⟩) | (intro _)
                                                          all_goals (refine hK _ ?_; clear hK K)
                                                          all_goals
                                                            refine AW_ret (end_x [] [] (by simp [List.range_succ, lk_cons, lk_nil, upd_app]) (by simp) ?_)
                                                            simp (disch := omega) [wrap64, List.getElem?_eq_getElem, toNat_pred, eqB_self, mkL_len, take_mkL]
                                                            all_goals skip
                                                      · try simp at hc6
                                                        all_goals
                                                          refine AW_skip ?_
                                                          refine AW_id ?_
                                                          refine AW_seq ?_
                                                          refine AW_x rfl rfl fun K hK => ?_
                                                          simp (disch := omega) [wrap64, List.getElem?_eq_getElem, toNat_pred, eqB_self, mkL_len, take_mkL]
                                                          repeat' first | (exfalso; omega) | (refine ⟨fun _ => ?_, fun _ => ?_⟩) | (refine ⟨by omega, ?_⟩) | (intro _)
                                                          all_goals (refine hK _ ?_; clear hK K)
                                                          all_goals
                                                            refine AW_cond rfl (fun hc7 => ?_) (fun hc7 => ?_)
                                                            · try simp at hc7
                                                              all_goals
                                                                refine AW_x rfl rfl fun K hK => ?_
                                                                simp (disch := omega) [wrap64, List.getElem?_eq_getElem, toNat_pred, eqB_self, mkL_len, take_mkL]
                                                                repeat' first | (exfalso; omega) | (refine ⟨fun _ => ?_, fun _ => ?_⟩) | (refine ⟨by omega, ?_⟩) | (intro _)
                                                                all_goals (refine hK _ ?_; clear hK K)
                                                                all_goals
                                                                  refine AW_ret (end_x [] [] (by simp [List.range_succ, lk_cons, lk_nil, upd_app]) (by simp) ?_)
                                                                  simp (disch := omega) [wrap64, List.getElem?_eq_getElem, toNat_pred, eqB_self, mkL_len, take_mkL]
                                                                  all_goals skip
                                                            · try simp at hc7
                                                              all_goals
                                                                refine AW_skip ?_
                                                                refine AW_id ?_
                                                                refine AW_x rfl rfl fun K hK => ?_
                                                                simp (disch := omega) [wrap64, List.getElem?_eq_getElem, toNat_pred, eqB_self, mkL_len, take_mkL]
                                                                repeat' first | (exfalso; omega) | (refine ⟨fun _ => ?_, fun _ => ?_⟩) | (refine ⟨by omega, ?_⟩) | (intro _)
                                                                all_goals (refine hK _ ?_; clear hK K)
                                                                all_goals
                                                                  refine AW_ret (end_x [] [] (by simp [List.range_succ, lk_cons, lk_nil, upd_app]) (by simp) ?_)
                                                                  simp (disch := omega) [wrap64, List.getElem?_eq_getElem, toNat_pred, eqB_self, mkL_len, take_mkL]
                                                                  all_goals skip
theorem lawCutData (s : List UInt8) (hs : wfL s) : PCall Try.prog 5 [.s s] (.g (.bool (true))) := pcall_scal (lawCutDataX s)
end Go.Proofs.Ytpaccfeiaekacaa.Vs
