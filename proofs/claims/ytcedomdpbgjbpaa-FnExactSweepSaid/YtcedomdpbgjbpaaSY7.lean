import Derived.Test.YtcedomdpbgjbpaaSS7
open Go Go.Proofs Go.Proofs.Ytcedomdpbgjbpaa.Vs
namespace Go.Proofs.Ytcedomdpbgjbpaa.Vs
set_option linter.unusedVariables false
set_option linter.unusedSimpArgs false
set_option linter.unusedSectionVars false
set_option linter.unnecessarySimpa false
set_option linter.all false
set_option linter.unusedSimpArgs false
set_option linter.unusedVariables false
set_option maxRecDepth 100000
theorem sumZ_filter {α : Type} {f : α → Int} (hf : ∀ a, 0 ≤ f a) (p : α → Bool) : ∀ l : List α, sumZ f (l.filter p) ≤ sumZ f l
  | [] => by simp [sumZ_nil]
  | a :: l => by
    have ih := sumZ_filter hf p l
    have ha := hf a
    by_cases hp : p a = true
    · rw [List.filter_cons_of_pos hp, sumZ_cons, sumZ_cons]; omega
    · rw [List.filter_cons_of_neg hp, sumZ_cons]; omega
theorem swpU_sz (c : DtCatalog) (u : DtUps) (hs : DtUps.sz u ≤ 1048576) : DtUps.sz (swpU c u) ≤ 1048576 := by
  by_cases h : UpsOkP u
  · by_cases k : CatP c
    · rw [(swp_t h k).1]
      have h1 := sumZ_filter DtUp.sz_nonneg (inM c u) u.fList
      have h2 := List.length_filter_le (inM c u) u.fList
      simp only [DtUps.sz, szS] at hs ⊢
      omega
    · rw [(swp_c h k).1]; exact hs
  · rw [(swp_f (c := c) h).1]; simp [DtUps.sz, szS, sumZ_nil]
theorem swpG_len (c : DtCatalog) (u : DtUps) : (swpG c u).length ≤ 20 ∧ ∀ x ∈ swpG c u, x.length = 8 := by
  by_cases h : UpsOkP u
  · by_cases k : CatP c
    · rw [(swp_t h k).2]
      have h1 := List.length_filter_le (fun x => !inM c u x) u.fList
      have h2 := h.2.2.1
      refine ⟨by rw [List.length_map]; omega, fun x hx => ?_⟩
      obtain ⟨y, hy, rfl⟩ := List.mem_map.1 hx
      obtain ⟨i, hi, rfl⟩ := List.mem_iff_getElem.1 (List.mem_filter.1 hy).1
      exact (h.2.2.2 i _ (List.getElem?_eq_getElem hi)).1
    · rw [(swp_c h k).2]; simp
  · rw [(swp_f (c := c) h).2]; simp
theorem swpG_sz (c : DtCatalog) (u : DtUps) : szS lenZ (swpG c u) ≤ 1048576 := by
  have h1 := swpG_len c u
  have h2 := sumZ_leS 8 _ fun x hx => Nat.le_of_eq (h1.2 x hx)
  unfold szS
  omega
theorem lawSweepX (c : DtCatalog) (hw : DtCatalog.wf c) (u : DtUps) (hv : DtUps.wf u) : XCall Try.prog 6 [.agg (DtCatalog.cells c), .agg (DtUps.cells u)] [] (.g (.bool (true))) [] [] := by
  have hq := DtCatalog.sz_nonneg c
  have hq2 := DtUps.sz_nonneg u
  by_cases h : (1048576 : Int) - DtCatalog.sz c < 0
  · have e : szR 1048576 (DtCatalog.sz c) = -1 := by unfold szR; rw [if_pos h]
    refine xcall_of_walk Try.func6 (by rfl) (by rfl) (by rw [Try.ntmps6]; exact Nat.le_of_ble_eq_true rfl) rfl (by simp) rfl rfl ?_
    rw [Try.ntmps6]
    refine AW_x0   ?_
    refine AW_k [(0, _), (1, _)] ⟨rfl, rfl, trivial⟩ ?_
    refine AW_x rfl rfl fun K hK => ?_
    simp (disch := omega) [wrap64, List.getElem?_eq_getElem, toNat_pred, e, DtCatalog.cells, DtUps.cells]
    repeat' first | (exfalso; omega) | (refine ⟨fun _ => ?_, fun _ => ?_⟩) | (refine ⟨by omega, ?_⟩) | (intro _)
    all_goals (refine hK _ ?_; clear hK K)
    all_goals
      refine AW_x rfl rfl fun K hK => ?_
      simp (disch := omega) [wrap64, List.getElem?_eq_getElem, toNat_pred, e, DtCatalog.cells, DtUps.cells]
      repeat' first | (exfalso; omega) | (refine ⟨fun _ => ?_, fun _ => ?_⟩) | (refine ⟨by omega, ?_⟩) | (intro _)
      all_goals (refine hK _ ?_; clear hK K)
      all_goals
        refine AW_x rfl rfl fun K hK => ?_
        simp (disch := omega) [wrap64, List.getElem?_eq_getElem, toNat_pred, e, DtCatalog.cells, DtUps.cells]
        repeat' first | (exfalso; omega) | (refine XKd_v (am2s_cons (am2_agg rfl) (am2s_cons am2_g am2s_nil)) (szCatalog _ _ (by omega) hw) rfl ?_; simp (disch := omega) [wrap64, List.getElem?_eq_getElem, toNat_pred, e, DtCatalog.cells, DtUps.cells]) | (refine XKd_p (szCatalog _ _ (by omega) hw) (by rfl) ?_ ?_; (focus (simp (disch := omega) [wrap64, List.getElem?_eq_getElem, toNat_pred, e, DtCatalog.cells, DtUps.cells, take_map_n]; done)); simp (disch := omega) [wrap64, List.getElem?_eq_getElem, toNat_pred, e, DtCatalog.cells, DtUps.cells]) | (refine ⟨fun _ => ?_, fun _ => ?_⟩) | (refine ⟨by omega, ?_⟩) | (intro _)
        all_goals (refine hK _ ?_; clear hK K)
        all_goals
          refine AW_seq ?_
          refine AW_x rfl rfl fun K hK => ?_
          simp (disch := omega) [wrap64, List.getElem?_eq_getElem, toNat_pred, e, DtCatalog.cells, DtUps.cells]
          repeat' first | (exfalso; omega) | (refine ⟨fun _ => ?_, fun _ => ?_⟩) | (refine ⟨by omega, ?_⟩) | (intro _)
          all_goals (refine hK _ ?_; clear hK K)
          all_goals
            refine AW_cond rfl (fun hc1 => ?_) (fun hc1 => ?_)
            · try simp at hc1
              all_goals
                refine AW_x rfl rfl fun K hK => ?_
                simp (disch := omega) [wrap64, List.getElem?_eq_getElem, toNat_pred, e, DtCatalog.cells, DtUps.cells]
                repeat' first | (exfalso; omega) | (refine ⟨fun _ => ?_, fun _ => ?_⟩) | (refine ⟨by omega, ?_⟩) | (intro _)
                all_goals (refine hK _ ?_; clear hK K)
                all_goals
                  refine AW_ret (end_x [] [] (by simp [List.range_succ, lk_cons, lk_nil, upd_app]) (by simp) ?_)
                  simp (disch := omega) [wrap64, List.getElem?_eq_getElem, toNat_pred, e, DtCatalog.cells, DtUps.cells]
                  all_goals skip
            · try simp at hc1
              all_goals
                refine AW_skip ?_
                refine AW_id ?_
                refine AW_x rfl rfl fun K hK => ?_
                simp (disch := omega) [wrap64, List.getElem?_eq_getElem, toNat_pred, e, DtCatalog.cells, DtUps.cells]
                repeat' first | (exfalso; omega) | (refine ⟨fun _ => ?_, fun _ => ?_⟩) | (refine ⟨by omega, ?_⟩) | (intro _)
                all_goals (refine hK _ ?_; clear hK K)
                all_goals
                  refine AW_seq ?_
                  refine AW_x rfl rfl fun K hK => ?_
                  simp (disch := omega) [wrap64, List.getElem?_eq_getElem, toNat_pred, e, DtCatalog.cells, DtUps.cells]
                  repeat' first | (exfalso; omega) | (refine ⟨fun _ => ?_, fun _ => ?_⟩) | (refine ⟨by omega, ?_⟩) | (intro _)
                  all_goals (refine hK _ ?_; clear hK K)
                  all_goals
                    refine AW_cond rfl (fun hc2 => ?_) (fun hc2 => ?_)
                    · try simp at hc2
                      all_goals
                        refine AW_x rfl rfl fun K hK => ?_
                        simp (disch := omega) [wrap64, List.getElem?_eq_getElem, toNat_pred, e, DtCatalog.cells, DtUps.cells]
                        repeat' first | (exfalso; omega) | (refine ⟨fun _ => ?_, fun _ => ?_⟩) | (refine ⟨by omega, ?_⟩) | (intro _)
                        all_goals (refine hK _ ?_; clear hK K)
                        all_goals
                          refine AW_ret (end_x [] [] (by simp [List.range_succ, lk_cons, lk_nil, upd_app]) (by simp) ?_)
                          simp (disch := omega) [wrap64, List.getElem?_eq_getElem, toNat_pred, e, DtCatalog.cells, DtUps.cells]
                          all_goals skip
                    · try simp at hc2
                      all_goals
                        refine AW_skip ?_
                        refine AW_id ?_
                        refine AW_d rfl mix (by kernel_rfl) (by kernel_rfl) fun K hK => ?_
                        simp (disch := omega) [wrap64, List.getElem?_eq_getElem, toNat_pred, e, DtCatalog.cells, DtUps.cells]
                        repeat' first | (exfalso; omega) | (refine ⟨fun _ => ?_, fun _ => ?_⟩) | (refine ⟨by omega, ?_⟩) | (intro _)
                        all_goals (refine hK _ _ (by kernel_rfl) ?_; clear hK K)
                        all_goals
                          refine AW_x rfl rfl fun K hK => ?_
                          simp (disch := omega) [wrap64, List.getElem?_eq_getElem, toNat_pred, e, DtCatalog.cells, DtUps.cells]
                          repeat' first | (exfalso; omega) | (refine ⟨fun _ => ?_, fun _ => ?_⟩) | (refine ⟨by omega, ?_⟩) | (intro _)
                          all_goals (refine hK _ ?_; clear hK K)
                          all_goals
                            refine AW_x rfl rfl fun K hK => ?_
                            simp (disch := omega) [wrap64, List.getElem?_eq_getElem, toNat_pred, e, DtCatalog.cells, DtUps.cells]
                            repeat' first | (exfalso; omega) | (refine ⟨fun _ => ?_, fun _ => ?_⟩) | (refine ⟨by omega, ?_⟩) | (intro _)
                            all_goals (refine hK _ ?_; clear hK K)
                            all_goals
                              refine AW_x rfl rfl fun K hK => ?_
                              simp (disch := omega) [wrap64, List.getElem?_eq_getElem, toNat_pred, e, DtCatalog.cells, DtUps.cells]
                              repeat' first | (exfalso; omega) | (refine ⟨fun _ => ?_, fun _ => ?_⟩) | (refine ⟨by omega, ?_⟩) | (intro _)
                              all_goals (refine hK _ ?_; clear hK K)
                              all_goals
                                refine AW_seq ?_
                                refine AW_x rfl rfl fun K hK => ?_
                                simp (disch := omega) [wrap64, List.getElem?_eq_getElem, toNat_pred, e, DtCatalog.cells, DtUps.cells]
                                repeat' first | (exfalso; omega) | (refine ⟨fun _ => ?_, fun _ => ?_⟩) | (refine ⟨by omega, ?_⟩) | (intro _)
                                all_goals (refine hK _ ?_; clear hK K)
                                all_goals
                                  refine AW_cond rfl (fun hc3 => ?_) (fun hc3 => ?_)
                                  · try simp at hc3
                                    all_goals
                                      refine AW_x rfl rfl fun K hK => ?_
                                      simp (disch := omega) [wrap64, List.getElem?_eq_getElem, toNat_pred, e, DtCatalog.cells, DtUps.cells]
                                      repeat' first | (exfalso; omega) | (refine ⟨fun _ => ?_, fun _ => ?_⟩) | (refine ⟨by omega, ?_⟩) | (intro _)
                                      all_goals (refine hK _ ?_; clear hK K)
                                      all_goals
                                        refine AW_ret (end_x [] [] (by simp [List.range_succ, lk_cons, lk_nil, upd_app]) (by simp) ?_)
                                        simp (disch := omega) [wrap64, List.getElem?_eq_getElem, toNat_pred, e, DtCatalog.cells, DtUps.cells]
                                        all_goals skip
                                  · try simp at hc3
                                    all_goals
                                      refine AW_skip ?_
                                      refine AW_id ?_
                                      refine AW_seq ?_
                                      refine AW_d rfl mix (by kernel_rfl) (by kernel_rfl) fun K hK => ?_
                                      simp (disch := omega) [wrap64, List.getElem?_eq_getElem, toNat_pred, e, DtCatalog.cells, DtUps.cells]
                                      repeat' first | (exfalso; omega) | (refine ⟨fun _ => ?_, fun _ => ?_⟩) | (refine ⟨by omega, ?_⟩) | (intro _)
                                      all_goals (refine hK _ _ (by kernel_rfl) ?_; clear hK K)
                                      all_goals
                                        refine AW_cond rfl (fun hc4 => ?_) (fun hc4 => ?_)
                                        · try simp at hc4
                                          all_goals
                                            refine AW_x rfl rfl fun K hK => ?_
                                            simp (disch := omega) [wrap64, List.getElem?_eq_getElem, toNat_pred, e, DtCatalog.cells, DtUps.cells]
                                            repeat' first | (exfalso; omega) | (refine ⟨fun _ => ?_, fun _ => ?_⟩) | (refine ⟨by omega, ?_⟩) | (intro _)
                                            all_goals (refine hK _ ?_; clear hK K)
                                            all_goals
                                              refine AW_ret (end_x [] [] (by simp [List.range_succ, lk_cons, lk_nil, upd_app]) (by simp) ?_)
                                              simp (disch := omega) [wrap64, List.getElem?_eq_getElem, toNat_pred, e, DtCatalog.cells, DtUps.cells]
                                              all_goals skip
                                        · try simp at hc4
                                          all_goals
                                            refine AW_skip ?_
                                            refine AW_id ?_
                                            refine AW_seq ?_
                                            refine AW_d rfl mix (by kernel_rfl) (by kernel_rfl) fun K hK => ?_
                                            simp (disch := omega) [wrap64, List.getElem?_eq_getElem, toNat_pred, e, DtCatalog.cells, DtUps.cells]
                                            repeat' first | (exfalso; omega) | (refine ⟨fun _ => ?_, fun _ => ?_⟩) | (refine ⟨by omega, ?_⟩) | (intro _)
                                            all_goals (refine hK _ _ (by kernel_rfl) ?_; clear hK K)
                                            all_goals
                                              refine AW_cond rfl (fun hc5 => ?_) (fun hc5 => ?_)
                                              · try simp at hc5
                                                all_goals
                                                  refine AW_x rfl rfl fun K hK => ?_
                                                  simp (disch := omega) [wrap64, List.getElem?_eq_getElem, toNat_pred, e, DtCatalog.cells, DtUps.cells]
                                                  repeat' first | (exfalso; omega) | (refine ⟨fun _ => ?_, fun _ => ?_⟩) | (refine ⟨by omega, ?_⟩) | (intro _)
                                                  all_goals (refine hK _ ?_; clear hK K)
                                                  all_goals
                                                    refine AW_ret (end_x [] [] (by simp [List.range_succ, lk_cons, lk_nil, upd_app]) (by simp) ?_)
                                                    simp (disch := omega) [wrap64, List.getElem?_eq_getElem, toNat_pred, e, DtCatalog.cells, DtUps.cells]
                                                    all_goals skip
                                              · try simp at hc5
                                                all_goals
                                                  refine AW_skip ?_
                                                  refine AW_id ?_
                                                  refine AW_x rfl rfl fun K hK => ?_
                                                  simp (disch := omega) [wrap64, List.getElem?_eq_getElem, toNat_pred, e, DtCatalog.cells, DtUps.cells]
                                                  repeat' first | (exfalso; omega) | (refine ⟨fun _ => ?_, fun _ => ?_⟩) | (refine ⟨by omega, ?_⟩) | (intro _)
                                                  all_goals (refine hK _ ?_; clear hK K)
                                                  all_goals
                                                    refine AW_x rfl rfl fun K hK => ?_
                                                    simp (disch := omega) [wrap64, List.getElem?_eq_getElem, toNat_pred, e, DtCatalog.cells, DtUps.cells]
                                                    repeat' first | (exfalso; omega) | (refine ⟨fun _ => ?_, fun _ => ?_⟩) | (refine ⟨by omega, ?_⟩) | (intro _)
                                                    all_goals (refine hK _ ?_; clear hK K)
                                                    all_goals
                                                      refine AW_x rfl rfl fun K hK => ?_
                                                      simp (disch := omega) [wrap64, List.getElem?_eq_getElem, toNat_pred, e, DtCatalog.cells, DtUps.cells]
                                                      repeat' first | (exfalso; omega) | (refine ⟨fun _ => ?_, fun _ => ?_⟩) | (refine ⟨by omega, ?_⟩) | (intro _)
                                                      all_goals (refine hK _ ?_; clear hK K)
                                                      all_goals
                                                        refine AW_seq ?_
                                                        refine AW_x rfl rfl fun K hK => ?_
                                                        simp (disch := omega) [wrap64, List.getElem?_eq_getElem, toNat_pred, e, DtCatalog.cells, DtUps.cells]
                                                        repeat' first | (exfalso; omega) | (refine ⟨fun _ => ?_, fun _ => ?_⟩) | (refine ⟨by omega, ?_⟩) | (intro _)
                                                        all_goals (refine hK _ ?_; clear hK K)
                                                        all_goals
                                                          refine AW_cond rfl (fun hc6 => ?_) (fun hc6 => ?_)
                                                          · try simp at hc6
                                                            all_goals
                                                              refine AW_x rfl rfl fun K hK => ?_
                                                              simp (disch := omega) [wrap64, List.getElem?_eq_getElem, toNat_pred, e, DtCatalog.cells, DtUps.cells]
                                                              repeat' first | (exfalso; omega) | (refine ⟨fun _ => ?_, fun _ => ?_⟩) | (refine ⟨by omega, ?_⟩) | (intro _)
                                                              all_goals (refine hK _ ?_; clear hK K)
                                                              all_goals
                                                                refine AW_ret (end_x [] [] (by simp [List.range_succ, lk_cons, lk_nil, upd_app]) (by simp) ?_)
                                                                simp (disch := omega) [wrap64, List.getElem?_eq_getElem, toNat_pred, e, DtCatalog.cells, DtUps.cells]
                                                                all_goals skip
                                                          · try simp at hc6
                                                            all_goals
                                                              refine AW_skip ?_
                                                              refine AW_id ?_
                                                              refine AW_x rfl rfl fun K hK => ?_
                                                              simp (disch := omega) [wrap64, List.getElem?_eq_getElem, toNat_pred, e, DtCatalog.cells, DtUps.cells]
                                                              repeat' first | (exfalso; omega) | (refine ⟨fun _ => ?_, fun _ => ?_⟩) | (refine ⟨by omega, ?_⟩) | (intro _)
                                                              all_goals (refine hK _ ?_; clear hK K)
                                                              all_goals
                                                                refine AW_x rfl rfl fun K hK => ?_
                                                                simp (disch := omega) [wrap64, List.getElem?_eq_getElem, toNat_pred, e, DtCatalog.cells, DtUps.cells]
                                                                repeat' first | (exfalso; omega) | (refine ⟨fun _ => ?_, fun _ => ?_⟩) | (refine ⟨by omega, ?_⟩) | (intro _)
                                                                all_goals (refine hK _ ?_; clear hK K)
                                                                all_goals
                                                                  refine AW_x rfl rfl fun K hK => ?_
                                                                  simp (disch := omega) [wrap64, List.getElem?_eq_getElem, toNat_pred, e, DtCatalog.cells, DtUps.cells]
                                                                  repeat' first | (exfalso; omega) | (refine ⟨fun _ => ?_, fun _ => ?_⟩) | (refine ⟨by omega, ?_⟩) | (intro _)
                                                                  all_goals (refine hK _ ?_; clear hK K)
                                                                  all_goals
                                                                    refine AW_x rfl rfl fun K hK => ?_
                                                                    simp (disch := omega) [wrap64, List.getElem?_eq_getElem, toNat_pred, e, DtCatalog.cells, DtUps.cells]
                                                                    repeat' first | (exfalso; omega) | (refine ⟨fun _ => ?_, fun _ => ?_⟩) | (refine ⟨by omega, ?_⟩) | (intro _)
                                                                    all_goals (refine hK _ ?_; clear hK K)
                                                                    all_goals
                                                                      refine AW_x rfl rfl fun K hK => ?_
                                                                      simp (disch := omega) [wrap64, List.getElem?_eq_getElem, toNat_pred, e, DtCatalog.cells, DtUps.cells]
                                                                      repeat' first | (exfalso; omega) | (refine ⟨fun _ => ?_, fun _ => ?_⟩) | (refine ⟨by omega, ?_⟩) | (intro _)
                                                                      all_goals (refine hK _ ?_; clear hK K)
                                                                      all_goals
                                                                        refine AW_seq ?_
                                                                        refine AW_x rfl rfl fun K hK => ?_
                                                                        simp (disch := omega) [wrap64, List.getElem?_eq_getElem, toNat_pred, e, DtCatalog.cells, DtUps.cells]
                                                                        repeat' first | (exfalso; omega) | (refine ⟨fun _ => ?_, fun _ => ?_⟩) | (refine ⟨by omega, ?_⟩) | (intro _)
                                                                        all_goals (refine hK _ ?_; clear hK K)
                                                                        all_goals
                                                                          refine AW_cond rfl (fun hc7 => ?_) (fun hc7 => ?_)
                                                                          · try simp at hc7
                                                                            all_goals
                                                                              refine AW_x rfl rfl fun K hK => ?_
                                                                              simp (disch := omega) [wrap64, List.getElem?_eq_getElem, toNat_pred, e, DtCatalog.cells, DtUps.cells]
                                                                              repeat' first | (exfalso; omega) | (refine ⟨fun _ => ?_, fun _ => ?_⟩) | (refine ⟨by omega, ?_⟩) | (intro _)
                                                                              all_goals (refine hK _ ?_; clear hK K)
                                                                              all_goals
                                                                                refine AW_ret (end_x [] [] (by simp [List.range_succ, lk_cons, lk_nil, upd_app]) (by simp) ?_)
                                                                                simp (disch := omega) [wrap64, List.getElem?_eq_getElem, toNat_pred, e, DtCatalog.cells, DtUps.cells]
                                                                                all_goals skip
                                                                          · try simp at hc7
                                                                            all_goals
                                                                              refine AW_skip ?_
                                                                              refine AW_id ?_
                                                                              refine AW_x rfl rfl fun K hK => ?_
                                                                              simp (disch := omega) [wrap64, List.getElem?_eq_getElem, toNat_pred, e, DtCatalog.cells, DtUps.cells]
                                                                              repeat' first | (exfalso; omega) | (refine ⟨fun _ => ?_, fun _ => ?_⟩) | (refine ⟨by omega, ?_⟩) | (intro _)
                                                                              all_goals (refine hK _ ?_; clear hK K)
                                                                              all_goals
                                                                                refine AW_seq ?_
                                                                                refine AW_x rfl rfl fun K hK => ?_
                                                                                simp (disch := omega) [wrap64, List.getElem?_eq_getElem, toNat_pred, e, DtCatalog.cells, DtUps.cells]
                                                                                repeat' first | (exfalso; omega) | (refine ⟨fun _ => ?_, fun _ => ?_⟩) | (refine ⟨by omega, ?_⟩) | (intro _)
                                                                                all_goals (refine hK _ ?_; clear hK K)
                                                                                all_goals
                                                                                  refine AW_cond rfl (fun hc8 => ?_) (fun hc8 => ?_)
                                                                                  · try simp at hc8
                                                                                    all_goals
                                                                                      refine AW_x rfl rfl fun K hK => ?_
                                                                                      simp (disch := omega) [wrap64, List.getElem?_eq_getElem, toNat_pred, e, DtCatalog.cells, DtUps.cells]
                                                                                      repeat' first | (exfalso; omega) | (refine ⟨fun _ => ?_, fun _ => ?_⟩) | (refine ⟨by omega, ?_⟩) | (intro _)
                                                                                      all_goals (refine hK _ ?_; clear hK K)
                                                                                      all_goals
                                                                                        refine AW_ret (end_x [] [] (by simp [List.range_succ, lk_cons, lk_nil, upd_app]) (by simp) ?_)
                                                                                        simp (disch := omega) [wrap64, List.getElem?_eq_getElem, toNat_pred, e, DtCatalog.cells, DtUps.cells]
                                                                                        all_goals skip
                                                                                  · try simp at hc8
                                                                                    all_goals
                                                                                      refine AW_skip ?_
                                                                                      refine AW_id ?_
                                                                                      refine AW_seq ?_
                                                                                      refine AW_x rfl rfl fun K hK => ?_
                                                                                      simp (disch := omega) [wrap64, List.getElem?_eq_getElem, toNat_pred, e, DtCatalog.cells, DtUps.cells]
                                                                                      repeat' first | (exfalso; omega) | (refine ⟨fun _ => ?_, fun _ => ?_⟩) | (refine ⟨by omega, ?_⟩) | (intro _)
                                                                                      all_goals (refine hK _ ?_; clear hK K)
                                                                                      all_goals
                                                                                        refine AW_cond rfl (fun hc9 => ?_) (fun hc9 => ?_)
                                                                                        · try simp at hc9
                                                                                          all_goals
                                                                                            refine AW_x rfl rfl fun K hK => ?_
                                                                                            simp (disch := omega) [wrap64, List.getElem?_eq_getElem, toNat_pred, e, DtCatalog.cells, DtUps.cells]
                                                                                            repeat' first | (exfalso; omega) | (refine ⟨fun _ => ?_, fun _ => ?_⟩) | (refine ⟨by omega, ?_⟩) | (intro _)
                                                                                            all_goals (refine hK _ ?_; clear hK K)
                                                                                            all_goals
                                                                                              refine AW_ret (end_x [] [] (by simp [List.range_succ, lk_cons, lk_nil, upd_app]) (by simp) ?_)
                                                                                              simp (disch := omega) [wrap64, List.getElem?_eq_getElem, toNat_pred, e, DtCatalog.cells, DtUps.cells]
                                                                                              all_goals skip
                                                                                        · try simp at hc9
                                                                                          all_goals
                                                                                            refine AW_skip ?_
                                                                                            refine AW_id ?_
                                                                                            refine AW_d rfl mix (by kernel_rfl) (by kernel_rfl) fun K hK => ?_
                                                                                            simp (disch := omega) [wrap64, List.getElem?_eq_getElem, toNat_pred, e, DtCatalog.cells, DtUps.cells]
                                                                                            repeat' first | (exfalso; omega) | (refine ⟨fun _ => ?_, fun _ => ?_⟩) | (refine ⟨by omega, ?_⟩) | (intro _)
                                                                                            all_goals (refine hK _ _ (by kernel_rfl) ?_; clear hK K)
                                                                                            all_goals
                                                                                              refine AW_seq ?_
                                                                                              refine AW_x rfl rfl fun K hK => ?_
                                                                                              simp (disch := omega) [wrap64, List.getElem?_eq_getElem, toNat_pred, e, DtCatalog.cells, DtUps.cells]
                                                                                              repeat' first | (exfalso; omega) | (refine ⟨fun _ => ?_, fun _ => ?_⟩) | (refine ⟨by omega, ?_⟩) | (intro _)
                                                                                              all_goals (refine hK _ ?_; clear hK K)
                                                                                              all_goals
                                                                                                refine AW_cond rfl (fun hc10 => ?_) (fun hc10 => ?_)
                                                                                                · try simp at hc10
                                                                                                  all_goals
                                                                                                    refine AW_x rfl rfl fun K hK => ?_
                                                                                                    simp (disch := omega) [wrap64, List.getElem?_eq_getElem, toNat_pred, e, DtCatalog.cells, DtUps.cells]
                                                                                                    repeat' first | (exfalso; omega) | (refine ⟨fun _ => ?_, fun _ => ?_⟩) | (refine ⟨by omega, ?_⟩) | (intro _)
                                                                                                    all_goals (refine hK _ ?_; clear hK K)
                                                                                                    all_goals
                                                                                                      refine AW_ret (end_x [] [] (by simp [List.range_succ, lk_cons, lk_nil, upd_app]) (by simp) ?_)
                                                                                                      simp (disch := omega) [wrap64, List.getElem?_eq_getElem, toNat_pred, e, DtCatalog.cells, DtUps.cells]
                                                                                                      all_goals skip
                                                                                                · try simp at hc10
                                                                                                  all_goals
                                                                                                    refine AW_skip ?_
                                                                                                    refine AW_id ?_
                                                                                                    refine AW_x rfl rfl fun K hK => ?_
                                                                                                    simp (disch := omega) [wrap64, List.getElem?_eq_getElem, toNat_pred, e, DtCatalog.cells, DtUps.cells]
                                                                                                    repeat' first | (exfalso; omega) | (refine ⟨fun _ => ?_, fun _ => ?_⟩) | (refine ⟨by omega, ?_⟩) | (intro _)
                                                                                                    all_goals (refine hK _ ?_; clear hK K)
                                                                                                    all_goals
                                                                                                      refine AW_x rfl rfl fun K hK => ?_
                                                                                                      simp (disch := omega) [wrap64, List.getElem?_eq_getElem, toNat_pred, e, DtCatalog.cells, DtUps.cells]
                                                                                                      repeat' first | (exfalso; omega) | (refine ⟨fun _ => ?_, fun _ => ?_⟩) | (refine ⟨by omega, ?_⟩) | (intro _)
                                                                                                      all_goals (refine hK _ ?_; clear hK K)
                                                                                                      all_goals
                                                                                                        refine AW_seq ?_
                                                                                                        refine AW_x rfl rfl fun K hK => ?_
                                                                                                        simp (disch := omega) [wrap64, List.getElem?_eq_getElem, toNat_pred, e, DtCatalog.cells, DtUps.cells]
                                                                                                        repeat' first | (exfalso; omega) | (refine ⟨fun _ => ?_, fun _ => ?_⟩) | (refine ⟨by omega, ?_⟩) | (intro _)
                                                                                                        all_goals (refine hK _ ?_; clear hK K)
                                                                                                        all_goals
                                                                                                          refine AW_cond rfl (fun hc11 => ?_) (fun hc11 => ?_)
                                                                                                          · try simp at hc11
                                                                                                            all_goals
                                                                                                              refine AW_x rfl rfl fun K hK => ?_
                                                                                                              simp (disch := omega) [wrap64, List.getElem?_eq_getElem, toNat_pred, e, DtCatalog.cells, DtUps.cells]
                                                                                                              repeat' first | (exfalso; omega) | (refine ⟨fun _ => ?_, fun _ => ?_⟩) | (refine ⟨by omega, ?_⟩) | (intro _)
                                                                                                              all_goals (refine hK _ ?_; clear hK K)
                                                                                                              all_goals
                                                                                                                refine AW_ret (end_x [] [] (by simp [List.range_succ, lk_cons, lk_nil, upd_app]) (by simp) ?_)
                                                                                                                simp (disch := omega) [wrap64, List.getElem?_eq_getElem, toNat_pred, e, DtCatalog.cells, DtUps.cells]
                                                                                                                all_goals skip
                                                                                                          · try simp at hc11
                                                                                                            all_goals
                                                                                                              refine AW_skip ?_
                                                                                                              refine AW_id ?_
                                                                                                              refine AW_x rfl rfl fun K hK => ?_
                                                                                                              simp (disch := omega) [wrap64, List.getElem?_eq_getElem, toNat_pred, e, DtCatalog.cells, DtUps.cells]
                                                                                                              repeat' first | (exfalso; omega) | (refine ⟨fun _ => ?_, fun _ => ?_⟩) | (refine ⟨by omega, ?_⟩) | (intro _)
                                                                                                              all_goals (refine hK _ ?_; clear hK K)
                                                                                                              all_goals
                                                                                                                refine AW_seq ?_
                                                                                                                refine AW_x rfl rfl fun K hK => ?_
                                                                                                                simp (disch := omega) [wrap64, List.getElem?_eq_getElem, toNat_pred, e, DtCatalog.cells, DtUps.cells]
                                                                                                                repeat' first | (exfalso; omega) | (refine ⟨fun _ => ?_, fun _ => ?_⟩) | (refine ⟨by omega, ?_⟩) | (intro _)
                                                                                                                all_goals (refine hK _ ?_; clear hK K)
                                                                                                                all_goals
                                                                                                                  refine AW_cond rfl (fun hc12 => ?_) (fun hc12 => ?_)
                                                                                                                  · try simp at hc12
                                                                                                                    all_goals
                                                                                                                      refine AW_x rfl rfl fun K hK => ?_
                                                                                                                      simp (disch := omega) [wrap64, List.getElem?_eq_getElem, toNat_pred, e, DtCatalog.cells, DtUps.cells]
                                                                                                                      repeat' first | (exfalso; omega) | (refine ⟨fun _ => ?_, fun _ => ?_⟩) | (refine ⟨by omega, ?_⟩) | (intro _)
                                                                                                                      all_goals (refine hK _ ?_; clear hK K)
                                                                                                                      all_goals
                                                                                                                        refine AW_ret (end_x [] [] (by simp [List.range_succ, lk_cons, lk_nil, upd_app]) (by simp) ?_)
                                                                                                                        simp (disch := omega) [wrap64, List.getElem?_eq_getElem, toNat_pred, e, DtCatalog.cells, DtUps.cells]
                                                                                                                        all_goals skip
                                                                                                                  · try simp at hc12
                                                                                                                    all_goals
                                                                                                                      refine AW_skip ?_
                                                                                                                      refine AW_id ?_
                                                                                                                      refine AW_seq ?_
                                                                                                                      refine AW_x rfl rfl fun K hK => ?_
                                                                                                                      simp (disch := omega) [wrap64, List.getElem?_eq_getElem, toNat_pred, e, DtCatalog.cells, DtUps.cells]
                                                                                                                      repeat' first | (exfalso; omega) | (refine ⟨fun _ => ?_, fun _ => ?_⟩) | (refine ⟨by omega, ?_⟩) | (intro _)
                                                                                                                      all_goals (refine hK _ ?_; clear hK K)
                                                                                                                      all_goals
                                                                                                                        refine AW_cond rfl (fun hc13 => ?_) (fun hc13 => ?_)
                                                                                                                        · try simp at hc13
                                                                                                                          all_goals
                                                                                                                            refine AW_x rfl rfl fun K hK => ?_
                                                                                                                            simp (disch := omega) [wrap64, List.getElem?_eq_getElem, toNat_pred, e, DtCatalog.cells, DtUps.cells]
                                                                                                                            repeat' first | (exfalso; omega) | (refine ⟨fun _ => ?_, fun _ => ?_⟩) | (refine ⟨by omega, ?_⟩) | (intro _)
                                                                                                                            all_goals (refine hK _ ?_; clear hK K)
                                                                                                                            all_goals
                                                                                                                              refine AW_ret (end_x [] [] (by simp [List.range_succ, lk_cons, lk_nil, upd_app]) (by simp) ?_)
                                                                                                                              simp (disch := omega) [wrap64, List.getElem?_eq_getElem, toNat_pred, e, DtCatalog.cells, DtUps.cells]
                                                                                                                              all_goals skip
                                                                                                                        · try simp at hc13
                                                                                                                          all_goals
                                                                                                                            refine AW_skip ?_
                                                                                                                            refine AW_id ?_
                                                                                                                            refine AW_x rfl rfl fun K hK => ?_
                                                                                                                            simp (disch := omega) [wrap64, List.getElem?_eq_getElem, toNat_pred, e, DtCatalog.cells, DtUps.cells]
                                                                                                                            repeat' first | (exfalso; omega) | (refine ⟨fun _ => ?_, fun _ => ?_⟩) | (refine ⟨by omega, ?_⟩) | (intro _)
                                                                                                                            all_goals (refine hK _ ?_; clear hK K)
                                                                                                                            all_goals
                                                                                                                              refine AW_ret (end_x [] [] (by simp [List.range_succ, lk_cons, lk_nil, upd_app]) (by simp) ?_)
                                                                                                                              simp (disch := omega) [wrap64, List.getElem?_eq_getElem, toNat_pred, e, DtCatalog.cells, DtUps.cells]
                                                                                                                              all_goals skip
  · have e : szR 1048576 (DtCatalog.sz c) = 1048576 - DtCatalog.sz c := by unfold szR; rw [if_neg h]
    have e2 : (0 : Int) ≤ 1048576 - DtCatalog.sz c := by omega
    by_cases h' : (1048576 - DtCatalog.sz c) - DtUps.sz u < 0
    · have e3 : szR (1048576 - DtCatalog.sz c) (DtUps.sz u) = -1 := by unfold szR; rw [if_pos h']
      refine xcall_of_walk Try.func6 (by rfl) (by rfl) (by rw [Try.ntmps6]; exact Nat.le_of_ble_eq_true rfl) rfl (by simp) rfl rfl ?_
      rw [Try.ntmps6]
      refine AW_x0   ?_
      refine AW_k [(0, _), (1, _)] ⟨rfl, rfl, trivial⟩ ?_
      refine AW_x rfl rfl fun K hK => ?_
      simp (disch := omega) [wrap64, List.getElem?_eq_getElem, toNat_pred, e, e2, e3, DtCatalog.cells, DtUps.cells]
      repeat' first | (exfalso; omega) | (refine ⟨fun _ => ?_, fun _ => ?_⟩) | (refine ⟨by omega, ?_⟩) | (intro _)
      all_goals (refine hK _ ?_; clear hK K)
      all_goals
        refine AW_x rfl rfl fun K hK => ?_
        simp (disch := omega) [wrap64, List.getElem?_eq_getElem, toNat_pred, e, e2, e3, DtCatalog.cells, DtUps.cells]
        repeat' first | (exfalso; omega) | (refine ⟨fun _ => ?_, fun _ => ?_⟩) | (refine ⟨by omega, ?_⟩) | (intro _)
        all_goals (refine hK _ ?_; clear hK K)
        all_goals
          refine AW_x rfl rfl fun K hK => ?_
          simp (disch := omega) [wrap64, List.getElem?_eq_getElem, toNat_pred, e, e2, e3, DtCatalog.cells, DtUps.cells]
          repeat' first | (exfalso; omega) | (refine XKd_v (am2s_cons (am2_agg rfl) (am2s_cons am2_g am2s_nil)) (szCatalog _ _ (by omega) hw) rfl ?_; simp (disch := omega) [wrap64, List.getElem?_eq_getElem, toNat_pred, e, e2, e3, DtCatalog.cells, DtUps.cells]) | (refine XKd_p (szCatalog _ _ (by omega) hw) (by rfl) ?_ ?_; (focus (simp (disch := omega) [wrap64, List.getElem?_eq_getElem, toNat_pred, e, e2, e3, DtCatalog.cells, DtUps.cells, take_map_n]; done)); simp (disch := omega) [wrap64, List.getElem?_eq_getElem, toNat_pred, e, e2, e3, DtCatalog.cells, DtUps.cells]) | (refine ⟨fun _ => ?_, fun _ => ?_⟩) | (refine ⟨by omega, ?_⟩) | (intro _)
          all_goals (refine hK _ ?_; clear hK K)
          all_goals
            refine AW_seq ?_
            refine AW_x rfl rfl fun K hK => ?_
            simp (disch := omega) [wrap64, List.getElem?_eq_getElem, toNat_pred, e, e2, e3, DtCatalog.cells, DtUps.cells]
            repeat' first | (exfalso; omega) | (refine ⟨fun _ => ?_, fun _ => ?_⟩) | (refine ⟨by omega, ?_⟩) | (intro _)
            all_goals (refine hK _ ?_; clear hK K)
            all_goals
              refine AW_cond rfl (fun hc14 => ?_) (fun hc14 => ?_)
              · try simp at hc14
                all_goals
                  refine AW_x rfl rfl fun K hK => ?_
                  simp (disch := omega) [wrap64, List.getElem?_eq_getElem, toNat_pred, e, e2, e3, DtCatalog.cells, DtUps.cells]
                  repeat' first | (exfalso; omega) | (refine ⟨fun _ => ?_, fun _ => ?_⟩) | (refine ⟨by omega, ?_⟩) | (intro _)
                  all_goals (refine hK _ ?_; clear hK K)
                  all_goals
                    refine AW_ret (end_x [] [] (by simp [List.range_succ, lk_cons, lk_nil, upd_app]) (by simp) ?_)
                    simp (disch := omega) [wrap64, List.getElem?_eq_getElem, toNat_pred, e, e2, e3, DtCatalog.cells, DtUps.cells]
                    all_goals skip
              · try simp at hc14
                all_goals
                  refine AW_skip ?_
                  refine AW_id ?_
                  refine AW_x rfl rfl fun K hK => ?_
                  simp (disch := omega) [wrap64, List.getElem?_eq_getElem, toNat_pred, e, e2, e3, DtCatalog.cells, DtUps.cells]
                  repeat' first | (exfalso; omega) | (refine XKd_v (am2s_cons (am2_agg rfl) (am2s_cons am2_g am2s_nil)) (szUps _ _ (by omega) hv) rfl ?_; simp (disch := omega) [wrap64, List.getElem?_eq_getElem, toNat_pred, e, e2, e3, DtCatalog.cells, DtUps.cells]) | (refine XKd_p (szUps _ _ (by omega) hv) (by rfl) ?_ ?_; (focus (simp (disch := omega) [wrap64, List.getElem?_eq_getElem, toNat_pred, e, e2, e3, DtCatalog.cells, DtUps.cells, take_map_n]; done)); simp (disch := omega) [wrap64, List.getElem?_eq_getElem, toNat_pred, e, e2, e3, DtCatalog.cells, DtUps.cells]) | (refine ⟨fun _ => ?_, fun _ => ?_⟩) | (refine ⟨by omega, ?_⟩) | (intro _)
                  all_goals (refine hK _ ?_; clear hK K)
                  all_goals
                    refine AW_seq ?_
                    refine AW_x rfl rfl fun K hK => ?_
                    simp (disch := omega) [wrap64, List.getElem?_eq_getElem, toNat_pred, e, e2, e3, DtCatalog.cells, DtUps.cells]
                    repeat' first | (exfalso; omega) | (refine ⟨fun _ => ?_, fun _ => ?_⟩) | (refine ⟨by omega, ?_⟩) | (intro _)
                    all_goals (refine hK _ ?_; clear hK K)
                    all_goals
                      refine AW_cond rfl (fun hc15 => ?_) (fun hc15 => ?_)
                      · try simp at hc15
                        all_goals
                          refine AW_x rfl rfl fun K hK => ?_
                          simp (disch := omega) [wrap64, List.getElem?_eq_getElem, toNat_pred, e, e2, e3, DtCatalog.cells, DtUps.cells]
                          repeat' first | (exfalso; omega) | (refine ⟨fun _ => ?_, fun _ => ?_⟩) | (refine ⟨by omega, ?_⟩) | (intro _)
                          all_goals (refine hK _ ?_; clear hK K)
                          all_goals
                            refine AW_ret (end_x [] [] (by simp [List.range_succ, lk_cons, lk_nil, upd_app]) (by simp) ?_)
                            simp (disch := omega) [wrap64, List.getElem?_eq_getElem, toNat_pred, e, e2, e3, DtCatalog.cells, DtUps.cells]
                            all_goals skip
                      · try simp at hc15
                        all_goals
                          refine AW_skip ?_
                          refine AW_id ?_
                          refine AW_d rfl mix (by kernel_rfl) (by kernel_rfl) fun K hK => ?_
                          simp (disch := omega) [wrap64, List.getElem?_eq_getElem, toNat_pred, e, e2, e3, DtCatalog.cells, DtUps.cells]
                          repeat' first | (exfalso; omega) | (refine ⟨fun _ => ?_, fun _ => ?_⟩) | (refine ⟨by omega, ?_⟩) | (intro _)
                          all_goals (refine hK _ _ (by kernel_rfl) ?_; clear hK K)
                          all_goals
                            refine AW_x rfl rfl fun K hK => ?_
                            simp (disch := omega) [wrap64, List.getElem?_eq_getElem, toNat_pred, e, e2, e3, DtCatalog.cells, DtUps.cells]
                            repeat' first | (exfalso; omega) | (refine ⟨fun _ => ?_, fun _ => ?_⟩) | (refine ⟨by omega, ?_⟩) | (intro _)
                            all_goals (refine hK _ ?_; clear hK K)
                            all_goals
                              refine AW_x rfl rfl fun K hK => ?_
                              simp (disch := omega) [wrap64, List.getElem?_eq_getElem, toNat_pred, e, e2, e3, DtCatalog.cells, DtUps.cells]
                              repeat' first | (exfalso; omega) | (refine ⟨fun _ => ?_, fun _ => ?_⟩) | (refine ⟨by omega, ?_⟩) | (intro _)
                              all_goals (refine hK _ ?_; clear hK K)
                              all_goals
                                refine AW_x rfl rfl fun K hK => ?_
                                simp (disch := omega) [wrap64, List.getElem?_eq_getElem, toNat_pred, e, e2, e3, DtCatalog.cells, DtUps.cells]
                                repeat' first | (exfalso; omega) | (refine ⟨fun _ => ?_, fun _ => ?_⟩) | (refine ⟨by omega, ?_⟩) | (intro _)
                                all_goals (refine hK _ ?_; clear hK K)
                                all_goals
                                  refine AW_seq ?_
                                  refine AW_x rfl rfl fun K hK => ?_
                                  simp (disch := omega) [wrap64, List.getElem?_eq_getElem, toNat_pred, e, e2, e3, DtCatalog.cells, DtUps.cells]
                                  repeat' first | (exfalso; omega) | (refine ⟨fun _ => ?_, fun _ => ?_⟩) | (refine ⟨by omega, ?_⟩) | (intro _)
                                  all_goals (refine hK _ ?_; clear hK K)
                                  all_goals
                                    refine AW_cond rfl (fun hc16 => ?_) (fun hc16 => ?_)
                                    · try simp at hc16
                                      all_goals
                                        refine AW_x rfl rfl fun K hK => ?_
                                        simp (disch := omega) [wrap64, List.getElem?_eq_getElem, toNat_pred, e, e2, e3, DtCatalog.cells, DtUps.cells]
                                        repeat' first | (exfalso; omega) | (refine ⟨fun _ => ?_, fun _ => ?_⟩) | (refine ⟨by omega, ?_⟩) | (intro _)
                                        all_goals (refine hK _ ?_; clear hK K)
                                        all_goals
                                          refine AW_ret (end_x [] [] (by simp [List.range_succ, lk_cons, lk_nil, upd_app]) (by simp) ?_)
                                          simp (disch := omega) [wrap64, List.getElem?_eq_getElem, toNat_pred, e, e2, e3, DtCatalog.cells, DtUps.cells]
                                          all_goals skip
                                    · try simp at hc16
                                      all_goals
                                        refine AW_skip ?_
                                        refine AW_id ?_
                                        refine AW_seq ?_
                                        refine AW_d rfl mix (by kernel_rfl) (by kernel_rfl) fun K hK => ?_
                                        simp (disch := omega) [wrap64, List.getElem?_eq_getElem, toNat_pred, e, e2, e3, DtCatalog.cells, DtUps.cells]
                                        repeat' first | (exfalso; omega) | (refine ⟨fun _ => ?_, fun _ => ?_⟩) | (refine ⟨by omega, ?_⟩) | (intro _)
                                        all_goals (refine hK _ _ (by kernel_rfl) ?_; clear hK K)
                                        all_goals
                                          refine AW_cond rfl (fun hc17 => ?_) (fun hc17 => ?_)
                                          · try simp at hc17
                                            all_goals
                                              refine AW_x rfl rfl fun K hK => ?_
                                              simp (disch := omega) [wrap64, List.getElem?_eq_getElem, toNat_pred, e, e2, e3, DtCatalog.cells, DtUps.cells]
                                              repeat' first | (exfalso; omega) | (refine ⟨fun _ => ?_, fun _ => ?_⟩) | (refine ⟨by omega, ?_⟩) | (intro _)
                                              all_goals (refine hK _ ?_; clear hK K)
                                              all_goals
                                                refine AW_ret (end_x [] [] (by simp [List.range_succ, lk_cons, lk_nil, upd_app]) (by simp) ?_)
                                                simp (disch := omega) [wrap64, List.getElem?_eq_getElem, toNat_pred, e, e2, e3, DtCatalog.cells, DtUps.cells]
                                                all_goals skip
                                          · try simp at hc17
                                            all_goals
                                              refine AW_skip ?_
                                              refine AW_id ?_
                                              refine AW_seq ?_
                                              refine AW_d rfl mix (by kernel_rfl) (by kernel_rfl) fun K hK => ?_
                                              simp (disch := omega) [wrap64, List.getElem?_eq_getElem, toNat_pred, e, e2, e3, DtCatalog.cells, DtUps.cells]
                                              repeat' first | (exfalso; omega) | (refine ⟨fun _ => ?_, fun _ => ?_⟩) | (refine ⟨by omega, ?_⟩) | (intro _)
                                              all_goals (refine hK _ _ (by kernel_rfl) ?_; clear hK K)
                                              all_goals
                                                refine AW_cond rfl (fun hc18 => ?_) (fun hc18 => ?_)
                                                · try simp at hc18
                                                  all_goals
                                                    refine AW_x rfl rfl fun K hK => ?_
                                                    simp (disch := omega) [wrap64, List.getElem?_eq_getElem, toNat_pred, e, e2, e3, DtCatalog.cells, DtUps.cells]
                                                    repeat' first | (exfalso; omega) | (refine ⟨fun _ => ?_, fun _ => ?_⟩) | (refine ⟨by omega, ?_⟩) | (intro _)
                                                    all_goals (refine hK _ ?_; clear hK K)
                                                    all_goals
                                                      refine AW_ret (end_x [] [] (by simp [List.range_succ, lk_cons, lk_nil, upd_app]) (by simp) ?_)
                                                      simp (disch := omega) [wrap64, List.getElem?_eq_getElem, toNat_pred, e, e2, e3, DtCatalog.cells, DtUps.cells]
                                                      all_goals skip
                                                · try simp at hc18
                                                  all_goals
                                                    refine AW_skip ?_
                                                    refine AW_id ?_
                                                    refine AW_x rfl rfl fun K hK => ?_
                                                    simp (disch := omega) [wrap64, List.getElem?_eq_getElem, toNat_pred, e, e2, e3, DtCatalog.cells, DtUps.cells]
                                                    repeat' first | (exfalso; omega) | (refine ⟨fun _ => ?_, fun _ => ?_⟩) | (refine ⟨by omega, ?_⟩) | (intro _)
                                                    all_goals (refine hK _ ?_; clear hK K)
                                                    all_goals
                                                      refine AW_x rfl rfl fun K hK => ?_
                                                      simp (disch := omega) [wrap64, List.getElem?_eq_getElem, toNat_pred, e, e2, e3, DtCatalog.cells, DtUps.cells]
                                                      repeat' first | (exfalso; omega) | (refine ⟨fun _ => ?_, fun _ => ?_⟩) | (refine ⟨by omega, ?_⟩) | (intro _)
                                                      all_goals (refine hK _ ?_; clear hK K)
                                                      all_goals
                                                        refine AW_x rfl rfl fun K hK => ?_
                                                        simp (disch := omega) [wrap64, List.getElem?_eq_getElem, toNat_pred, e, e2, e3, DtCatalog.cells, DtUps.cells]
                                                        repeat' first | (exfalso; omega) | (refine ⟨fun _ => ?_, fun _ => ?_⟩) | (refine ⟨by omega, ?_⟩) | (intro _)
                                                        all_goals (refine hK _ ?_; clear hK K)
                                                        all_goals
                                                          refine AW_seq ?_
                                                          refine AW_x rfl rfl fun K hK => ?_
                                                          simp (disch := omega) [wrap64, List.getElem?_eq_getElem, toNat_pred, e, e2, e3, DtCatalog.cells, DtUps.cells]
                                                          repeat' first | (exfalso; omega) | (refine ⟨fun _ => ?_, fun _ => ?_⟩) | (refine ⟨by omega, ?_⟩) | (intro _)
                                                          all_goals (refine hK _ ?_; clear hK K)
                                                          all_goals
                                                            refine AW_cond rfl (fun hc19 => ?_) (fun hc19 => ?_)
                                                            · try simp at hc19
                                                              all_goals
                                                                refine AW_x rfl rfl fun K hK => ?_
                                                                simp (disch := omega) [wrap64, List.getElem?_eq_getElem, toNat_pred, e, e2, e3, DtCatalog.cells, DtUps.cells]
                                                                repeat' first | (exfalso; omega) | (refine ⟨fun _ => ?_, fun _ => ?_⟩) | (refine ⟨by omega, ?_⟩) | (intro _)
                                                                all_goals (refine hK _ ?_; clear hK K)
                                                                all_goals
                                                                  refine AW_ret (end_x [] [] (by simp [List.range_succ, lk_cons, lk_nil, upd_app]) (by simp) ?_)
                                                                  simp (disch := omega) [wrap64, List.getElem?_eq_getElem, toNat_pred, e, e2, e3, DtCatalog.cells, DtUps.cells]
                                                                  all_goals skip
                                                            · try simp at hc19
                                                              all_goals
                                                                refine AW_skip ?_
                                                                refine AW_id ?_
                                                                refine AW_x rfl rfl fun K hK => ?_
                                                                simp (disch := omega) [wrap64, List.getElem?_eq_getElem, toNat_pred, e, e2, e3, DtCatalog.cells, DtUps.cells]
                                                                repeat' first | (exfalso; omega) | (refine ⟨fun _ => ?_, fun _ => ?_⟩) | (refine ⟨by omega, ?_⟩) | (intro _)
                                                                all_goals (refine hK _ ?_; clear hK K)
                                                                all_goals
                                                                  refine AW_x rfl rfl fun K hK => ?_
                                                                  simp (disch := omega) [wrap64, List.getElem?_eq_getElem, toNat_pred, e, e2, e3, DtCatalog.cells, DtUps.cells]
                                                                  repeat' first | (exfalso; omega) | (refine ⟨fun _ => ?_, fun _ => ?_⟩) | (refine ⟨by omega, ?_⟩) | (intro _)
                                                                  all_goals (refine hK _ ?_; clear hK K)
                                                                  all_goals
                                                                    refine AW_x rfl rfl fun K hK => ?_
                                                                    simp (disch := omega) [wrap64, List.getElem?_eq_getElem, toNat_pred, e, e2, e3, DtCatalog.cells, DtUps.cells]
                                                                    repeat' first | (exfalso; omega) | (refine ⟨fun _ => ?_, fun _ => ?_⟩) | (refine ⟨by omega, ?_⟩) | (intro _)
                                                                    all_goals (refine hK _ ?_; clear hK K)
                                                                    all_goals
                                                                      refine AW_x rfl rfl fun K hK => ?_
                                                                      simp (disch := omega) [wrap64, List.getElem?_eq_getElem, toNat_pred, e, e2, e3, DtCatalog.cells, DtUps.cells]
                                                                      repeat' first | (exfalso; omega) | (refine ⟨fun _ => ?_, fun _ => ?_⟩) | (refine ⟨by omega, ?_⟩) | (intro _)
                                                                      all_goals (refine hK _ ?_; clear hK K)
                                                                      all_goals
                                                                        refine AW_x rfl rfl fun K hK => ?_
                                                                        simp (disch := omega) [wrap64, List.getElem?_eq_getElem, toNat_pred, e, e2, e3, DtCatalog.cells, DtUps.cells]
                                                                        repeat' first | (exfalso; omega) | (refine ⟨fun _ => ?_, fun _ => ?_⟩) | (refine ⟨by omega, ?_⟩) | (intro _)
                                                                        all_goals (refine hK _ ?_; clear hK K)
                                                                        all_goals
                                                                          refine AW_seq ?_
                                                                          refine AW_x rfl rfl fun K hK => ?_
                                                                          simp (disch := omega) [wrap64, List.getElem?_eq_getElem, toNat_pred, e, e2, e3, DtCatalog.cells, DtUps.cells]
                                                                          repeat' first | (exfalso; omega) | (refine ⟨fun _ => ?_, fun _ => ?_⟩) | (refine ⟨by omega, ?_⟩) | (intro _)
                                                                          all_goals (refine hK _ ?_; clear hK K)
                                                                          all_goals
                                                                            refine AW_cond rfl (fun hc20 => ?_) (fun hc20 => ?_)
                                                                            · try simp at hc20
                                                                              all_goals
                                                                                refine AW_x rfl rfl fun K hK => ?_
                                                                                simp (disch := omega) [wrap64, List.getElem?_eq_getElem, toNat_pred, e, e2, e3, DtCatalog.cells, DtUps.cells]
                                                                                repeat' first | (exfalso; omega) | (refine ⟨fun _ => ?_, fun _ => ?_⟩) | (refine ⟨by omega, ?_⟩) | (intro _)
                                                                                all_goals (refine hK _ ?_; clear hK K)
                                                                                all_goals
                                                                                  refine AW_ret (end_x [] [] (by simp [List.range_succ, lk_cons, lk_nil, upd_app]) (by simp) ?_)
                                                                                  simp (disch := omega) [wrap64, List.getElem?_eq_getElem, toNat_pred, e, e2, e3, DtCatalog.cells, DtUps.cells]
                                                                                  all_goals skip
                                                                            · try simp at hc20
                                                                              all_goals
                                                                                refine AW_skip ?_
                                                                                refine AW_id ?_
                                                                                refine AW_x rfl rfl fun K hK => ?_
                                                                                simp (disch := omega) [wrap64, List.getElem?_eq_getElem, toNat_pred, e, e2, e3, DtCatalog.cells, DtUps.cells]
                                                                                repeat' first | (exfalso; omega) | (refine ⟨fun _ => ?_, fun _ => ?_⟩) | (refine ⟨by omega, ?_⟩) | (intro _)
                                                                                all_goals (refine hK _ ?_; clear hK K)
                                                                                all_goals
                                                                                  refine AW_seq ?_
                                                                                  refine AW_x rfl rfl fun K hK => ?_
                                                                                  simp (disch := omega) [wrap64, List.getElem?_eq_getElem, toNat_pred, e, e2, e3, DtCatalog.cells, DtUps.cells]
                                                                                  repeat' first | (exfalso; omega) | (refine ⟨fun _ => ?_, fun _ => ?_⟩) | (refine ⟨by omega, ?_⟩) | (intro _)
                                                                                  all_goals (refine hK _ ?_; clear hK K)
                                                                                  all_goals
                                                                                    refine AW_cond rfl (fun hc21 => ?_) (fun hc21 => ?_)
                                                                                    · try simp at hc21
                                                                                      all_goals
                                                                                        refine AW_x rfl rfl fun K hK => ?_
                                                                                        simp (disch := omega) [wrap64, List.getElem?_eq_getElem, toNat_pred, e, e2, e3, DtCatalog.cells, DtUps.cells]
                                                                                        repeat' first | (exfalso; omega) | (refine ⟨fun _ => ?_, fun _ => ?_⟩) | (refine ⟨by omega, ?_⟩) | (intro _)
                                                                                        all_goals (refine hK _ ?_; clear hK K)
                                                                                        all_goals
                                                                                          refine AW_ret (end_x [] [] (by simp [List.range_succ, lk_cons, lk_nil, upd_app]) (by simp) ?_)
                                                                                          simp (disch := omega) [wrap64, List.getElem?_eq_getElem, toNat_pred, e, e2, e3, DtCatalog.cells, DtUps.cells]
                                                                                          all_goals skip
                                                                                    · try simp at hc21
                                                                                      all_goals
                                                                                        refine AW_skip ?_
                                                                                        refine AW_id ?_
                                                                                        refine AW_seq ?_
                                                                                        refine AW_x rfl rfl fun K hK => ?_
                                                                                        simp (disch := omega) [wrap64, List.getElem?_eq_getElem, toNat_pred, e, e2, e3, DtCatalog.cells, DtUps.cells]
                                                                                        repeat' first | (exfalso; omega) | (refine ⟨fun _ => ?_, fun _ => ?_⟩) | (refine ⟨by omega, ?_⟩) | (intro _)
                                                                                        all_goals (refine hK _ ?_; clear hK K)
                                                                                        all_goals
                                                                                          refine AW_cond rfl (fun hc22 => ?_) (fun hc22 => ?_)
                                                                                          · try simp at hc22
                                                                                            all_goals
                                                                                              refine AW_x rfl rfl fun K hK => ?_
                                                                                              simp (disch := omega) [wrap64, List.getElem?_eq_getElem, toNat_pred, e, e2, e3, DtCatalog.cells, DtUps.cells]
                                                                                              repeat' first | (exfalso; omega) | (refine ⟨fun _ => ?_, fun _ => ?_⟩) | (refine ⟨by omega, ?_⟩) | (intro _)
                                                                                              all_goals (refine hK _ ?_; clear hK K)
                                                                                              all_goals
                                                                                                refine AW_ret (end_x [] [] (by simp [List.range_succ, lk_cons, lk_nil, upd_app]) (by simp) ?_)
                                                                                                simp (disch := omega) [wrap64, List.getElem?_eq_getElem, toNat_pred, e, e2, e3, DtCatalog.cells, DtUps.cells]
                                                                                                all_goals skip
                                                                                          · try simp at hc22
                                                                                            all_goals
                                                                                              refine AW_skip ?_
                                                                                              refine AW_id ?_
                                                                                              refine AW_d rfl mix (by kernel_rfl) (by kernel_rfl) fun K hK => ?_
                                                                                              simp (disch := omega) [wrap64, List.getElem?_eq_getElem, toNat_pred, e, e2, e3, DtCatalog.cells, DtUps.cells]
                                                                                              repeat' first | (exfalso; omega) | (refine ⟨fun _ => ?_, fun _ => ?_⟩) | (refine ⟨by omega, ?_⟩) | (intro _)
                                                                                              all_goals (refine hK _ _ (by kernel_rfl) ?_; clear hK K)
                                                                                              all_goals
                                                                                                refine AW_seq ?_
                                                                                                refine AW_x rfl rfl fun K hK => ?_
                                                                                                simp (disch := omega) [wrap64, List.getElem?_eq_getElem, toNat_pred, e, e2, e3, DtCatalog.cells, DtUps.cells]
                                                                                                repeat' first | (exfalso; omega) | (refine ⟨fun _ => ?_, fun _ => ?_⟩) | (refine ⟨by omega, ?_⟩) | (intro _)
                                                                                                all_goals (refine hK _ ?_; clear hK K)
                                                                                                all_goals
                                                                                                  refine AW_cond rfl (fun hc23 => ?_) (fun hc23 => ?_)
                                                                                                  · try simp at hc23
                                                                                                    all_goals
                                                                                                      refine AW_x rfl rfl fun K hK => ?_
                                                                                                      simp (disch := omega) [wrap64, List.getElem?_eq_getElem, toNat_pred, e, e2, e3, DtCatalog.cells, DtUps.cells]
                                                                                                      repeat' first | (exfalso; omega) | (refine ⟨fun _ => ?_, fun _ => ?_⟩) | (refine ⟨by omega, ?_⟩) | (intro _)
                                                                                                      all_goals (refine hK _ ?_; clear hK K)
                                                                                                      all_goals
                                                                                                        refine AW_ret (end_x [] [] (by simp [List.range_succ, lk_cons, lk_nil, upd_app]) (by simp) ?_)
                                                                                                        simp (disch := omega) [wrap64, List.getElem?_eq_getElem, toNat_pred, e, e2, e3, DtCatalog.cells, DtUps.cells]
                                                                                                        all_goals skip
                                                                                                  · try simp at hc23
                                                                                                    all_goals
                                                                                                      refine AW_skip ?_
                                                                                                      refine AW_id ?_
                                                                                                      refine AW_x rfl rfl fun K hK => ?_
                                                                                                      simp (disch := omega) [wrap64, List.getElem?_eq_getElem, toNat_pred, e, e2, e3, DtCatalog.cells, DtUps.cells]
                                                                                                      repeat' first | (exfalso; omega) | (refine ⟨fun _ => ?_, fun _ => ?_⟩) | (refine ⟨by omega, ?_⟩) | (intro _)
                                                                                                      all_goals (refine hK _ ?_; clear hK K)
                                                                                                      all_goals
                                                                                                        refine AW_x rfl rfl fun K hK => ?_
                                                                                                        simp (disch := omega) [wrap64, List.getElem?_eq_getElem, toNat_pred, e, e2, e3, DtCatalog.cells, DtUps.cells]
                                                                                                        repeat' first | (exfalso; omega) | (refine ⟨fun _ => ?_, fun _ => ?_⟩) | (refine ⟨by omega, ?_⟩) | (intro _)
                                                                                                        all_goals (refine hK _ ?_; clear hK K)
                                                                                                        all_goals
                                                                                                          refine AW_seq ?_
                                                                                                          refine AW_x rfl rfl fun K hK => ?_
                                                                                                          simp (disch := omega) [wrap64, List.getElem?_eq_getElem, toNat_pred, e, e2, e3, DtCatalog.cells, DtUps.cells]
                                                                                                          repeat' first | (exfalso; omega) | (refine ⟨fun _ => ?_, fun _ => ?_⟩) | (refine ⟨by omega, ?_⟩) | (intro _)
                                                                                                          all_goals (refine hK _ ?_; clear hK K)
                                                                                                          all_goals
                                                                                                            refine AW_cond rfl (fun hc24 => ?_) (fun hc24 => ?_)
                                                                                                            · try simp at hc24
                                                                                                              all_goals
                                                                                                                refine AW_x rfl rfl fun K hK => ?_
                                                                                                                simp (disch := omega) [wrap64, List.getElem?_eq_getElem, toNat_pred, e, e2, e3, DtCatalog.cells, DtUps.cells]
                                                                                                                repeat' first | (exfalso; omega) | (refine ⟨fun _ => ?_, fun _ => ?_⟩) | (refine ⟨by omega, ?_⟩) | (intro _)
                                                                                                                all_goals (refine hK _ ?_; clear hK K)
                                                                                                                all_goals
                                                                                                                  refine AW_ret (end_x [] [] (by simp [List.range_succ, lk_cons, lk_nil, upd_app]) (by simp) ?_)
                                                                                                                  simp (disch := omega) [wrap64, List.getElem?_eq_getElem, toNat_pred, e, e2, e3, DtCatalog.cells, DtUps.cells]
                                                                                                                  all_goals skip
                                                                                                            · try simp at hc24
                                                                                                              all_goals
                                                                                                                refine AW_skip ?_
                                                                                                                refine AW_id ?_
                                                                                                                refine AW_x rfl rfl fun K hK => ?_
                                                                                                                simp (disch := omega) [wrap64, List.getElem?_eq_getElem, toNat_pred, e, e2, e3, DtCatalog.cells, DtUps.cells]
                                                                                                                repeat' first | (exfalso; omega) | (refine ⟨fun _ => ?_, fun _ => ?_⟩) | (refine ⟨by omega, ?_⟩) | (intro _)
                                                                                                                all_goals (refine hK _ ?_; clear hK K)
                                                                                                                all_goals
                                                                                                                  refine AW_seq ?_
                                                                                                                  refine AW_x rfl rfl fun K hK => ?_
                                                                                                                  simp (disch := omega) [wrap64, List.getElem?_eq_getElem, toNat_pred, e, e2, e3, DtCatalog.cells, DtUps.cells]
                                                                                                                  repeat' first | (exfalso; omega) | (refine ⟨fun _ => ?_, fun _ => ?_⟩) | (refine ⟨by omega, ?_⟩) | (intro _)
                                                                                                                  all_goals (refine hK _ ?_; clear hK K)
                                                                                                                  all_goals
                                                                                                                    refine AW_cond rfl (fun hc25 => ?_) (fun hc25 => ?_)
                                                                                                                    · try simp at hc25
                                                                                                                      all_goals
                                                                                                                        refine AW_x rfl rfl fun K hK => ?_
                                                                                                                        simp (disch := omega) [wrap64, List.getElem?_eq_getElem, toNat_pred, e, e2, e3, DtCatalog.cells, DtUps.cells]
                                                                                                                        repeat' first | (exfalso; omega) | (refine ⟨fun _ => ?_, fun _ => ?_⟩) | (refine ⟨by omega, ?_⟩) | (intro _)
                                                                                                                        all_goals (refine hK _ ?_; clear hK K)
                                                                                                                        all_goals
                                                                                                                          refine AW_ret (end_x [] [] (by simp [List.range_succ, lk_cons, lk_nil, upd_app]) (by simp) ?_)
                                                                                                                          simp (disch := omega) [wrap64, List.getElem?_eq_getElem, toNat_pred, e, e2, e3, DtCatalog.cells, DtUps.cells]
                                                                                                                          all_goals skip
                                                                                                                    · try simp at hc25
                                                                                                                      all_goals
                                                                                                                        refine AW_skip ?_
                                                                                                                        refine AW_id ?_
                                                                                                                        refine AW_seq ?_
                                                                                                                        refine AW_x rfl rfl fun K hK => ?_
                                                                                                                        simp (disch := omega) [wrap64, List.getElem?_eq_getElem, toNat_pred, e, e2, e3, DtCatalog.cells, DtUps.cells]
                                                                                                                        repeat' first | (exfalso; omega) | (refine ⟨fun _ => ?_, fun _ => ?_⟩) | (refine ⟨by omega, ?_⟩) | (intro _)
                                                                                                                        all_goals (refine hK _ ?_; clear hK K)
                                                                                                                        all_goals
                                                                                                                          refine AW_cond rfl (fun hc26 => ?_) (fun hc26 => ?_)
                                                                                                                          · try simp at hc26
                                                                                                                            all_goals
                                                                                                                              refine AW_x rfl rfl fun K hK => ?_
                                                                                                                              simp (disch := omega) [wrap64, List.getElem?_eq_getElem, toNat_pred, e, e2, e3, DtCatalog.cells, DtUps.cells]
                                                                                                                              repeat' first | (exfalso; omega) | (refine ⟨fun _ => ?_, fun _ => ?_⟩) | (refine ⟨by omega, ?_⟩) | (intro _)
                                                                                                                              all_goals (refine hK _ ?_; clear hK K)
                                                                                                                              all_goals
                                                                                                                                refine AW_ret (end_x [] [] (by simp [List.range_succ, lk_cons, lk_nil, upd_app]) (by simp) ?_)
                                                                                                                                simp (disch := omega) [wrap64, List.getElem?_eq_getElem, toNat_pred, e, e2, e3, DtCatalog.cells, DtUps.cells]
                                                                                                                                all_goals skip
                                                                                                                          · try simp at hc26
                                                                                                                            all_goals
                                                                                                                              refine AW_skip ?_
                                                                                                                              refine AW_id ?_
                                                                                                                              refine AW_x rfl rfl fun K hK => ?_
                                                                                                                              simp (disch := omega) [wrap64, List.getElem?_eq_getElem, toNat_pred, e, e2, e3, DtCatalog.cells, DtUps.cells]
                                                                                                                              repeat' first | (exfalso; omega) | (refine ⟨fun _ => ?_, fun _ => ?_⟩) | (refine ⟨by omega, ?_⟩) | (intro _)
                                                                                                                              all_goals (refine hK _ ?_; clear hK K)
                                                                                                                              all_goals
                                                                                                                                refine AW_ret (end_x [] [] (by simp [List.range_succ, lk_cons, lk_nil, upd_app]) (by simp) ?_)
                                                                                                                                simp (disch := omega) [wrap64, List.getElem?_eq_getElem, toNat_pred, e, e2, e3, DtCatalog.cells, DtUps.cells]
                                                                                                                                all_goals skip
    · have e3 : szR (1048576 - DtCatalog.sz c) (DtUps.sz u) = 1048576 - DtCatalog.sz c - DtUps.sz u := by unfold szR; rw [if_neg h']
      have e4 : (0 : Int) ≤ 1048576 - DtCatalog.sz c - DtUps.sz u := by omega
      have hkl := swpG_len c u
      have hns := swpU_sz c u (by omega)
      have hcv := cntCatalog_sz c
      have hcn := cvCatalog_nn c
      have hcc : cvCatalog c = cntCatalog c := rfl
      have hcv2 := cntUps_sz u
      have hcn2 := cvUps_nn u
      have hcc2 : cvUps u + 1 = cntUps u := by unfold cvUps cntUps; omega
      have hcv3 := cntUps_sz (swpU c u)
      have hcn3 := cvUps_nn (swpU c u)
      have hcc3 : cvUps (swpU c u) + 1 = cntUps (swpU c u) := by unfold cvUps cntUps; omega
      have hml : (mkS mkUp cntUp 1 (swpU c u).fList).length = (swpU c u).fList.length := mkS_len _ _ _ _
      have e5 : 1 + cvCatalog c + cvUps u < 0 ↔ False := by simp; omega
      have e6 : 1 + cvUps (swpU c u) + ((swpG c u).length : Nat) < 0 ↔ False := by simp; omega
      have e7 : 1 + cvUps (swpU c u) < 0 ↔ False := by simp; omega
      refine xcall_of_walk Try.func6 (by rfl) (by rfl) (by rw [Try.ntmps6]; exact Nat.le_of_ble_eq_true rfl) rfl (by simp) rfl rfl ?_
      rw [Try.ntmps6]
      refine AW_x0   ?_
      refine AW_k [(0, _), (1, _)] ⟨rfl, rfl, trivial⟩ ?_
      refine AW_x rfl rfl fun K hK => ?_
      simp (disch := omega) [wrap64, List.getElem?_eq_getElem, toNat_pred, List.range_succ, e, e2, e3, e4, e5, e6, e7, eqB_self, mkL_len, take_mkL, DtCatalog.cells, DtUps.cells, mvUps, hml]
      repeat' first | (exfalso; omega) | (refine ⟨fun _ => ?_, fun _ => ?_⟩) | (refine ⟨by omega, ?_⟩) | (intro _)
      all_goals (refine hK _ ?_; clear hK K)
      all_goals
        refine AW_x rfl rfl fun K hK => ?_
        simp (disch := omega) [wrap64, List.getElem?_eq_getElem, toNat_pred, List.range_succ, e, e2, e3, e4, e5, e6, e7, eqB_self, mkL_len, take_mkL, DtCatalog.cells, DtUps.cells, mvUps, hml]
        repeat' first | (exfalso; omega) | (refine ⟨fun _ => ?_, fun _ => ?_⟩) | (refine ⟨by omega, ?_⟩) | (intro _)
        all_goals (refine hK _ ?_; clear hK K)
        all_goals
          refine AW_x rfl rfl fun K hK => ?_
          simp (disch := omega) [wrap64, List.getElem?_eq_getElem, toNat_pred, List.range_succ, e, e2, e3, e4, e5, e6, e7, eqB_self, mkL_len, take_mkL, DtCatalog.cells, DtUps.cells, mvUps, hml]
          repeat' first | (exfalso; omega) | (refine XKd_v (am2s_cons (am2_agg rfl) (am2s_cons am2_g am2s_nil)) (szCatalog _ _ (by omega) hw) rfl ?_; simp (disch := omega) [wrap64, List.getElem?_eq_getElem, toNat_pred, List.range_succ, e, e2, e3, e4, e5, e6, e7, eqB_self, mkL_len, take_mkL, DtCatalog.cells, DtUps.cells, mvUps, hml]) | (refine XKd_p (szCatalog _ _ (by omega) hw) (by rfl) ?_ ?_; (focus (simp (disch := omega) [wrap64, List.getElem?_eq_getElem, toNat_pred, List.range_succ, e, e2, e3, e4, e5, e6, e7, eqB_self, mkL_len, take_mkL, DtCatalog.cells, DtUps.cells, mvUps, hml, take_map_n]; done)); simp (disch := omega) [wrap64, List.getElem?_eq_getElem, toNat_pred, List.range_succ, e, e2, e3, e4, e5, e6, e7, eqB_self, mkL_len, take_mkL, DtCatalog.cells, DtUps.cells, mvUps, hml]) | (refine ⟨fun _ => ?_, fun _ => ?_⟩) | (refine ⟨by omega, ?_⟩) | (intro _)
          all_goals (refine hK _ ?_; clear hK K)
          all_goals
            refine AW_seq ?_
            refine AW_x rfl rfl fun K hK => ?_
            simp (disch := omega) [wrap64, List.getElem?_eq_getElem, toNat_pred, List.range_succ, e, e2, e3, e4, e5, e6, e7, eqB_self, mkL_len, take_mkL, DtCatalog.cells, DtUps.cells, mvUps, hml]
            repeat' first | (exfalso; omega) | (refine ⟨fun _ => ?_, fun _ => ?_⟩) | (refine ⟨by omega, ?_⟩) | (intro _)
            all_goals (refine hK _ ?_; clear hK K)
            all_goals
              refine AW_cond rfl (fun hc27 => ?_) (fun hc27 => ?_)
              · try simp at hc27
                all_goals
                  refine AW_x rfl rfl fun K hK => ?_
                  simp (disch := omega) [wrap64, List.getElem?_eq_getElem, toNat_pred, List.range_succ, e, e2, e3, e4, e5, e6, e7, eqB_self, mkL_len, take_mkL, DtCatalog.cells, DtUps.cells, mvUps, hml]
                  repeat' first | (exfalso; omega) | (refine ⟨fun _ => ?_, fun _ => ?_⟩) | (refine ⟨by omega, ?_⟩) | (intro _)
                  all_goals (refine hK _ ?_; clear hK K)
                  all_goals
                    refine AW_ret (end_x [] [] (by simp [List.range_succ, lk_cons, lk_nil, upd_app]) (by simp) ?_)
                    simp (disch := omega) [wrap64, List.getElem?_eq_getElem, toNat_pred, List.range_succ, e, e2, e3, e4, e5, e6, e7, eqB_self, mkL_len, take_mkL, DtCatalog.cells, DtUps.cells, mvUps, hml]
                    all_goals skip
              · try simp at hc27
                all_goals
                  refine AW_skip ?_
                  refine AW_id ?_
                  refine AW_trim [2, 3, 4, 5] ?_
                  simp only [List.map_cons, List.map_nil, upd_app, lkE_app, lk_cons, lk_nil, Nat.reduceBEq, cond_true, cond_false, Bool.cond_true, Bool.cond_false, Option.getD_some, Option.getD_none]
                  refine AW_x rfl rfl fun K hK => ?_
                  simp (disch := omega) [wrap64, List.getElem?_eq_getElem, toNat_pred, List.range_succ, e, e2, e3, e4, e5, e6, e7, eqB_self, mkL_len, take_mkL, DtCatalog.cells, DtUps.cells, mvUps, hml]
                  repeat' first | (exfalso; omega) | (refine XKd_v (am2s_cons (am2_agg rfl) (am2s_cons am2_g am2s_nil)) (szUps _ _ (by omega) hv) rfl ?_; simp (disch := omega) [wrap64, List.getElem?_eq_getElem, toNat_pred, List.range_succ, e, e2, e3, e4, e5, e6, e7, eqB_self, mkL_len, take_mkL, DtCatalog.cells, DtUps.cells, mvUps, hml]) | (refine XKd_p (szUps _ _ (by omega) hv) (by rfl) ?_ ?_; (focus (simp (disch := omega) [wrap64, List.getElem?_eq_getElem, toNat_pred, List.range_succ, e, e2, e3, e4, e5, e6, e7, eqB_self, mkL_len, take_mkL, DtCatalog.cells, DtUps.cells, mvUps, hml, take_map_n]; done)); simp (disch := omega) [wrap64, List.getElem?_eq_getElem, toNat_pred, List.range_succ, e, e2, e3, e4, e5, e6, e7, eqB_self, mkL_len, take_mkL, DtCatalog.cells, DtUps.cells, mvUps, hml]) | (refine ⟨fun _ => ?_, fun _ => ?_⟩) | (refine ⟨by omega, ?_⟩) | (intro _)
                  all_goals (refine hK _ ?_; clear hK K)
                  all_goals
                    refine AW_seq ?_
                    refine AW_x rfl rfl fun K hK => ?_
                    simp (disch := omega) [wrap64, List.getElem?_eq_getElem, toNat_pred, List.range_succ, e, e2, e3, e4, e5, e6, e7, eqB_self, mkL_len, take_mkL, DtCatalog.cells, DtUps.cells, mvUps, hml]
                    repeat' first | (exfalso; omega) | (refine ⟨fun _ => ?_, fun _ => ?_⟩) | (refine ⟨by omega, ?_⟩) | (intro _)
                    all_goals (refine hK _ ?_; clear hK K)
                    all_goals
                      refine AW_cond rfl (fun hc28 => ?_) (fun hc28 => ?_)
                      · try simp at hc28
                        all_goals
                          refine AW_x rfl rfl fun K hK => ?_
                          simp (disch := omega) [wrap64, List.getElem?_eq_getElem, toNat_pred, List.range_succ, e, e2, e3, e4, e5, e6, e7, eqB_self, mkL_len, take_mkL, DtCatalog.cells, DtUps.cells, mvUps, hml]
                          repeat' first | (exfalso; omega) | (refine ⟨fun _ => ?_, fun _ => ?_⟩) | (refine ⟨by omega, ?_⟩) | (intro _)
                          all_goals (refine hK _ ?_; clear hK K)
                          all_goals
                            refine AW_ret (end_x [] [] (by simp [List.range_succ, lk_cons, lk_nil, upd_app]) (by simp) ?_)
                            simp (disch := omega) [wrap64, List.getElem?_eq_getElem, toNat_pred, List.range_succ, e, e2, e3, e4, e5, e6, e7, eqB_self, mkL_len, take_mkL, DtCatalog.cells, DtUps.cells, mvUps, hml]
                            all_goals skip
                      · try simp at hc28
                        all_goals
                          refine AW_skip ?_
                          refine AW_id ?_
                          refine AW_d rfl mix (by kernel_rfl) (by kernel_rfl) fun K hK => ?_
                          simp (disch := omega) [wrap64, List.getElem?_eq_getElem, toNat_pred, List.range_succ, e, e2, e3, e4, e5, e6, e7, eqB_self, mkL_len, take_mkL, DtCatalog.cells, DtUps.cells, mvUps, hml]
                          repeat' first | (exfalso; omega) | (refine DKd_y [] true [] (toCatalogX c (by omega)) ?_ (fun st' hst => ?_) ?_; (focus (simp [List.range_succ, nmC]; done)); (focus (simp (disch := omega) [wrap64, List.getElem?_eq_getElem, toNat_pred, List.range_succ, e, e2, e3, e4, e5, e6, e7, eqB_self, mkL_len, take_mkL, DtCatalog.cells, DtUps.cells, mvUps, hml, nmC, List.range_succ] at hst; simp (disch := omega) [wrap64, List.getElem?_eq_getElem, toNat_pred, List.range_succ, e, e2, e3, e4, e5, e6, e7, eqB_self, mkL_len, take_mkL, DtCatalog.cells, DtUps.cells, mvUps, hml, hst, take_map_n, nmC, List.range_succ]; done)); simp (disch := omega) [wrap64, List.getElem?_eq_getElem, toNat_pred, List.range_succ, e, e2, e3, e4, e5, e6, e7, eqB_self, mkL_len, take_mkL, DtCatalog.cells, DtUps.cells, mvUps, hml]) | (refine DKd_y [] true [] (toUpsX u (by omega)) ?_ (fun st' hst => ?_) ?_; (focus (simp [List.range_succ, nmC]; done)); (focus (simp (disch := omega) [wrap64, List.getElem?_eq_getElem, toNat_pred, List.range_succ, e, e2, e3, e4, e5, e6, e7, eqB_self, mkL_len, take_mkL, DtCatalog.cells, DtUps.cells, mvUps, hml, nmC, List.range_succ] at hst; simp (disch := omega) [wrap64, List.getElem?_eq_getElem, toNat_pred, List.range_succ, e, e2, e3, e4, e5, e6, e7, eqB_self, mkL_len, take_mkL, DtCatalog.cells, DtUps.cells, mvUps, hml, hst, take_map_n, nmC, List.range_succ]; done)); simp (disch := omega) [wrap64, List.getElem?_eq_getElem, toNat_pred, List.range_succ, e, e2, e3, e4, e5, e6, e7, eqB_self, mkL_len, take_mkL, DtCatalog.cells, DtUps.cells, mvUps, hml]) | (refine DKd_y [] true [] (specSweepX c (by omega) u (by omega)) ?_ (fun st' hst => ?_) ?_; (focus (simp [List.range_succ, nmC]; done)); (focus (simp (disch := omega) [wrap64, List.getElem?_eq_getElem, toNat_pred, List.range_succ, e, e2, e3, e4, e5, e6, e7, eqB_self, mkL_len, take_mkL, DtCatalog.cells, DtUps.cells, mvUps, hml, nmC, List.range_succ] at hst; simp (disch := omega) [wrap64, List.getElem?_eq_getElem, toNat_pred, List.range_succ, e, e2, e3, e4, e5, e6, e7, eqB_self, mkL_len, take_mkL, DtCatalog.cells, DtUps.cells, mvUps, hml, hst, take_map_n, nmC, List.range_succ]; done)); simp (disch := omega) [wrap64, List.getElem?_eq_getElem, toNat_pred, List.range_succ, e, e2, e3, e4, e5, e6, e7, eqB_self, mkL_len, take_mkL, DtCatalog.cells, DtUps.cells, mvUps, hml]) | (refine ⟨fun _ => ?_, fun _ => ?_⟩) | (refine ⟨by omega, ?_⟩) | (intro _)
                          all_goals (refine hK _ _ (by kernel_rfl) ?_; clear hK K)
                          all_goals
                            refine AW_x rfl rfl fun K hK => ?_
                            simp (disch := omega) [wrap64, List.getElem?_eq_getElem, toNat_pred, List.range_succ, e, e2, e3, e4, e5, e6, e7, eqB_self, mkL_len, take_mkL, DtCatalog.cells, DtUps.cells, mvUps, hml]
                            repeat' first | (exfalso; omega) | (refine XKd_x [] true [] (toCatalogX c (by omega)) ?_ ?_ ?_; (focus (simp [List.range_succ, nmC]; done)); (focus (simp (disch := omega) [wrap64, List.getElem?_eq_getElem, toNat_pred, List.range_succ, e, e2, e3, e4, e5, e6, e7, eqB_self, mkL_len, take_mkL, DtCatalog.cells, DtUps.cells, mvUps, hml, take_map_n]; done)); simp (disch := omega) [wrap64, List.getElem?_eq_getElem, toNat_pred, List.range_succ, e, e2, e3, e4, e5, e6, e7, eqB_self, mkL_len, take_mkL, DtCatalog.cells, DtUps.cells, mvUps, hml]) | (refine ⟨fun _ => ?_, fun _ => ?_⟩) | (refine ⟨by omega, ?_⟩) | (intro _)
                            all_goals (refine hK _ ?_; clear hK K)
                            all_goals
                              refine AW_trim [2, 3, 4, 6, 7, 8] ?_
                              simp only [List.map_cons, List.map_nil, upd_app, lkE_app, lk_cons, lk_nil, Nat.reduceBEq, cond_true, cond_false, Bool.cond_true, Bool.cond_false, Option.getD_some, Option.getD_none]
                              refine AW_x rfl rfl fun K hK => ?_
                              simp (disch := omega) [wrap64, List.getElem?_eq_getElem, toNat_pred, List.range_succ, e, e2, e3, e4, e5, e6, e7, eqB_self, mkL_len, take_mkL, DtCatalog.cells, DtUps.cells, mvUps, hml]
                              repeat' first | (exfalso; omega) | (refine XKd_x [] true [] (toUpsX u (by omega)) ?_ ?_ ?_; (focus (simp [List.range_succ, nmC]; done)); (focus (simp (disch := omega) [wrap64, List.getElem?_eq_getElem, toNat_pred, List.range_succ, e, e2, e3, e4, e5, e6, e7, eqB_self, mkL_len, take_mkL, DtCatalog.cells, DtUps.cells, mvUps, hml, take_map_n]; done)); simp (disch := omega) [wrap64, List.getElem?_eq_getElem, toNat_pred, List.range_succ, e, e2, e3, e4, e5, e6, e7, eqB_self, mkL_len, take_mkL, DtCatalog.cells, DtUps.cells, mvUps, hml]) | (refine ⟨fun _ => ?_, fun _ => ?_⟩) | (refine ⟨by omega, ?_⟩) | (intro _)
                              all_goals (refine hK _ ?_; clear hK K)
                              all_goals
                                refine AW_x rfl rfl fun K hK => ?_
                                simp (disch := omega) [wrap64, List.getElem?_eq_getElem, toNat_pred, List.range_succ, e, e2, e3, e4, e5, e6, e7, eqB_self, mkL_len, take_mkL, DtCatalog.cells, DtUps.cells, mvUps, hml]
                                repeat' first | (exfalso; omega) | (refine XKd_x [] true [] (implSweepX c (by omega) u (by omega)) ?_ ?_ ?_; (focus (simp [List.range_succ, nmC]; done)); (focus (simp (disch := omega) [wrap64, List.getElem?_eq_getElem, toNat_pred, List.range_succ, e, e2, e3, e4, e5, e6, e7, eqB_self, mkL_len, take_mkL, DtCatalog.cells, DtUps.cells, mvUps, hml, take_map_n]; done)); simp (disch := omega) [wrap64, List.getElem?_eq_getElem, toNat_pred, List.range_succ, e, e2, e3, e4, e5, e6, e7, eqB_self, mkL_len, take_mkL, DtCatalog.cells, DtUps.cells, mvUps, hml]) | (refine ⟨fun _ => ?_, fun _ => ?_⟩) | (refine ⟨by omega, ?_⟩) | (intro _)
                                all_goals (refine hK _ ?_; clear hK K)
                                all_goals
                                  refine AW_seq ?_
                                  refine AW_x rfl rfl fun K hK => ?_
                                  simp (disch := omega) [wrap64, List.getElem?_eq_getElem, toNat_pred, List.range_succ, e, e2, e3, e4, e5, e6, e7, eqB_self, mkL_len, take_mkL, DtCatalog.cells, DtUps.cells, mvUps, hml]
                                  repeat' first | (exfalso; omega) | (refine XKd_v (am2s_cons (am2_agg rfl) (am2s_cons (am2_agg rfl) am2s_nil)) (eqUps u u (by omega)) rfl ?_; simp (disch := omega) [wrap64, List.getElem?_eq_getElem, toNat_pred, List.range_succ, e, e2, e3, e4, e5, e6, e7, eqB_self, mkL_len, take_mkL, DtCatalog.cells, DtUps.cells, mvUps, hml]) | (refine XKd_p (eqUps u u (by omega)) (by rfl) ?_ ?_; (focus (simp (disch := omega) [wrap64, List.getElem?_eq_getElem, toNat_pred, List.range_succ, e, e2, e3, e4, e5, e6, e7, eqB_self, mkL_len, take_mkL, DtCatalog.cells, DtUps.cells, mvUps, hml, take_map_n]; done)); simp (disch := omega) [wrap64, List.getElem?_eq_getElem, toNat_pred, List.range_succ, e, e2, e3, e4, e5, e6, e7, eqB_self, mkL_len, take_mkL, DtCatalog.cells, DtUps.cells, mvUps, hml]) | (refine XKd_v (am2s_cons (am2_agg rfl) (am2s_cons (am2_agg rfl) am2s_nil)) (eqUps (swpU c u) (swpU c u) (by omega)) rfl ?_; simp (disch := omega) [wrap64, List.getElem?_eq_getElem, toNat_pred, List.range_succ, e, e2, e3, e4, e5, e6, e7, eqB_self, mkL_len, take_mkL, DtCatalog.cells, DtUps.cells, mvUps, hml]) | (refine XKd_p (eqUps (swpU c u) (swpU c u) (by omega)) (by rfl) ?_ ?_; (focus (simp (disch := omega) [wrap64, List.getElem?_eq_getElem, toNat_pred, List.range_succ, e, e2, e3, e4, e5, e6, e7, eqB_self, mkL_len, take_mkL, DtCatalog.cells, DtUps.cells, mvUps, hml, take_map_n]; done)); simp (disch := omega) [wrap64, List.getElem?_eq_getElem, toNat_pred, List.range_succ, e, e2, e3, e4, e5, e6, e7, eqB_self, mkL_len, take_mkL, DtCatalog.cells, DtUps.cells, mvUps, hml]) | (refine XKd_v (am2s_cons am2_sl (am2s_cons am2_sl am2s_nil)) (eqStringS (swpG c u) (swpG c u) (swpG_sz c u)) rfl ?_; simp (disch := omega) [wrap64, List.getElem?_eq_getElem, toNat_pred, List.range_succ, e, e2, e3, e4, e5, e6, e7, eqB_self, mkL_len, take_mkL, DtCatalog.cells, DtUps.cells, mvUps, hml]) | (refine XKd_p (eqStringS (swpG c u) (swpG c u) (swpG_sz c u)) (by rfl) ?_ ?_; (focus (simp (disch := omega) [wrap64, List.getElem?_eq_getElem, toNat_pred, List.range_succ, e, e2, e3, e4, e5, e6, e7, eqB_self, mkL_len, take_mkL, DtCatalog.cells, DtUps.cells, mvUps, hml, take_map_n]; done)); simp (disch := omega) [wrap64, List.getElem?_eq_getElem, toNat_pred, List.range_succ, e, e2, e3, e4, e5, e6, e7, eqB_self, mkL_len, take_mkL, DtCatalog.cells, DtUps.cells, mvUps, hml]) | (refine ⟨fun _ => ?_, fun _ => ?_⟩) | (refine ⟨by omega, ?_⟩) | (intro _)
                                  all_goals (refine hK _ ?_; clear hK K)
                                  all_goals
                                    refine AW_cond rfl (fun hc29 => ?_) (fun hc29 => ?_)
                                    · try simp at hc29
                                      all_goals
                                        refine AW_x rfl rfl fun K hK => ?_
                                        simp (disch := omega) [wrap64, List.getElem?_eq_getElem, toNat_pred, List.range_succ, e, e2, e3, e4, e5, e6, e7, eqB_self, mkL_len, take_mkL, DtCatalog.cells, DtUps.cells, mvUps, hml]
                                        repeat' first | (exfalso; omega) | (refine ⟨fun _ => ?_, fun _ => ?_⟩) | (refine ⟨by omega, ?_⟩) | (intro _)
                                        all_goals (refine hK _ ?_; clear hK K)
                                        all_goals
                                          refine AW_ret (end_x [] [] (by simp [List.range_succ, lk_cons, lk_nil, upd_app]) (by simp) ?_)
                                          simp (disch := omega) [wrap64, List.getElem?_eq_getElem, toNat_pred, List.range_succ, e, e2, e3, e4, e5, e6, e7, eqB_self, mkL_len, take_mkL, DtCatalog.cells, DtUps.cells, mvUps, hml]
                                          all_goals skip
                                    · try simp at hc29
                                      all_goals
                                        refine AW_skip ?_
                                        refine AW_id ?_
                                        refine AW_seq ?_
                                        refine AW_d rfl mix (by kernel_rfl) (by kernel_rfl) fun K hK => ?_
                                        simp (disch := omega) [wrap64, List.getElem?_eq_getElem, toNat_pred, List.range_succ, e, e2, e3, e4, e5, e6, e7, eqB_self, mkL_len, take_mkL, DtCatalog.cells, DtUps.cells, mvUps, hml]
                                        repeat' first | (exfalso; omega) | (refine DKd_y [] true [] (toCatalogX c (by omega)) ?_ (fun st' hst => ?_) ?_; (focus (simp [List.range_succ, nmC]; done)); (focus (simp (disch := omega) [wrap64, List.getElem?_eq_getElem, toNat_pred, List.range_succ, e, e2, e3, e4, e5, e6, e7, eqB_self, mkL_len, take_mkL, DtCatalog.cells, DtUps.cells, mvUps, hml, nmC, List.range_succ] at hst; simp (disch := omega) [wrap64, List.getElem?_eq_getElem, toNat_pred, List.range_succ, e, e2, e3, e4, e5, e6, e7, eqB_self, mkL_len, take_mkL, DtCatalog.cells, DtUps.cells, mvUps, hml, hst, take_map_n, nmC, List.range_succ]; done)); simp (disch := omega) [wrap64, List.getElem?_eq_getElem, toNat_pred, List.range_succ, e, e2, e3, e4, e5, e6, e7, eqB_self, mkL_len, take_mkL, DtCatalog.cells, DtUps.cells, mvUps, hml]) | (refine DKd_v (fun st' => (am2s_cons (am2_agg rfl) (am2s_cons (am2_agg rfl) am2s_nil))) (eqCatalog c c (by omega)) rfl ?_; simp (disch := omega) [wrap64, List.getElem?_eq_getElem, toNat_pred, List.range_succ, e, e2, e3, e4, e5, e6, e7, eqB_self, mkL_len, take_mkL, DtCatalog.cells, DtUps.cells, mvUps, hml]) | (refine DKd_p (eqCatalog c c (by omega)) (by rfl) (fun st' hst => ?_) ?_; (focus (simp (disch := omega) [wrap64, List.getElem?_eq_getElem, toNat_pred, List.range_succ, e, e2, e3, e4, e5, e6, e7, eqB_self, mkL_len, take_mkL, DtCatalog.cells, DtUps.cells, mvUps, hml] at hst; simp (disch := omega) [wrap64, List.getElem?_eq_getElem, toNat_pred, List.range_succ, e, e2, e3, e4, e5, e6, e7, eqB_self, mkL_len, take_mkL, DtCatalog.cells, DtUps.cells, mvUps, hml, hst, take_map_n]; done)); simp (disch := omega) [wrap64, List.getElem?_eq_getElem, toNat_pred, List.range_succ, e, e2, e3, e4, e5, e6, e7, eqB_self, mkL_len, take_mkL, DtCatalog.cells, DtUps.cells, mvUps, hml]) | (refine ⟨fun _ => ?_, fun _ => ?_⟩) | (refine ⟨by omega, ?_⟩) | (intro _)
                                        all_goals (refine hK _ _ (by kernel_rfl) ?_; clear hK K)
                                        all_goals
                                          refine AW_cond rfl (fun hc30 => ?_) (fun hc30 => ?_)
                                          · try simp at hc30
                                            all_goals
                                              refine AW_trim [2, 3, 4, 6, 7, 8, 9, 10, 11] ?_
                                              simp only [List.map_cons, List.map_nil, upd_app, lkE_app, lk_cons, lk_nil, Nat.reduceBEq, cond_true, cond_false, Bool.cond_true, Bool.cond_false, Option.getD_some, Option.getD_none]
                                              refine AW_x rfl rfl fun K hK => ?_
                                              simp (disch := omega) [wrap64, List.getElem?_eq_getElem, toNat_pred, List.range_succ, e, e2, e3, e4, e5, e6, e7, eqB_self, mkL_len, take_mkL, DtCatalog.cells, DtUps.cells, mvUps, hml]
                                              repeat' first | (exfalso; omega) | (refine ⟨fun _ => ?_, fun _ => ?_⟩) | (refine ⟨by omega, ?_⟩) | (intro _)
                                              all_goals (refine hK _ ?_; clear hK K)
                                              all_goals
                                                refine AW_ret (end_x [] [] (by simp [List.range_succ, lk_cons, lk_nil, upd_app]) (by simp) ?_)
                                                simp (disch := omega) [wrap64, List.getElem?_eq_getElem, toNat_pred, List.range_succ, e, e2, e3, e4, e5, e6, e7, eqB_self, mkL_len, take_mkL, DtCatalog.cells, DtUps.cells, mvUps, hml]
                                                all_goals skip
                                          · try simp at hc30
                                            all_goals
                                              refine AW_skip ?_
                                              refine AW_id ?_
                                              refine AW_seq ?_
                                              refine AW_d rfl mix (by kernel_rfl) (by kernel_rfl) fun K hK => ?_
                                              simp (disch := omega) [wrap64, List.getElem?_eq_getElem, toNat_pred, List.range_succ, e, e2, e3, e4, e5, e6, e7, eqB_self, mkL_len, take_mkL, DtCatalog.cells, DtUps.cells, mvUps, hml]
                                              repeat' first | (exfalso; omega) | (refine DKd_y [] true [] (toUpsX u (by omega)) ?_ (fun st' hst => ?_) ?_; (focus (simp [List.range_succ, nmC]; done)); (focus (simp (disch := omega) [wrap64, List.getElem?_eq_getElem, toNat_pred, List.range_succ, e, e2, e3, e4, e5, e6, e7, eqB_self, mkL_len, take_mkL, DtCatalog.cells, DtUps.cells, mvUps, hml, nmC, List.range_succ] at hst; simp (disch := omega) [wrap64, List.getElem?_eq_getElem, toNat_pred, List.range_succ, e, e2, e3, e4, e5, e6, e7, eqB_self, mkL_len, take_mkL, DtCatalog.cells, DtUps.cells, mvUps, hml, hst, take_map_n, nmC, List.range_succ]; done)); simp (disch := omega) [wrap64, List.getElem?_eq_getElem, toNat_pred, List.range_succ, e, e2, e3, e4, e5, e6, e7, eqB_self, mkL_len, take_mkL, DtCatalog.cells, DtUps.cells, mvUps, hml]) | (refine DKd_v (fun st' => (am2s_cons (am2_agg rfl) (am2s_cons (am2_agg rfl) am2s_nil))) (eqUps u u (by omega)) rfl ?_; simp (disch := omega) [wrap64, List.getElem?_eq_getElem, toNat_pred, List.range_succ, e, e2, e3, e4, e5, e6, e7, eqB_self, mkL_len, take_mkL, DtCatalog.cells, DtUps.cells, mvUps, hml]) | (refine DKd_p (eqUps u u (by omega)) (by rfl) (fun st' hst => ?_) ?_; (focus (simp (disch := omega) [wrap64, List.getElem?_eq_getElem, toNat_pred, List.range_succ, e, e2, e3, e4, e5, e6, e7, eqB_self, mkL_len, take_mkL, DtCatalog.cells, DtUps.cells, mvUps, hml] at hst; simp (disch := omega) [wrap64, List.getElem?_eq_getElem, toNat_pred, List.range_succ, e, e2, e3, e4, e5, e6, e7, eqB_self, mkL_len, take_mkL, DtCatalog.cells, DtUps.cells, mvUps, hml, hst, take_map_n]; done)); simp (disch := omega) [wrap64, List.getElem?_eq_getElem, toNat_pred, List.range_succ, e, e2, e3, e4, e5, e6, e7, eqB_self, mkL_len, take_mkL, DtCatalog.cells, DtUps.cells, mvUps, hml]) | (refine DKd_v (fun st' => (am2s_cons (am2_agg rfl) (am2s_cons (am2_agg rfl) am2s_nil))) (eqUps (swpU c u) (swpU c u) (by omega)) rfl ?_; simp (disch := omega) [wrap64, List.getElem?_eq_getElem, toNat_pred, List.range_succ, e, e2, e3, e4, e5, e6, e7, eqB_self, mkL_len, take_mkL, DtCatalog.cells, DtUps.cells, mvUps, hml]) | (refine DKd_p (eqUps (swpU c u) (swpU c u) (by omega)) (by rfl) (fun st' hst => ?_) ?_; (focus (simp (disch := omega) [wrap64, List.getElem?_eq_getElem, toNat_pred, List.range_succ, e, e2, e3, e4, e5, e6, e7, eqB_self, mkL_len, take_mkL, DtCatalog.cells, DtUps.cells, mvUps, hml] at hst; simp (disch := omega) [wrap64, List.getElem?_eq_getElem, toNat_pred, List.range_succ, e, e2, e3, e4, e5, e6, e7, eqB_self, mkL_len, take_mkL, DtCatalog.cells, DtUps.cells, mvUps, hml, hst, take_map_n]; done)); simp (disch := omega) [wrap64, List.getElem?_eq_getElem, toNat_pred, List.range_succ, e, e2, e3, e4, e5, e6, e7, eqB_self, mkL_len, take_mkL, DtCatalog.cells, DtUps.cells, mvUps, hml]) | (refine ⟨fun _ => ?_, fun _ => ?_⟩) | (refine ⟨by omega, ?_⟩) | (intro _)
                                              all_goals (refine hK _ _ (by kernel_rfl) ?_; clear hK K)
                                              all_goals
                                                refine AW_cond rfl (fun hc31 => ?_) (fun hc31 => ?_)
                                                · try simp at hc31
                                                  all_goals
                                                    refine AW_x rfl rfl fun K hK => ?_
                                                    simp (disch := omega) [wrap64, List.getElem?_eq_getElem, toNat_pred, List.range_succ, e, e2, e3, e4, e5, e6, e7, eqB_self, mkL_len, take_mkL, DtCatalog.cells, DtUps.cells, mvUps, hml]
                                                    repeat' first | (exfalso; omega) | (refine ⟨fun _ => ?_, fun _ => ?_⟩) | (refine ⟨by omega, ?_⟩) | (intro _)
                                                    all_goals (refine hK _ ?_; clear hK K)
                                                    all_goals
                                                      refine AW_ret (end_x [] [] (by simp [List.range_succ, lk_cons, lk_nil, upd_app]) (by simp) ?_)
                                                      simp (disch := omega) [wrap64, List.getElem?_eq_getElem, toNat_pred, List.range_succ, e, e2, e3, e4, e5, e6, e7, eqB_self, mkL_len, take_mkL, DtCatalog.cells, DtUps.cells, mvUps, hml]
                                                      all_goals skip
                                                · try simp at hc31
                                                  all_goals
                                                    refine AW_skip ?_
                                                    refine AW_id ?_
                                                    refine AW_x rfl rfl fun K hK => ?_
                                                    simp (disch := omega) [wrap64, List.getElem?_eq_getElem, toNat_pred, List.range_succ, e, e2, e3, e4, e5, e6, e7, eqB_self, mkL_len, take_mkL, DtCatalog.cells, DtUps.cells, mvUps, hml]
                                                    repeat' first | (exfalso; omega) | (refine ⟨fun _ => ?_, fun _ => ?_⟩) | (refine ⟨by omega, ?_⟩) | (intro _)
                                                    all_goals (refine hK _ ?_; clear hK K)
                                                    all_goals
                                                      refine AW_x rfl rfl fun K hK => ?_
                                                      simp (disch := omega) [wrap64, List.getElem?_eq_getElem, toNat_pred, List.range_succ, e, e2, e3, e4, e5, e6, e7, eqB_self, mkL_len, take_mkL, DtCatalog.cells, DtUps.cells, mvUps, hml]
                                                      repeat' first | (exfalso; omega) | (refine XKd_x [592] true [] (markCatalog c 1 (by omega) (by omega)) ?_ ?_ ?_; (focus (simp [List.range_succ, nmC]; done)); (focus (simp (disch := omega) [wrap64, List.getElem?_eq_getElem, toNat_pred, List.range_succ, e, e2, e3, e4, e5, e6, e7, eqB_self, mkL_len, take_mkL, DtCatalog.cells, DtUps.cells, mvUps, hml, take_map_n]; done)); simp (disch := omega) [wrap64, List.getElem?_eq_getElem, toNat_pred, List.range_succ, e, e2, e3, e4, e5, e6, e7, eqB_self, mkL_len, take_mkL, DtCatalog.cells, DtUps.cells, mvUps, hml]) | (refine ⟨fun _ => ?_, fun _ => ?_⟩) | (refine ⟨by omega, ?_⟩) | (intro _)
                                                      all_goals (refine hK _ ?_; clear hK K)
                                                      all_goals
                                                        refine AW_trim [2, 3, 4, 6, 7, 9, 10, 11, 12] ?_
                                                        simp only [List.map_cons, List.map_nil, upd_app, lkE_app, lk_cons, lk_nil, Nat.reduceBEq, cond_true, cond_false, Bool.cond_true, Bool.cond_false, Option.getD_some, Option.getD_none]
                                                        refine AW_x rfl rfl fun K hK => ?_
                                                        simp (disch := omega) [wrap64, List.getElem?_eq_getElem, toNat_pred, List.range_succ, e, e2, e3, e4, e5, e6, e7, eqB_self, mkL_len, take_mkL, DtCatalog.cells, DtUps.cells, mvUps, hml]
                                                        repeat' first | (exfalso; omega) | (refine XKd_x [624] true [] (markUps u (1 + cvCatalog c) (by omega) (by omega)) ?_ ?_ ?_; (focus (simp [List.range_succ, nmC]; done)); (focus (simp (disch := omega) [wrap64, List.getElem?_eq_getElem, toNat_pred, List.range_succ, e, e2, e3, e4, e5, e6, e7, eqB_self, mkL_len, take_mkL, DtCatalog.cells, DtUps.cells, mvUps, hml, take_map_n]; done)); simp (disch := omega) [wrap64, List.getElem?_eq_getElem, toNat_pred, List.range_succ, e, e2, e3, e4, e5, e6, e7, eqB_self, mkL_len, take_mkL, DtCatalog.cells, DtUps.cells, mvUps, hml]) | (refine XKd_x [688] true [] (markUps (swpU c u) 1 (by omega) (by omega)) ?_ ?_ ?_; (focus (simp [List.range_succ, nmC]; done)); (focus (simp (disch := omega) [wrap64, List.getElem?_eq_getElem, toNat_pred, List.range_succ, e, e2, e3, e4, e5, e6, e7, eqB_self, mkL_len, take_mkL, DtCatalog.cells, DtUps.cells, mvUps, hml, take_map_n]; done)); simp (disch := omega) [wrap64, List.getElem?_eq_getElem, toNat_pred, List.range_succ, e, e2, e3, e4, e5, e6, e7, eqB_self, mkL_len, take_mkL, DtCatalog.cells, DtUps.cells, mvUps, hml]) | (refine ⟨fun _ => ?_, fun _ => ?_⟩) | (refine ⟨by omega, ?_⟩) | (intro _)
                                                        all_goals (refine hK _ ?_; clear hK K)
                                                        all_goals
                                                          refine AW_seq ?_
                                                          refine AW_x rfl rfl fun K hK => ?_
                                                          simp (disch := omega) [wrap64, List.getElem?_eq_getElem, toNat_pred, List.range_succ, e, e2, e3, e4, e5, e6, e7, eqB_self, mkL_len, take_mkL, DtCatalog.cells, DtUps.cells, mvUps, hml]
                                                          repeat' first | (exfalso; omega) | (refine XKd_v (am2s_cons (am2_agg rfl) (am2s_cons (am2_agg rfl) am2s_nil)) (eqUps u u (by omega)) rfl ?_; simp (disch := omega) [wrap64, List.getElem?_eq_getElem, toNat_pred, List.range_succ, e, e2, e3, e4, e5, e6, e7, eqB_self, mkL_len, take_mkL, DtCatalog.cells, DtUps.cells, mvUps, hml]) | (refine XKd_p (eqUps u u (by omega)) (by rfl) ?_ ?_; (focus (simp (disch := omega) [wrap64, List.getElem?_eq_getElem, toNat_pred, List.range_succ, e, e2, e3, e4, e5, e6, e7, eqB_self, mkL_len, take_mkL, DtCatalog.cells, DtUps.cells, mvUps, hml, take_map_n]; done)); simp (disch := omega) [wrap64, List.getElem?_eq_getElem, toNat_pred, List.range_succ, e, e2, e3, e4, e5, e6, e7, eqB_self, mkL_len, take_mkL, DtCatalog.cells, DtUps.cells, mvUps, hml]) | (refine XKd_v (am2s_cons (am2_agg rfl) (am2s_cons (am2_agg rfl) am2s_nil)) (eqUps (swpU c u) (swpU c u) (by omega)) rfl ?_; simp (disch := omega) [wrap64, List.getElem?_eq_getElem, toNat_pred, List.range_succ, e, e2, e3, e4, e5, e6, e7, eqB_self, mkL_len, take_mkL, DtCatalog.cells, DtUps.cells, mvUps, hml]) | (refine XKd_p (eqUps (swpU c u) (swpU c u) (by omega)) (by rfl) ?_ ?_; (focus (simp (disch := omega) [wrap64, List.getElem?_eq_getElem, toNat_pred, List.range_succ, e, e2, e3, e4, e5, e6, e7, eqB_self, mkL_len, take_mkL, DtCatalog.cells, DtUps.cells, mvUps, hml, take_map_n]; done)); simp (disch := omega) [wrap64, List.getElem?_eq_getElem, toNat_pred, List.range_succ, e, e2, e3, e4, e5, e6, e7, eqB_self, mkL_len, take_mkL, DtCatalog.cells, DtUps.cells, mvUps, hml]) | (refine XKd_v (am2s_cons am2_sl (am2s_cons am2_sl am2s_nil)) (eqStringS (swpG c u) (swpG c u) (swpG_sz c u)) rfl ?_; simp (disch := omega) [wrap64, List.getElem?_eq_getElem, toNat_pred, List.range_succ, e, e2, e3, e4, e5, e6, e7, eqB_self, mkL_len, take_mkL, DtCatalog.cells, DtUps.cells, mvUps, hml]) | (refine XKd_p (eqStringS (swpG c u) (swpG c u) (swpG_sz c u)) (by rfl) ?_ ?_; (focus (simp (disch := omega) [wrap64, List.getElem?_eq_getElem, toNat_pred, List.range_succ, e, e2, e3, e4, e5, e6, e7, eqB_self, mkL_len, take_mkL, DtCatalog.cells, DtUps.cells, mvUps, hml, take_map_n]; done)); simp (disch := omega) [wrap64, List.getElem?_eq_getElem, toNat_pred, List.range_succ, e, e2, e3, e4, e5, e6, e7, eqB_self, mkL_len, take_mkL, DtCatalog.cells, DtUps.cells, mvUps, hml]) | (refine ⟨fun _ => ?_, fun _ => ?_⟩) | (refine ⟨by omega, ?_⟩) | (intro _)
                                                          all_goals (refine hK _ ?_; clear hK K)
                                                          all_goals
                                                            refine AW_cond rfl (fun hc32 => ?_) (fun hc32 => ?_)
                                                            · try simp at hc32
                                                              all_goals
                                                                refine AW_x rfl rfl fun K hK => ?_
                                                                simp (disch := omega) [wrap64, List.getElem?_eq_getElem, toNat_pred, List.range_succ, e, e2, e3, e4, e5, e6, e7, eqB_self, mkL_len, take_mkL, DtCatalog.cells, DtUps.cells, mvUps, hml]
                                                                repeat' first | (exfalso; omega) | (refine ⟨fun _ => ?_, fun _ => ?_⟩) | (refine ⟨by omega, ?_⟩) | (intro _)
                                                                all_goals (refine hK _ ?_; clear hK K)
                                                                all_goals
                                                                  refine AW_ret (end_x [] [] (by simp [List.range_succ, lk_cons, lk_nil, upd_app]) (by simp) ?_)
                                                                  simp (disch := omega) [wrap64, List.getElem?_eq_getElem, toNat_pred, List.range_succ, e, e2, e3, e4, e5, e6, e7, eqB_self, mkL_len, take_mkL, DtCatalog.cells, DtUps.cells, mvUps, hml]
                                                                  all_goals skip
                                                            · try simp at hc32
                                                              all_goals
                                                                refine AW_skip ?_
                                                                refine AW_id ?_
                                                                refine AW_x rfl rfl fun K hK => ?_
                                                                simp (disch := omega) [wrap64, List.getElem?_eq_getElem, toNat_pred, List.range_succ, e, e2, e3, e4, e5, e6, e7, eqB_self, mkL_len, take_mkL, DtCatalog.cells, DtUps.cells, mvUps, hml]
                                                                repeat' first | (exfalso; omega) | (refine ⟨fun _ => ?_, fun _ => ?_⟩) | (refine ⟨by omega, ?_⟩) | (intro _)
                                                                all_goals (refine hK _ ?_; clear hK K)
                                                                all_goals
                                                                  refine AW_x rfl rfl fun K hK => ?_
                                                                  simp (disch := omega) [wrap64, List.getElem?_eq_getElem, toNat_pred, List.range_succ, e, e2, e3, e4, e5, e6, e7, eqB_self, mkL_len, take_mkL, DtCatalog.cells, DtUps.cells, mvUps, hml]
                                                                  repeat' first | (exfalso; omega) | (refine XKd_x [624] true [] (markUps u (1 + cvCatalog c) (by omega) (by omega)) ?_ ?_ ?_; (focus (simp [List.range_succ, nmC]; done)); (focus (simp (disch := omega) [wrap64, List.getElem?_eq_getElem, toNat_pred, List.range_succ, e, e2, e3, e4, e5, e6, e7, eqB_self, mkL_len, take_mkL, DtCatalog.cells, DtUps.cells, mvUps, hml, take_map_n]; done)); simp (disch := omega) [wrap64, List.getElem?_eq_getElem, toNat_pred, List.range_succ, e, e2, e3, e4, e5, e6, e7, eqB_self, mkL_len, take_mkL, DtCatalog.cells, DtUps.cells, mvUps, hml]) | (refine XKd_x [688] true [] (markUps (swpU c u) 1 (by omega) (by omega)) ?_ ?_ ?_; (focus (simp [List.range_succ, nmC]; done)); (focus (simp (disch := omega) [wrap64, List.getElem?_eq_getElem, toNat_pred, List.range_succ, e, e2, e3, e4, e5, e6, e7, eqB_self, mkL_len, take_mkL, DtCatalog.cells, DtUps.cells, mvUps, hml, take_map_n]; done)); simp (disch := omega) [wrap64, List.getElem?_eq_getElem, toNat_pred, List.range_succ, e, e2, e3, e4, e5, e6, e7, eqB_self, mkL_len, take_mkL, DtCatalog.cells, DtUps.cells, mvUps, hml]) | (refine ⟨fun _ => ?_, fun _ => ?_⟩) | (refine ⟨by omega, ?_⟩) | (intro _)
                                                                  all_goals (refine hK _ ?_; clear hK K)
                                                                  all_goals
                                                                    refine AW_trim [2, 3, 4, 6, 7, 10, 11, 13] ?_
                                                                    simp only [List.map_cons, List.map_nil, upd_app, lkE_app, lk_cons, lk_nil, Nat.reduceBEq, cond_true, cond_false, Bool.cond_true, Bool.cond_false, Option.getD_some, Option.getD_none]
                                                                    refine AW_x rfl rfl fun K hK => ?_
                                                                    simp (disch := omega) [wrap64, List.getElem?_eq_getElem, toNat_pred, List.range_succ, e, e2, e3, e4, e5, e6, e7, eqB_self, mkL_len, take_mkL, DtCatalog.cells, DtUps.cells, mvUps, hml]
                                                                    repeat' first | (exfalso; omega) | (refine XKd_x [689] true [] (markStringS (swpG c u) (1 + cvUps (swpU c u)) (by omega) (by omega)) ?_ ?_ ?_; (focus (simp [List.range_succ, nmC]; done)); (focus (simp (disch := omega) [wrap64, List.getElem?_eq_getElem, toNat_pred, List.range_succ, e, e2, e3, e4, e5, e6, e7, eqB_self, mkL_len, take_mkL, DtCatalog.cells, DtUps.cells, mvUps, hml, take_map_n]; done)); simp (disch := omega) [wrap64, List.getElem?_eq_getElem, toNat_pred, List.range_succ, e, e2, e3, e4, e5, e6, e7, eqB_self, mkL_len, take_mkL, DtCatalog.cells, DtUps.cells, mvUps, hml]) | (refine ⟨fun _ => ?_, fun _ => ?_⟩) | (refine ⟨by omega, ?_⟩) | (intro _)
                                                                    all_goals (refine hK _ ?_; clear hK K)
                                                                    all_goals
                                                                      refine AW_x rfl rfl fun K hK => ?_
                                                                      simp (disch := omega) [wrap64, List.getElem?_eq_getElem, toNat_pred, List.range_succ, e, e2, e3, e4, e5, e6, e7, eqB_self, mkL_len, take_mkL, DtCatalog.cells, DtUps.cells, mvUps, hml]
                                                                      repeat' first | (exfalso; omega) | (refine ⟨fun _ => ?_, fun _ => ?_⟩) | (refine ⟨by omega, ?_⟩) | (intro _)
                                                                      all_goals (refine hK _ ?_; clear hK K)
                                                                      all_goals
                                                                        refine AW_x rfl rfl fun K hK => ?_
                                                                        simp (disch := omega) [wrap64, List.getElem?_eq_getElem, toNat_pred, List.range_succ, e, e2, e3, e4, e5, e6, e7, eqB_self, mkL_len, take_mkL, DtCatalog.cells, DtUps.cells, mvUps, hml]
                                                                        repeat' first | (exfalso; omega) | (refine XKd_v (am2s_cons (am2_agg rfl) (am2s_cons am2_g am2s_nil)) (heldUps (swpU c u) 1 (by omega) (by omega)) rfl ?_; simp (disch := omega) [wrap64, List.getElem?_eq_getElem, toNat_pred, List.range_succ, e, e2, e3, e4, e5, e6, e7, eqB_self, mkL_len, take_mkL, DtCatalog.cells, DtUps.cells, mvUps, hml]) | (refine XKd_p (heldUps (swpU c u) 1 (by omega) (by omega)) (by rfl) ?_ ?_; (focus (simp (disch := omega) [wrap64, List.getElem?_eq_getElem, toNat_pred, List.range_succ, e, e2, e3, e4, e5, e6, e7, eqB_self, mkL_len, take_mkL, DtCatalog.cells, DtUps.cells, mvUps, hml, take_map_n]; done)); simp (disch := omega) [wrap64, List.getElem?_eq_getElem, toNat_pred, List.range_succ, e, e2, e3, e4, e5, e6, e7, eqB_self, mkL_len, take_mkL, DtCatalog.cells, DtUps.cells, mvUps, hml]) | (refine ⟨fun _ => ?_, fun _ => ?_⟩) | (refine ⟨by omega, ?_⟩) | (intro _)
                                                                        all_goals (refine hK _ ?_; clear hK K)
                                                                        all_goals
                                                                          refine AW_seq ?_
                                                                          refine AW_x rfl rfl fun K hK => ?_
                                                                          simp (disch := omega) [wrap64, List.getElem?_eq_getElem, toNat_pred, List.range_succ, e, e2, e3, e4, e5, e6, e7, eqB_self, mkL_len, take_mkL, DtCatalog.cells, DtUps.cells, mvUps, hml]
                                                                          repeat' first | (exfalso; omega) | (refine ⟨fun _ => ?_, fun _ => ?_⟩) | (refine ⟨by omega, ?_⟩) | (intro _)
                                                                          all_goals (refine hK _ ?_; clear hK K)
                                                                          all_goals
                                                                            refine AW_cond rfl (fun hc33 => ?_) (fun hc33 => ?_)
                                                                            · try simp at hc33
                                                                              all_goals
                                                                                refine AW_x rfl rfl fun K hK => ?_
                                                                                simp (disch := omega) [wrap64, List.getElem?_eq_getElem, toNat_pred, List.range_succ, e, e2, e3, e4, e5, e6, e7, eqB_self, mkL_len, take_mkL, DtCatalog.cells, DtUps.cells, mvUps, hml]
                                                                                repeat' first | (exfalso; omega) | (refine ⟨fun _ => ?_, fun _ => ?_⟩) | (refine ⟨by omega, ?_⟩) | (intro _)
                                                                                all_goals (refine hK _ ?_; clear hK K)
                                                                                all_goals
                                                                                  refine AW_ret (end_x [] [] (by simp [List.range_succ, lk_cons, lk_nil, upd_app]) (by simp) ?_)
                                                                                  simp (disch := omega) [wrap64, List.getElem?_eq_getElem, toNat_pred, List.range_succ, e, e2, e3, e4, e5, e6, e7, eqB_self, mkL_len, take_mkL, DtCatalog.cells, DtUps.cells, mvUps, hml]
                                                                                  all_goals skip
                                                                            · try simp at hc33
                                                                              all_goals
                                                                                refine AW_skip ?_
                                                                                refine AW_id ?_
                                                                                refine AW_trim [2, 3, 4, 6, 7, 10, 11, 13, 14] ?_
                                                                                simp only [List.map_cons, List.map_nil, upd_app, lkE_app, lk_cons, lk_nil, Nat.reduceBEq, cond_true, cond_false, Bool.cond_true, Bool.cond_false, Option.getD_some, Option.getD_none]
                                                                                refine AW_x rfl rfl fun K hK => ?_
                                                                                simp (disch := omega) [wrap64, List.getElem?_eq_getElem, toNat_pred, List.range_succ, e, e2, e3, e4, e5, e6, e7, eqB_self, mkL_len, take_mkL, DtCatalog.cells, DtUps.cells, mvUps, hml]
                                                                                repeat' first | (exfalso; omega) | (refine XKd_v (am2s_cons am2_sl (am2s_cons am2_g am2s_nil)) (heldStringS (swpG c u).length (1 + cvUps (swpU c u)) (by omega) (by omega)) rfl ?_; simp (disch := omega) [wrap64, List.getElem?_eq_getElem, toNat_pred, List.range_succ, e, e2, e3, e4, e5, e6, e7, eqB_self, mkL_len, take_mkL, DtCatalog.cells, DtUps.cells, mvUps, hml]) | (refine XKd_p (heldStringS (swpG c u).length (1 + cvUps (swpU c u)) (by omega) (by omega)) (by rfl) ?_ ?_; (focus (simp (disch := omega) [wrap64, List.getElem?_eq_getElem, toNat_pred, List.range_succ, e, e2, e3, e4, e5, e6, e7, eqB_self, mkL_len, take_mkL, DtCatalog.cells, DtUps.cells, mvUps, hml, take_map_n]; done)); simp (disch := omega) [wrap64, List.getElem?_eq_getElem, toNat_pred, List.range_succ, e, e2, e3, e4, e5, e6, e7, eqB_self, mkL_len, take_mkL, DtCatalog.cells, DtUps.cells, mvUps, hml]) | (refine ⟨fun _ => ?_, fun _ => ?_⟩) | (refine ⟨by omega, ?_⟩) | (intro _)
                                                                                all_goals (refine hK _ ?_; clear hK K)
                                                                                all_goals
                                                                                  refine AW_seq ?_
                                                                                  refine AW_x rfl rfl fun K hK => ?_
                                                                                  simp (disch := omega) [wrap64, List.getElem?_eq_getElem, toNat_pred, List.range_succ, e, e2, e3, e4, e5, e6, e7, eqB_self, mkL_len, take_mkL, DtCatalog.cells, DtUps.cells, mvUps, hml]
                                                                                  repeat' first | (exfalso; omega) | (refine ⟨fun _ => ?_, fun _ => ?_⟩) | (refine ⟨by omega, ?_⟩) | (intro _)
                                                                                  all_goals (refine hK _ ?_; clear hK K)
                                                                                  all_goals
                                                                                    refine AW_cond rfl (fun hc34 => ?_) (fun hc34 => ?_)
                                                                                    · try simp at hc34
                                                                                      all_goals
                                                                                        refine AW_x rfl rfl fun K hK => ?_
                                                                                        simp (disch := omega) [wrap64, List.getElem?_eq_getElem, toNat_pred, List.range_succ, e, e2, e3, e4, e5, e6, e7, eqB_self, mkL_len, take_mkL, DtCatalog.cells, DtUps.cells, mvUps, hml]
                                                                                        repeat' first | (exfalso; omega) | (refine ⟨fun _ => ?_, fun _ => ?_⟩) | (refine ⟨by omega, ?_⟩) | (intro _)
                                                                                        all_goals (refine hK _ ?_; clear hK K)
                                                                                        all_goals
                                                                                          refine AW_ret (end_x [] [] (by simp [List.range_succ, lk_cons, lk_nil, upd_app]) (by simp) ?_)
                                                                                          simp (disch := omega) [wrap64, List.getElem?_eq_getElem, toNat_pred, List.range_succ, e, e2, e3, e4, e5, e6, e7, eqB_self, mkL_len, take_mkL, DtCatalog.cells, DtUps.cells, mvUps, hml]
                                                                                          all_goals skip
                                                                                    · try simp at hc34
                                                                                      all_goals
                                                                                        refine AW_skip ?_
                                                                                        refine AW_id ?_
                                                                                        refine AW_seq ?_
                                                                                        refine AW_x rfl rfl fun K hK => ?_
                                                                                        simp (disch := omega) [wrap64, List.getElem?_eq_getElem, toNat_pred, List.range_succ, e, e2, e3, e4, e5, e6, e7, eqB_self, mkL_len, take_mkL, DtCatalog.cells, DtUps.cells, mvUps, hml]
                                                                                        repeat' first | (exfalso; omega) | (refine ⟨fun _ => ?_, fun _ => ?_⟩) | (refine ⟨by omega, ?_⟩) | (intro _)
                                                                                        all_goals (refine hK _ ?_; clear hK K)
                                                                                        all_goals
                                                                                          refine AW_cond rfl (fun hc35 => ?_) (fun hc35 => ?_)
                                                                                          · try simp at hc35
                                                                                            all_goals
                                                                                              refine AW_x rfl rfl fun K hK => ?_
                                                                                              simp (disch := omega) [wrap64, List.getElem?_eq_getElem, toNat_pred, List.range_succ, e, e2, e3, e4, e5, e6, e7, eqB_self, mkL_len, take_mkL, DtCatalog.cells, DtUps.cells, mvUps, hml]
                                                                                              repeat' first | (exfalso; omega) | (refine ⟨fun _ => ?_, fun _ => ?_⟩) | (refine ⟨by omega, ?_⟩) | (intro _)
                                                                                              all_goals (refine hK _ ?_; clear hK K)
                                                                                              all_goals
                                                                                                refine AW_ret (end_x [] [] (by simp [List.range_succ, lk_cons, lk_nil, upd_app]) (by simp) ?_)
                                                                                                simp (disch := omega) [wrap64, List.getElem?_eq_getElem, toNat_pred, List.range_succ, e, e2, e3, e4, e5, e6, e7, eqB_self, mkL_len, take_mkL, DtCatalog.cells, DtUps.cells, mvUps, hml]
                                                                                                all_goals skip
                                                                                          · try simp at hc35
                                                                                            all_goals
                                                                                              refine AW_skip ?_
                                                                                              refine AW_id ?_
                                                                                              refine AW_trim [2, 3, 4, 6, 7, 10, 11, 13, 14] ?_
                                                                                              simp only [List.map_cons, List.map_nil, upd_app, lkE_app, lk_cons, lk_nil, Nat.reduceBEq, cond_true, cond_false, Bool.cond_true, Bool.cond_false, Option.getD_some, Option.getD_none]
                                                                                              refine AW_d rfl mix (by kernel_rfl) (by kernel_rfl) fun K hK => ?_
                                                                                              simp (disch := omega) [wrap64, List.getElem?_eq_getElem, toNat_pred, List.range_succ, e, e2, e3, e4, e5, e6, e7, eqB_self, mkL_len, take_mkL, DtCatalog.cells, DtUps.cells, mvUps, hml]
                                                                                              repeat' first | (exfalso; omega) | (refine DKd_y [] true [] (toCatalogX c (by omega)) ?_ (fun st' hst => ?_) ?_; (focus (simp [List.range_succ, nmC]; done)); (focus (simp (disch := omega) [wrap64, List.getElem?_eq_getElem, toNat_pred, List.range_succ, e, e2, e3, e4, e5, e6, e7, eqB_self, mkL_len, take_mkL, DtCatalog.cells, DtUps.cells, mvUps, hml, nmC, List.range_succ] at hst; simp (disch := omega) [wrap64, List.getElem?_eq_getElem, toNat_pred, List.range_succ, e, e2, e3, e4, e5, e6, e7, eqB_self, mkL_len, take_mkL, DtCatalog.cells, DtUps.cells, mvUps, hml, hst, take_map_n, nmC, List.range_succ]; done)); simp (disch := omega) [wrap64, List.getElem?_eq_getElem, toNat_pred, List.range_succ, e, e2, e3, e4, e5, e6, e7, eqB_self, mkL_len, take_mkL, DtCatalog.cells, DtUps.cells, mvUps, hml]) | (refine DKd_y [] true [] (toUpsX u (by omega)) ?_ (fun st' hst => ?_) ?_; (focus (simp [List.range_succ, nmC]; done)); (focus (simp (disch := omega) [wrap64, List.getElem?_eq_getElem, toNat_pred, List.range_succ, e, e2, e3, e4, e5, e6, e7, eqB_self, mkL_len, take_mkL, DtCatalog.cells, DtUps.cells, mvUps, hml, nmC, List.range_succ] at hst; simp (disch := omega) [wrap64, List.getElem?_eq_getElem, toNat_pred, List.range_succ, e, e2, e3, e4, e5, e6, e7, eqB_self, mkL_len, take_mkL, DtCatalog.cells, DtUps.cells, mvUps, hml, hst, take_map_n, nmC, List.range_succ]; done)); simp (disch := omega) [wrap64, List.getElem?_eq_getElem, toNat_pred, List.range_succ, e, e2, e3, e4, e5, e6, e7, eqB_self, mkL_len, take_mkL, DtCatalog.cells, DtUps.cells, mvUps, hml]) | (refine DKd_y [] true [] (implSweepX c (by omega) u (by omega)) ?_ (fun st' hst => ?_) ?_; (focus (simp [List.range_succ, nmC]; done)); (focus (simp (disch := omega) [wrap64, List.getElem?_eq_getElem, toNat_pred, List.range_succ, e, e2, e3, e4, e5, e6, e7, eqB_self, mkL_len, take_mkL, DtCatalog.cells, DtUps.cells, mvUps, hml, nmC, List.range_succ] at hst; simp (disch := omega) [wrap64, List.getElem?_eq_getElem, toNat_pred, List.range_succ, e, e2, e3, e4, e5, e6, e7, eqB_self, mkL_len, take_mkL, DtCatalog.cells, DtUps.cells, mvUps, hml, hst, take_map_n, nmC, List.range_succ]; done)); simp (disch := omega) [wrap64, List.getElem?_eq_getElem, toNat_pred, List.range_succ, e, e2, e3, e4, e5, e6, e7, eqB_self, mkL_len, take_mkL, DtCatalog.cells, DtUps.cells, mvUps, hml]) | (refine ⟨fun _ => ?_, fun _ => ?_⟩) | (refine ⟨by omega, ?_⟩) | (intro _)
                                                                                              all_goals (refine hK _ _ (by kernel_rfl) ?_; clear hK K)
                                                                                              all_goals
                                                                                                refine AW_seq ?_
                                                                                                refine AW_x rfl rfl fun K hK => ?_
                                                                                                simp (disch := omega) [wrap64, List.getElem?_eq_getElem, toNat_pred, List.range_succ, e, e2, e3, e4, e5, e6, e7, eqB_self, mkL_len, take_mkL, DtCatalog.cells, DtUps.cells, mvUps, hml]
                                                                                                repeat' first | (exfalso; omega) | (refine XKd_v (am2s_cons (am2_agg rfl) (am2s_cons (am2_agg rfl) am2s_nil)) (eqUps u u (by omega)) rfl ?_; simp (disch := omega) [wrap64, List.getElem?_eq_getElem, toNat_pred, List.range_succ, e, e2, e3, e4, e5, e6, e7, eqB_self, mkL_len, take_mkL, DtCatalog.cells, DtUps.cells, mvUps, hml]) | (refine XKd_p (eqUps u u (by omega)) (by rfl) ?_ ?_; (focus (simp (disch := omega) [wrap64, List.getElem?_eq_getElem, toNat_pred, List.range_succ, e, e2, e3, e4, e5, e6, e7, eqB_self, mkL_len, take_mkL, DtCatalog.cells, DtUps.cells, mvUps, hml, take_map_n]; done)); simp (disch := omega) [wrap64, List.getElem?_eq_getElem, toNat_pred, List.range_succ, e, e2, e3, e4, e5, e6, e7, eqB_self, mkL_len, take_mkL, DtCatalog.cells, DtUps.cells, mvUps, hml]) | (refine XKd_v (am2s_cons (am2_agg rfl) (am2s_cons (am2_agg rfl) am2s_nil)) (eqUps (swpU c u) (swpU c u) (by omega)) rfl ?_; simp (disch := omega) [wrap64, List.getElem?_eq_getElem, toNat_pred, List.range_succ, e, e2, e3, e4, e5, e6, e7, eqB_self, mkL_len, take_mkL, DtCatalog.cells, DtUps.cells, mvUps, hml]) | (refine XKd_p (eqUps (swpU c u) (swpU c u) (by omega)) (by rfl) ?_ ?_; (focus (simp (disch := omega) [wrap64, List.getElem?_eq_getElem, toNat_pred, List.range_succ, e, e2, e3, e4, e5, e6, e7, eqB_self, mkL_len, take_mkL, DtCatalog.cells, DtUps.cells, mvUps, hml, take_map_n]; done)); simp (disch := omega) [wrap64, List.getElem?_eq_getElem, toNat_pred, List.range_succ, e, e2, e3, e4, e5, e6, e7, eqB_self, mkL_len, take_mkL, DtCatalog.cells, DtUps.cells, mvUps, hml]) | (refine XKd_v (am2s_cons am2_sl (am2s_cons am2_sl am2s_nil)) (eqStringS (swpG c u) (swpG c u) (swpG_sz c u)) rfl ?_; simp (disch := omega) [wrap64, List.getElem?_eq_getElem, toNat_pred, List.range_succ, e, e2, e3, e4, e5, e6, e7, eqB_self, mkL_len, take_mkL, DtCatalog.cells, DtUps.cells, mvUps, hml]) | (refine XKd_p (eqStringS (swpG c u) (swpG c u) (swpG_sz c u)) (by rfl) ?_ ?_; (focus (simp (disch := omega) [wrap64, List.getElem?_eq_getElem, toNat_pred, List.range_succ, e, e2, e3, e4, e5, e6, e7, eqB_self, mkL_len, take_mkL, DtCatalog.cells, DtUps.cells, mvUps, hml, take_map_n]; done)); simp (disch := omega) [wrap64, List.getElem?_eq_getElem, toNat_pred, List.range_succ, e, e2, e3, e4, e5, e6, e7, eqB_self, mkL_len, take_mkL, DtCatalog.cells, DtUps.cells, mvUps, hml]) | (refine ⟨fun _ => ?_, fun _ => ?_⟩) | (refine ⟨by omega, ?_⟩) | (intro _)
                                                                                                all_goals (refine hK _ ?_; clear hK K)
                                                                                                all_goals
                                                                                                  refine AW_cond rfl (fun hc36 => ?_) (fun hc36 => ?_)
                                                                                                  · try simp at hc36
                                                                                                    all_goals
                                                                                                      refine AW_x rfl rfl fun K hK => ?_
                                                                                                      simp (disch := omega) [wrap64, List.getElem?_eq_getElem, toNat_pred, List.range_succ, e, e2, e3, e4, e5, e6, e7, eqB_self, mkL_len, take_mkL, DtCatalog.cells, DtUps.cells, mvUps, hml]
                                                                                                      repeat' first | (exfalso; omega) | (refine ⟨fun _ => ?_, fun _ => ?_⟩) | (refine ⟨by omega, ?_⟩) | (intro _)
                                                                                                      all_goals (refine hK _ ?_; clear hK K)
                                                                                                      all_goals
                                                                                                        refine AW_ret (end_x [] [] (by simp [List.range_succ, lk_cons, lk_nil, upd_app]) (by simp) ?_)
                                                                                                        simp (disch := omega) [wrap64, List.getElem?_eq_getElem, toNat_pred, List.range_succ, e, e2, e3, e4, e5, e6, e7, eqB_self, mkL_len, take_mkL, DtCatalog.cells, DtUps.cells, mvUps, hml]
                                                                                                        all_goals skip
                                                                                                  · try simp at hc36
                                                                                                    all_goals
                                                                                                      refine AW_skip ?_
                                                                                                      refine AW_id ?_
                                                                                                      refine AW_x rfl rfl fun K hK => ?_
                                                                                                      simp (disch := omega) [wrap64, List.getElem?_eq_getElem, toNat_pred, List.range_succ, e, e2, e3, e4, e5, e6, e7, eqB_self, mkL_len, take_mkL, DtCatalog.cells, DtUps.cells, mvUps, hml]
                                                                                                      repeat' first | (exfalso; omega) | (refine ⟨fun _ => ?_, fun _ => ?_⟩) | (refine ⟨by omega, ?_⟩) | (intro _)
                                                                                                      all_goals (refine hK _ ?_; clear hK K)
                                                                                                      all_goals
                                                                                                        refine AW_x rfl rfl fun K hK => ?_
                                                                                                        simp (disch := omega) [wrap64, List.getElem?_eq_getElem, toNat_pred, List.range_succ, e, e2, e3, e4, e5, e6, e7, eqB_self, mkL_len, take_mkL, DtCatalog.cells, DtUps.cells, mvUps, hml]
                                                                                                        repeat' first | (exfalso; omega) | (refine XKd_v (am2s_cons (am2_agg rfl) (am2s_cons am2_g am2s_nil)) (heldUps (swpU c u) 1 (by omega) (by omega)) rfl ?_; simp (disch := omega) [wrap64, List.getElem?_eq_getElem, toNat_pred, List.range_succ, e, e2, e3, e4, e5, e6, e7, eqB_self, mkL_len, take_mkL, DtCatalog.cells, DtUps.cells, mvUps, hml]) | (refine XKd_p (heldUps (swpU c u) 1 (by omega) (by omega)) (by rfl) ?_ ?_; (focus (simp (disch := omega) [wrap64, List.getElem?_eq_getElem, toNat_pred, List.range_succ, e, e2, e3, e4, e5, e6, e7, eqB_self, mkL_len, take_mkL, DtCatalog.cells, DtUps.cells, mvUps, hml, take_map_n]; done)); simp (disch := omega) [wrap64, List.getElem?_eq_getElem, toNat_pred, List.range_succ, e, e2, e3, e4, e5, e6, e7, eqB_self, mkL_len, take_mkL, DtCatalog.cells, DtUps.cells, mvUps, hml]) | (refine ⟨fun _ => ?_, fun _ => ?_⟩) | (refine ⟨by omega, ?_⟩) | (intro _)
                                                                                                        all_goals (refine hK _ ?_; clear hK K)
                                                                                                        all_goals
                                                                                                          refine AW_seq ?_
                                                                                                          refine AW_trim [4, 11, 13, 14] ?_
                                                                                                          simp only [List.map_cons, List.map_nil, upd_app, lkE_app, lk_cons, lk_nil, Nat.reduceBEq, cond_true, cond_false, Bool.cond_true, Bool.cond_false, Option.getD_some, Option.getD_none]
                                                                                                          refine AW_x rfl rfl fun K hK => ?_
                                                                                                          simp (disch := omega) [wrap64, List.getElem?_eq_getElem, toNat_pred, List.range_succ, e, e2, e3, e4, e5, e6, e7, eqB_self, mkL_len, take_mkL, DtCatalog.cells, DtUps.cells, mvUps, hml]
                                                                                                          repeat' first | (exfalso; omega) | (refine ⟨fun _ => ?_, fun _ => ?_⟩) | (refine ⟨by omega, ?_⟩) | (intro _)
                                                                                                          all_goals (refine hK _ ?_; clear hK K)
                                                                                                          all_goals
                                                                                                            refine AW_cond rfl (fun hc37 => ?_) (fun hc37 => ?_)
                                                                                                            · try simp at hc37
                                                                                                              all_goals
                                                                                                                refine AW_x rfl rfl fun K hK => ?_
                                                                                                                simp (disch := omega) [wrap64, List.getElem?_eq_getElem, toNat_pred, List.range_succ, e, e2, e3, e4, e5, e6, e7, eqB_self, mkL_len, take_mkL, DtCatalog.cells, DtUps.cells, mvUps, hml]
                                                                                                                repeat' first | (exfalso; omega) | (refine ⟨fun _ => ?_, fun _ => ?_⟩) | (refine ⟨by omega, ?_⟩) | (intro _)
                                                                                                                all_goals (refine hK _ ?_; clear hK K)
                                                                                                                all_goals
                                                                                                                  refine AW_ret (end_x [] [] (by simp [List.range_succ, lk_cons, lk_nil, upd_app]) (by simp) ?_)
                                                                                                                  simp (disch := omega) [wrap64, List.getElem?_eq_getElem, toNat_pred, List.range_succ, e, e2, e3, e4, e5, e6, e7, eqB_self, mkL_len, take_mkL, DtCatalog.cells, DtUps.cells, mvUps, hml]
                                                                                                                  all_goals skip
                                                                                                            · try simp at hc37
                                                                                                              all_goals
                                                                                                                refine AW_skip ?_
                                                                                                                refine AW_id ?_
                                                                                                                refine AW_x rfl rfl fun K hK => ?_
                                                                                                                simp (disch := omega) [wrap64, List.getElem?_eq_getElem, toNat_pred, List.range_succ, e, e2, e3, e4, e5, e6, e7, eqB_self, mkL_len, take_mkL, DtCatalog.cells, DtUps.cells, mvUps, hml]
                                                                                                                repeat' first | (exfalso; omega) | (refine XKd_v (am2s_cons am2_sl (am2s_cons am2_g am2s_nil)) (heldStringS (swpG c u).length (1 + cvUps (swpU c u)) (by omega) (by omega)) rfl ?_; simp (disch := omega) [wrap64, List.getElem?_eq_getElem, toNat_pred, List.range_succ, e, e2, e3, e4, e5, e6, e7, eqB_self, mkL_len, take_mkL, DtCatalog.cells, DtUps.cells, mvUps, hml]) | (refine XKd_p (heldStringS (swpG c u).length (1 + cvUps (swpU c u)) (by omega) (by omega)) (by rfl) ?_ ?_; (focus (simp (disch := omega) [wrap64, List.getElem?_eq_getElem, toNat_pred, List.range_succ, e, e2, e3, e4, e5, e6, e7, eqB_self, mkL_len, take_mkL, DtCatalog.cells, DtUps.cells, mvUps, hml, take_map_n]; done)); simp (disch := omega) [wrap64, List.getElem?_eq_getElem, toNat_pred, List.range_succ, e, e2, e3, e4, e5, e6, e7, eqB_self, mkL_len, take_mkL, DtCatalog.cells, DtUps.cells, mvUps, hml]) | (refine ⟨fun _ => ?_, fun _ => ?_⟩) | (refine ⟨by omega, ?_⟩) | (intro _)
                                                                                                                all_goals (refine hK _ ?_; clear hK K)
                                                                                                                all_goals
                                                                                                                  refine AW_seq ?_
                                                                                                                  refine AW_x rfl rfl fun K hK => ?_
                                                                                                                  simp (disch := omega) [wrap64, List.getElem?_eq_getElem, toNat_pred, List.range_succ, e, e2, e3, e4, e5, e6, e7, eqB_self, mkL_len, take_mkL, DtCatalog.cells, DtUps.cells, mvUps, hml]
                                                                                                                  repeat' first | (exfalso; omega) | (refine ⟨fun _ => ?_, fun _ => ?_⟩) | (refine ⟨by omega, ?_⟩) | (intro _)
                                                                                                                  all_goals (refine hK _ ?_; clear hK K)
                                                                                                                  all_goals
                                                                                                                    refine AW_cond rfl (fun hc38 => ?_) (fun hc38 => ?_)
                                                                                                                    · try simp at hc38
                                                                                                                      all_goals
                                                                                                                        refine AW_x rfl rfl fun K hK => ?_
                                                                                                                        simp (disch := omega) [wrap64, List.getElem?_eq_getElem, toNat_pred, List.range_succ, e, e2, e3, e4, e5, e6, e7, eqB_self, mkL_len, take_mkL, DtCatalog.cells, DtUps.cells, mvUps, hml]
                                                                                                                        repeat' first | (exfalso; omega) | (refine ⟨fun _ => ?_, fun _ => ?_⟩) | (refine ⟨by omega, ?_⟩) | (intro _)
                                                                                                                        all_goals (refine hK _ ?_; clear hK K)
                                                                                                                        all_goals
                                                                                                                          refine AW_ret (end_x [] [] (by simp [List.range_succ, lk_cons, lk_nil, upd_app]) (by simp) ?_)
                                                                                                                          simp (disch := omega) [wrap64, List.getElem?_eq_getElem, toNat_pred, List.range_succ, e, e2, e3, e4, e5, e6, e7, eqB_self, mkL_len, take_mkL, DtCatalog.cells, DtUps.cells, mvUps, hml]
                                                                                                                          all_goals skip
                                                                                                                    · try simp at hc38
                                                                                                                      all_goals
                                                                                                                        refine AW_skip ?_
                                                                                                                        refine AW_id ?_
                                                                                                                        refine AW_seq ?_
                                                                                                                        refine AW_trim [4, 13, 14] ?_
                                                                                                                        simp only [List.map_cons, List.map_nil, upd_app, lkE_app, lk_cons, lk_nil, Nat.reduceBEq, cond_true, cond_false, Bool.cond_true, Bool.cond_false, Option.getD_some, Option.getD_none]
                                                                                                                        refine AW_x rfl rfl fun K hK => ?_
                                                                                                                        simp (disch := omega) [wrap64, List.getElem?_eq_getElem, toNat_pred, List.range_succ, e, e2, e3, e4, e5, e6, e7, eqB_self, mkL_len, take_mkL, DtCatalog.cells, DtUps.cells, mvUps, hml]
                                                                                                                        repeat' first | (exfalso; omega) | (refine ⟨fun _ => ?_, fun _ => ?_⟩) | (refine ⟨by omega, ?_⟩) | (intro _)
                                                                                                                        all_goals (refine hK _ ?_; clear hK K)
                                                                                                                        all_goals
                                                                                                                          refine AW_cond rfl (fun hc39 => ?_) (fun hc39 => ?_)
                                                                                                                          · try simp at hc39
                                                                                                                            all_goals
                                                                                                                              refine AW_x rfl rfl fun K hK => ?_
                                                                                                                              simp (disch := omega) [wrap64, List.getElem?_eq_getElem, toNat_pred, List.range_succ, e, e2, e3, e4, e5, e6, e7, eqB_self, mkL_len, take_mkL, DtCatalog.cells, DtUps.cells, mvUps, hml]
                                                                                                                              repeat' first | (exfalso; omega) | (refine ⟨fun _ => ?_, fun _ => ?_⟩) | (refine ⟨by omega, ?_⟩) | (intro _)
                                                                                                                              all_goals (refine hK _ ?_; clear hK K)
                                                                                                                              all_goals
                                                                                                                                refine AW_ret (end_x [] [] (by simp [List.range_succ, lk_cons, lk_nil, upd_app]) (by simp) ?_)
                                                                                                                                simp (disch := omega) [wrap64, List.getElem?_eq_getElem, toNat_pred, List.range_succ, e, e2, e3, e4, e5, e6, e7, eqB_self, mkL_len, take_mkL, DtCatalog.cells, DtUps.cells, mvUps, hml]
                                                                                                                                all_goals skip
                                                                                                                          · try simp at hc39
                                                                                                                            all_goals
                                                                                                                              refine AW_skip ?_
                                                                                                                              refine AW_id ?_
                                                                                                                              refine AW_x rfl rfl fun K hK => ?_
                                                                                                                              simp (disch := omega) [wrap64, List.getElem?_eq_getElem, toNat_pred, List.range_succ, e, e2, e3, e4, e5, e6, e7, eqB_self, mkL_len, take_mkL, DtCatalog.cells, DtUps.cells, mvUps, hml]
                                                                                                                              repeat' first | (exfalso; omega) | (refine ⟨fun _ => ?_, fun _ => ?_⟩) | (refine ⟨by omega, ?_⟩) | (intro _)
                                                                                                                              all_goals (refine hK _ ?_; clear hK K)
                                                                                                                              all_goals
                                                                                                                                refine AW_ret (end_x [] [] (by simp [List.range_succ, lk_cons, lk_nil, upd_app]) (by simp) ?_)
                                                                                                                                simp (disch := omega) [wrap64, List.getElem?_eq_getElem, toNat_pred, List.range_succ, e, e2, e3, e4, e5, e6, e7, eqB_self, mkL_len, take_mkL, DtCatalog.cells, DtUps.cells, mvUps, hml]
                                                                                                                                all_goals skip
theorem lawSweep (c : DtCatalog) (hw : DtCatalog.wf c) (u : DtUps) (hv : DtUps.wf u) : PCall Try.prog 6 [.agg (DtCatalog.cells c), .agg (DtUps.cells u)] (.g (.bool (true))) := pcall_scal (lawSweepX c hw u hv)
end Go.Proofs.Ytcedomdpbgjbpaa.Vs
