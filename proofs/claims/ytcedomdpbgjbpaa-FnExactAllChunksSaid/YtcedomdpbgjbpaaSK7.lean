import Derived.Test.YtcedomdpbgjbpaaSB7
open Go Go.Proofs Go.Proofs.Ytcedomdpbgjbpaa.Vs
namespace Go.Proofs.Ytcedomdpbgjbpaa.Vs
set_option linter.unusedVariables false
set_option linter.unusedSimpArgs false
set_option linter.unusedSectionVars false
set_option linter.unnecessarySimpa false
set_option linter.all false
set_option linter.unusedSimpArgs false
set_option linter.unusedVariables false
set_option maxRecDepth 100000
theorem snC_le : ∀ l : List DtCSnap, (∀ p ∈ l, p.fChunks.length ≤ 4 ∧ ∀ x ∈ p.fChunks, x.length = 8) → (snC l).length ≤ 4 * l.length ∧ ∀ x ∈ snC l, x.length = 8
  | [], _ => by simp [snC]
  | p :: l, h => by
    have h1 := snC_le l fun q hq => h q (by simp [hq])
    have h2 := h p (by simp)
    have e : snC (p :: l) = p.fChunks ++ snC l := by simp [snC]
    rw [e, List.length_append]
    refine ⟨by simp only [List.length_cons]; omega, fun x hx => ?_⟩
    rcases List.mem_append.1 hx with hx | hx
    · exact h2.2 x hx
    · exact h1.2 x hx
theorem seC_le : ∀ l : List DtCSet, (∀ s ∈ l, (snC s.fSnaps).length ≤ 20 ∧ ∀ x ∈ snC s.fSnaps, x.length = 8) → (seC l).length ≤ 20 * l.length ∧ ∀ x ∈ seC l, x.length = 8
  | [], _ => by simp [seC]
  | p :: l, h => by
    have h1 := seC_le l fun q hq => h q (by simp [hq])
    have h2 := h p (by simp)
    have e : seC (p :: l) = snC p.fSnaps ++ seC l := by simp [seC]
    rw [e, List.length_append]
    refine ⟨by simp only [List.length_cons]; omega, fun x hx => ?_⟩
    rcases List.mem_append.1 hx with hx | hx
    · exact h2.2 x hx
    · exact h1.2 x hx
theorem seC_cat (c : DtCatalog) (h : CatP c) : (seC c.fSets).length ≤ 100 ∧ ∀ x ∈ seC c.fSets, x.length = 8 := by
  have key := seC_le c.fSets fun s hs => by
    obtain ⟨i, hi, rfl⟩ := List.mem_iff_getElem.1 hs
    obtain ⟨⟨-, h5, hp⟩, -⟩ := h.2 i _ (List.getElem?_eq_getElem hi)
    have := snC_le c.fSets[i].fSnaps fun p hp' => by
      obtain ⟨k, hk, rfl⟩ := List.mem_iff_getElem.1 hp'
      obtain ⟨⟨-, -, -, h4, h8⟩, -⟩ := hp k _ (List.getElem?_eq_getElem hk)
      refine ⟨by omega, fun x hx => ?_⟩
      obtain ⟨j, hj, rfl⟩ := List.mem_iff_getElem.1 hx
      exact h8 j _ (List.getElem?_eq_getElem hj)
    exact ⟨by omega, this.2⟩
  have h5 := h.1
  exact ⟨by omega, key.2⟩
theorem sumZ_leS (m : Nat) : ∀ (l : List (List UInt8)), (∀ x ∈ l, x.length ≤ m) → sumZ lenZ l ≤ (l.length * m : Nat)
  | [], _ => by simp [sumZ]
  | x :: l, h => by
    have h1 := sumZ_leS m l fun y hy => h y (by simp [hy])
    have h2 := h x (by simp)
    rw [sumZ_cons, List.length_cons, Nat.add_mul]
    unfold lenZ at h1 ⊢
    omega
theorem allL_len (c : DtCatalog) : (allL c).length ≤ 100 ∧ ∀ x ∈ allL c, x.length = 8 := by
  by_cases h : CatP c
  · rw [allL_t h]
    have h1 := setS_len (seC c.fSets)
    have h2 := seC_cat c h
    exact ⟨by omega, fun x hx => h2.2 x ((setS_mem _ _).1 hx)⟩
  · rw [allL_f h]; simp
theorem allL_sz (c : DtCatalog) : szS lenZ (allL c) ≤ 1048576 := by
  have h1 := allL_len c
  have h2 := sumZ_leS 8 _ fun x hx => Nat.le_of_eq (h1.2 x hx)
  unfold szS
  omega
theorem specAllP (c : DtCatalog) (hs : DtCatalog.sz c ≤ 1048576) : PCall Try.prog 8 [.agg (DtCatalog.cells c)] (.sl 1 ((allL c).map cS)) := pcall_row (specAll c hs) (by simp)
theorem implAllP (c : DtCatalog) (hs : DtCatalog.sz c ≤ 1048576) : PCall Try.prog 10 [.agg (DtCatalog.cells c)] (.sl 1 ((allL c).map cS)) := pcall_row (implAll c hs) (by simp)
theorem lawAllX (u : DtCatalog) (hw : DtCatalog.wf u) : XCall Try.prog 3 [.agg (DtCatalog.cells u)] [] (.g (.bool (true))) [] [] := by
  have hq := DtCatalog.sz_nonneg u
  by_cases h : (1048576 : Int) - DtCatalog.sz u < 0
  · have e : szR 1048576 (DtCatalog.sz u) = -1 := by unfold szR; rw [if_pos h]
    refine xcall_of_walk Try.func3 (by rfl) (by rfl) (by rw [Try.ntmps3]; exact Nat.le_of_ble_eq_true rfl) rfl (by simp) rfl rfl ?_
    rw [Try.ntmps3]
    refine AW_x0   ?_
    refine AW_k [(0, _)] ⟨rfl, trivial⟩ ?_
    refine AW_x rfl rfl fun K hK => ?_
    simp (disch := omega) [wrap64, List.getElem?_eq_getElem, toNat_pred, e, DtCatalog.cells]
    repeat' first | (exfalso; omega) | (refine ⟨fun _ => ?_, fun _ => ?_⟩) | (refine ⟨by omega, ?_⟩) | (intro _)
    all_goals (refine hK _ ?_; clear hK K)
    all_goals
      refine AW_x rfl rfl fun K hK => ?_
      simp (disch := omega) [wrap64, List.getElem?_eq_getElem, toNat_pred, e, DtCatalog.cells]
      repeat' first | (exfalso; omega) | (refine ⟨fun _ => ?_, fun _ => ?_⟩) | (refine ⟨by omega, ?_⟩) | (intro _)
      all_goals (refine hK _ ?_; clear hK K)
      all_goals
        refine AW_x rfl rfl fun K hK => ?_
        simp (disch := omega) [wrap64, List.getElem?_eq_getElem, toNat_pred, e, DtCatalog.cells]
        repeat' first | (exfalso; omega) | (refine XKd_v (am2s_cons (am2_agg rfl) (am2s_cons am2_g am2s_nil)) (szCatalog _ _ (by omega) hw) rfl ?_; simp (disch := omega) [wrap64, List.getElem?_eq_getElem, toNat_pred, e, DtCatalog.cells]) | (refine XKd_p (szCatalog _ _ (by omega) hw) (by rfl) ?_ ?_; (focus (simp (disch := omega) [wrap64, List.getElem?_eq_getElem, toNat_pred, e, DtCatalog.cells, take_map_n]; done)); simp (disch := omega) [wrap64, List.getElem?_eq_getElem, toNat_pred, e, DtCatalog.cells]) | (refine ⟨fun _ => ?_, fun _ => ?_⟩) | (refine ⟨by omega, ?_⟩) | (intro _)
        all_goals (refine hK _ ?_; clear hK K)
        all_goals
          refine AW_seq ?_
          refine AW_x rfl rfl fun K hK => ?_
          simp (disch := omega) [wrap64, List.getElem?_eq_getElem, toNat_pred, e, DtCatalog.cells]
          repeat' first | (exfalso; omega) | (refine ⟨fun _ => ?_, fun _ => ?_⟩) | (refine ⟨by omega, ?_⟩) | (intro _)
          all_goals (refine hK _ ?_; clear hK K)
          all_goals
            refine AW_cond rfl (fun hc1 => ?_) (fun hc1 => ?_)
            · try simp at hc1
              all_goals
                refine AW_x rfl rfl fun K hK => ?_
                simp (disch := omega) [wrap64, List.getElem?_eq_getElem, toNat_pred, e, DtCatalog.cells]
                repeat' first | (exfalso; omega) | (refine ⟨fun _ => ?_, fun _ => ?_⟩) | (refine ⟨by omega, ?_⟩) | (intro _)
                all_goals (refine hK _ ?_; clear hK K)
                all_goals
                  refine AW_ret (end_x [] [] (by simp [List.range_succ, lk_cons, lk_nil, upd_app]) (by simp) ?_)
                  simp (disch := omega) [wrap64, List.getElem?_eq_getElem, toNat_pred, e, DtCatalog.cells]
                  all_goals skip
            · try simp at hc1
              all_goals
                refine AW_skip ?_
                refine AW_id ?_
                refine AW_x rfl rfl fun K hK => ?_
                simp (disch := omega) [wrap64, List.getElem?_eq_getElem, toNat_pred, e, DtCatalog.cells]
                repeat' first | (exfalso; omega) | (refine ⟨fun _ => ?_, fun _ => ?_⟩) | (refine ⟨by omega, ?_⟩) | (intro _)
                all_goals (refine hK _ ?_; clear hK K)
                all_goals
                  refine AW_x rfl rfl fun K hK => ?_
                  simp (disch := omega) [wrap64, List.getElem?_eq_getElem, toNat_pred, e, DtCatalog.cells]
                  repeat' first | (exfalso; omega) | (refine ⟨fun _ => ?_, fun _ => ?_⟩) | (refine ⟨by omega, ?_⟩) | (intro _)
                  all_goals (refine hK _ ?_; clear hK K)
                  all_goals
                    refine AW_x rfl rfl fun K hK => ?_
                    simp (disch := omega) [wrap64, List.getElem?_eq_getElem, toNat_pred, e, DtCatalog.cells]
                    repeat' first | (exfalso; omega) | (refine ⟨fun _ => ?_, fun _ => ?_⟩) | (refine ⟨by omega, ?_⟩) | (intro _)
                    all_goals (refine hK _ ?_; clear hK K)
                    all_goals
                      refine AW_seq ?_
                      refine AW_x rfl rfl fun K hK => ?_
                      simp (disch := omega) [wrap64, List.getElem?_eq_getElem, toNat_pred, e, DtCatalog.cells]
                      repeat' first | (exfalso; omega) | (refine ⟨fun _ => ?_, fun _ => ?_⟩) | (refine ⟨by omega, ?_⟩) | (intro _)
                      all_goals (refine hK _ ?_; clear hK K)
                      all_goals
                        refine AW_cond rfl (fun hc2 => ?_) (fun hc2 => ?_)
                        · try simp at hc2
                          all_goals
                            refine AW_x rfl rfl fun K hK => ?_
                            simp (disch := omega) [wrap64, List.getElem?_eq_getElem, toNat_pred, e, DtCatalog.cells]
                            repeat' first | (exfalso; omega) | (refine ⟨fun _ => ?_, fun _ => ?_⟩) | (refine ⟨by omega, ?_⟩) | (intro _)
                            all_goals (refine hK _ ?_; clear hK K)
                            all_goals
                              refine AW_ret (end_x [] [] (by simp [List.range_succ, lk_cons, lk_nil, upd_app]) (by simp) ?_)
                              simp (disch := omega) [wrap64, List.getElem?_eq_getElem, toNat_pred, e, DtCatalog.cells]
                              all_goals skip
                        · try simp at hc2
                          all_goals
                            refine AW_skip ?_
                            refine AW_id ?_
                            refine AW_seq ?_
                            refine AW_d rfl mix (by kernel_rfl) (by kernel_rfl) fun K hK => ?_
                            simp (disch := omega) [wrap64, List.getElem?_eq_getElem, toNat_pred, e, DtCatalog.cells]
                            repeat' first | (exfalso; omega) | (refine ⟨fun _ => ?_, fun _ => ?_⟩) | (refine ⟨by omega, ?_⟩) | (intro _)
                            all_goals (refine hK _ _ (by kernel_rfl) ?_; clear hK K)
                            all_goals
                              refine AW_cond rfl (fun hc3 => ?_) (fun hc3 => ?_)
                              · try simp at hc3
                                all_goals
                                  refine AW_x rfl rfl fun K hK => ?_
                                  simp (disch := omega) [wrap64, List.getElem?_eq_getElem, toNat_pred, e, DtCatalog.cells]
                                  repeat' first | (exfalso; omega) | (refine ⟨fun _ => ?_, fun _ => ?_⟩) | (refine ⟨by omega, ?_⟩) | (intro _)
                                  all_goals (refine hK _ ?_; clear hK K)
                                  all_goals
                                    refine AW_ret (end_x [] [] (by simp [List.range_succ, lk_cons, lk_nil, upd_app]) (by simp) ?_)
                                    simp (disch := omega) [wrap64, List.getElem?_eq_getElem, toNat_pred, e, DtCatalog.cells]
                                    all_goals skip
                              · try simp at hc3
                                all_goals
                                  refine AW_skip ?_
                                  refine AW_id ?_
                                  refine AW_x rfl rfl fun K hK => ?_
                                  simp (disch := omega) [wrap64, List.getElem?_eq_getElem, toNat_pred, e, DtCatalog.cells]
                                  repeat' first | (exfalso; omega) | (refine ⟨fun _ => ?_, fun _ => ?_⟩) | (refine ⟨by omega, ?_⟩) | (intro _)
                                  all_goals (refine hK _ ?_; clear hK K)
                                  all_goals
                                    refine AW_x rfl rfl fun K hK => ?_
                                    simp (disch := omega) [wrap64, List.getElem?_eq_getElem, toNat_pred, e, DtCatalog.cells]
                                    repeat' first | (exfalso; omega) | (refine ⟨fun _ => ?_, fun _ => ?_⟩) | (refine ⟨by omega, ?_⟩) | (intro _)
                                    all_goals (refine hK _ ?_; clear hK K)
                                    all_goals
                                      refine AW_seq ?_
                                      refine AW_x rfl rfl fun K hK => ?_
                                      simp (disch := omega) [wrap64, List.getElem?_eq_getElem, toNat_pred, e, DtCatalog.cells]
                                      repeat' first | (exfalso; omega) | (refine ⟨fun _ => ?_, fun _ => ?_⟩) | (refine ⟨by omega, ?_⟩) | (intro _)
                                      all_goals (refine hK _ ?_; clear hK K)
                                      all_goals
                                        refine AW_cond rfl (fun hc4 => ?_) (fun hc4 => ?_)
                                        · try simp at hc4
                                          all_goals
                                            refine AW_x rfl rfl fun K hK => ?_
                                            simp (disch := omega) [wrap64, List.getElem?_eq_getElem, toNat_pred, e, DtCatalog.cells]
                                            repeat' first | (exfalso; omega) | (refine ⟨fun _ => ?_, fun _ => ?_⟩) | (refine ⟨by omega, ?_⟩) | (intro _)
                                            all_goals (refine hK _ ?_; clear hK K)
                                            all_goals
                                              refine AW_ret (end_x [] [] (by simp [List.range_succ, lk_cons, lk_nil, upd_app]) (by simp) ?_)
                                              simp (disch := omega) [wrap64, List.getElem?_eq_getElem, toNat_pred, e, DtCatalog.cells]
                                              all_goals skip
                                        · try simp at hc4
                                          all_goals
                                            refine AW_skip ?_
                                            refine AW_id ?_
                                            refine AW_x rfl rfl fun K hK => ?_
                                            simp (disch := omega) [wrap64, List.getElem?_eq_getElem, toNat_pred, e, DtCatalog.cells]
                                            repeat' first | (exfalso; omega) | (refine ⟨fun _ => ?_, fun _ => ?_⟩) | (refine ⟨by omega, ?_⟩) | (intro _)
                                            all_goals (refine hK _ ?_; clear hK K)
                                            all_goals
                                              refine AW_x rfl rfl fun K hK => ?_
                                              simp (disch := omega) [wrap64, List.getElem?_eq_getElem, toNat_pred, e, DtCatalog.cells]
                                              repeat' first | (exfalso; omega) | (refine ⟨fun _ => ?_, fun _ => ?_⟩) | (refine ⟨by omega, ?_⟩) | (intro _)
                                              all_goals (refine hK _ ?_; clear hK K)
                                              all_goals
                                                refine AW_x rfl rfl fun K hK => ?_
                                                simp (disch := omega) [wrap64, List.getElem?_eq_getElem, toNat_pred, e, DtCatalog.cells]
                                                repeat' first | (exfalso; omega) | (refine ⟨fun _ => ?_, fun _ => ?_⟩) | (refine ⟨by omega, ?_⟩) | (intro _)
                                                all_goals (refine hK _ ?_; clear hK K)
                                                all_goals
                                                  refine AW_x rfl rfl fun K hK => ?_
                                                  simp (disch := omega) [wrap64, List.getElem?_eq_getElem, toNat_pred, e, DtCatalog.cells]
                                                  repeat' first | (exfalso; omega) | (refine ⟨fun _ => ?_, fun _ => ?_⟩) | (refine ⟨by omega, ?_⟩) | (intro _)
                                                  all_goals (refine hK _ ?_; clear hK K)
                                                  all_goals
                                                    refine AW_seq ?_
                                                    refine AW_x rfl rfl fun K hK => ?_
                                                    simp (disch := omega) [wrap64, List.getElem?_eq_getElem, toNat_pred, e, DtCatalog.cells]
                                                    repeat' first | (exfalso; omega) | (refine ⟨fun _ => ?_, fun _ => ?_⟩) | (refine ⟨by omega, ?_⟩) | (intro _)
                                                    all_goals (refine hK _ ?_; clear hK K)
                                                    all_goals
                                                      refine AW_cond rfl (fun hc5 => ?_) (fun hc5 => ?_)
                                                      · try simp at hc5
                                                        all_goals
                                                          refine AW_x rfl rfl fun K hK => ?_
                                                          simp (disch := omega) [wrap64, List.getElem?_eq_getElem, toNat_pred, e, DtCatalog.cells]
                                                          repeat' first | (exfalso; omega) | (refine ⟨fun _ => ?_, fun _ => ?_⟩) | (refine ⟨by omega, ?_⟩) | (intro _)
                                                          all_goals (refine hK _ ?_; clear hK K)
                                                          all_goals
                                                            refine AW_ret (end_x [] [] (by simp [List.range_succ, lk_cons, lk_nil, upd_app]) (by simp) ?_)
                                                            simp (disch := omega) [wrap64, List.getElem?_eq_getElem, toNat_pred, e, DtCatalog.cells]
                                                            all_goals skip
                                                      · try simp at hc5
                                                        all_goals
                                                          refine AW_skip ?_
                                                          refine AW_id ?_
                                                          refine AW_seq ?_
                                                          refine AW_x rfl rfl fun K hK => ?_
                                                          simp (disch := omega) [wrap64, List.getElem?_eq_getElem, toNat_pred, e, DtCatalog.cells]
                                                          repeat' first | (exfalso; omega) | (refine ⟨fun _ => ?_, fun _ => ?_⟩) | (refine ⟨by omega, ?_⟩) | (intro _)
                                                          all_goals (refine hK _ ?_; clear hK K)
                                                          all_goals
                                                            refine AW_cond rfl (fun hc6 => ?_) (fun hc6 => ?_)
                                                            · try simp at hc6
                                                              all_goals
                                                                refine AW_x rfl rfl fun K hK => ?_
                                                                simp (disch := omega) [wrap64, List.getElem?_eq_getElem, toNat_pred, e, DtCatalog.cells]
                                                                repeat' first | (exfalso; omega) | (refine ⟨fun _ => ?_, fun _ => ?_⟩) | (refine ⟨by omega, ?_⟩) | (intro _)
                                                                all_goals (refine hK _ ?_; clear hK K)
                                                                all_goals
                                                                  refine AW_ret (end_x [] [] (by simp [List.range_succ, lk_cons, lk_nil, upd_app]) (by simp) ?_)
                                                                  simp (disch := omega) [wrap64, List.getElem?_eq_getElem, toNat_pred, e, DtCatalog.cells]
                                                                  all_goals skip
                                                            · try simp at hc6
                                                              all_goals
                                                                refine AW_skip ?_
                                                                refine AW_id ?_
                                                                refine AW_x rfl rfl fun K hK => ?_
                                                                simp (disch := omega) [wrap64, List.getElem?_eq_getElem, toNat_pred, e, DtCatalog.cells]
                                                                repeat' first | (exfalso; omega) | (refine ⟨fun _ => ?_, fun _ => ?_⟩) | (refine ⟨by omega, ?_⟩) | (intro _)
                                                                all_goals (refine hK _ ?_; clear hK K)
                                                                all_goals
                                                                  refine AW_seq ?_
                                                                  refine AW_x rfl rfl fun K hK => ?_
                                                                  simp (disch := omega) [wrap64, List.getElem?_eq_getElem, toNat_pred, e, DtCatalog.cells]
                                                                  repeat' first | (exfalso; omega) | (refine ⟨fun _ => ?_, fun _ => ?_⟩) | (refine ⟨by omega, ?_⟩) | (intro _)
                                                                  all_goals (refine hK _ ?_; clear hK K)
                                                                  all_goals
                                                                    refine AW_cond rfl (fun hc7 => ?_) (fun hc7 => ?_)
                                                                    · try simp at hc7
                                                                      all_goals
                                                                        refine AW_x rfl rfl fun K hK => ?_
                                                                        simp (disch := omega) [wrap64, List.getElem?_eq_getElem, toNat_pred, e, DtCatalog.cells]
                                                                        repeat' first | (exfalso; omega) | (refine ⟨fun _ => ?_, fun _ => ?_⟩) | (refine ⟨by omega, ?_⟩) | (intro _)
                                                                        all_goals (refine hK _ ?_; clear hK K)
                                                                        all_goals
                                                                          refine AW_ret (end_x [] [] (by simp [List.range_succ, lk_cons, lk_nil, upd_app]) (by simp) ?_)
                                                                          simp (disch := omega) [wrap64, List.getElem?_eq_getElem, toNat_pred, e, DtCatalog.cells]
                                                                          all_goals skip
                                                                    · try simp at hc7
                                                                      all_goals
                                                                        refine AW_skip ?_
                                                                        refine AW_id ?_
                                                                        refine AW_x rfl rfl fun K hK => ?_
                                                                        simp (disch := omega) [wrap64, List.getElem?_eq_getElem, toNat_pred, e, DtCatalog.cells]
                                                                        repeat' first | (exfalso; omega) | (refine ⟨fun _ => ?_, fun _ => ?_⟩) | (refine ⟨by omega, ?_⟩) | (intro _)
                                                                        all_goals (refine hK _ ?_; clear hK K)
                                                                        all_goals
                                                                          refine AW_x rfl rfl fun K hK => ?_
                                                                          simp (disch := omega) [wrap64, List.getElem?_eq_getElem, toNat_pred, e, DtCatalog.cells]
                                                                          repeat' first | (exfalso; omega) | (refine ⟨fun _ => ?_, fun _ => ?_⟩) | (refine ⟨by omega, ?_⟩) | (intro _)
                                                                          all_goals (refine hK _ ?_; clear hK K)
                                                                          all_goals
                                                                            refine AW_seq ?_
                                                                            refine AW_x rfl rfl fun K hK => ?_
                                                                            simp (disch := omega) [wrap64, List.getElem?_eq_getElem, toNat_pred, e, DtCatalog.cells]
                                                                            repeat' first | (exfalso; omega) | (refine ⟨fun _ => ?_, fun _ => ?_⟩) | (refine ⟨by omega, ?_⟩) | (intro _)
                                                                            all_goals (refine hK _ ?_; clear hK K)
                                                                            all_goals
                                                                              refine AW_cond rfl (fun hc8 => ?_) (fun hc8 => ?_)
                                                                              · try simp at hc8
                                                                                all_goals
                                                                                  refine AW_x rfl rfl fun K hK => ?_
                                                                                  simp (disch := omega) [wrap64, List.getElem?_eq_getElem, toNat_pred, e, DtCatalog.cells]
                                                                                  repeat' first | (exfalso; omega) | (refine ⟨fun _ => ?_, fun _ => ?_⟩) | (refine ⟨by omega, ?_⟩) | (intro _)
                                                                                  all_goals (refine hK _ ?_; clear hK K)
                                                                                  all_goals
                                                                                    refine AW_ret (end_x [] [] (by simp [List.range_succ, lk_cons, lk_nil, upd_app]) (by simp) ?_)
                                                                                    simp (disch := omega) [wrap64, List.getElem?_eq_getElem, toNat_pred, e, DtCatalog.cells]
                                                                                    all_goals skip
                                                                              · try simp at hc8
                                                                                all_goals
                                                                                  refine AW_skip ?_
                                                                                  refine AW_id ?_
                                                                                  refine AW_seq ?_
                                                                                  refine AW_x rfl rfl fun K hK => ?_
                                                                                  simp (disch := omega) [wrap64, List.getElem?_eq_getElem, toNat_pred, e, DtCatalog.cells]
                                                                                  repeat' first | (exfalso; omega) | (refine ⟨fun _ => ?_, fun _ => ?_⟩) | (refine ⟨by omega, ?_⟩) | (intro _)
                                                                                  all_goals (refine hK _ ?_; clear hK K)
                                                                                  all_goals
                                                                                    refine AW_cond rfl (fun hc9 => ?_) (fun hc9 => ?_)
                                                                                    · try simp at hc9
                                                                                      all_goals
                                                                                        refine AW_x rfl rfl fun K hK => ?_
                                                                                        simp (disch := omega) [wrap64, List.getElem?_eq_getElem, toNat_pred, e, DtCatalog.cells]
                                                                                        repeat' first | (exfalso; omega) | (refine ⟨fun _ => ?_, fun _ => ?_⟩) | (refine ⟨by omega, ?_⟩) | (intro _)
                                                                                        all_goals (refine hK _ ?_; clear hK K)
                                                                                        all_goals
                                                                                          refine AW_ret (end_x [] [] (by simp [List.range_succ, lk_cons, lk_nil, upd_app]) (by simp) ?_)
                                                                                          simp (disch := omega) [wrap64, List.getElem?_eq_getElem, toNat_pred, e, DtCatalog.cells]
                                                                                          all_goals skip
                                                                                    · try simp at hc9
                                                                                      all_goals
                                                                                        refine AW_skip ?_
                                                                                        refine AW_id ?_
                                                                                        refine AW_x rfl rfl fun K hK => ?_
                                                                                        simp (disch := omega) [wrap64, List.getElem?_eq_getElem, toNat_pred, e, DtCatalog.cells]
                                                                                        repeat' first | (exfalso; omega) | (refine ⟨fun _ => ?_, fun _ => ?_⟩) | (refine ⟨by omega, ?_⟩) | (intro _)
                                                                                        all_goals (refine hK _ ?_; clear hK K)
                                                                                        all_goals
                                                                                          refine AW_ret (end_x [] [] (by simp [List.range_succ, lk_cons, lk_nil, upd_app]) (by simp) ?_)
                                                                                          simp (disch := omega) [wrap64, List.getElem?_eq_getElem, toNat_pred, e, DtCatalog.cells]
                                                                                          all_goals skip
  · have e : szR 1048576 (DtCatalog.sz u) = 1048576 - DtCatalog.sz u := by unfold szR; rw [if_neg h]
    have e2 : (0 : Int) ≤ 1048576 - DtCatalog.sz u := by omega
    have hkl := allL_len u
    have hcv := cntCatalog_sz u
    have hcn := cvCatalog_nn u
    have hcc : cvCatalog u = cntCatalog u := rfl
    refine xcall_of_walk Try.func3 (by rfl) (by rfl) (by rw [Try.ntmps3]; exact Nat.le_of_ble_eq_true rfl) rfl (by simp) rfl rfl ?_
    rw [Try.ntmps3]
    refine AW_x0   ?_
    refine AW_k [(0, _)] ⟨rfl, trivial⟩ ?_
    refine AW_x rfl rfl fun K hK => ?_
    simp (disch := omega) [wrap64, List.getElem?_eq_getElem, toNat_pred, e, e2, eqB_self, mkL_len, take_mkL, DtCatalog.cells]
    repeat' first | (exfalso; omega) | (refine ⟨fun _ => ?_, fun _ => ?_⟩) | (refine ⟨by omega, ?_⟩) | (intro _)
    all_goals (refine hK _ ?_; clear hK K)
    all_goals
      refine AW_x rfl rfl fun K hK => ?_
      simp (disch := omega) [wrap64, List.getElem?_eq_getElem, toNat_pred, e, e2, eqB_self, mkL_len, take_mkL, DtCatalog.cells]
      repeat' first | (exfalso; omega) | (refine ⟨fun _ => ?_, fun _ => ?_⟩) | (refine ⟨by omega, ?_⟩) | (intro _)
      all_goals (refine hK _ ?_; clear hK K)
      all_goals
        refine AW_x rfl rfl fun K hK => ?_
        simp (disch := omega) [wrap64, List.getElem?_eq_getElem, toNat_pred, e, e2, eqB_self, mkL_len, take_mkL, DtCatalog.cells]
        repeat' first | (exfalso; omega) | (refine XKd_v (am2s_cons (am2_agg rfl) (am2s_cons am2_g am2s_nil)) (szCatalog _ _ (by omega) hw) rfl ?_; simp (disch := omega) [wrap64, List.getElem?_eq_getElem, toNat_pred, e, e2, eqB_self, mkL_len, take_mkL, DtCatalog.cells]) | (refine XKd_p (szCatalog _ _ (by omega) hw) (by rfl) ?_ ?_; (focus (simp (disch := omega) [wrap64, List.getElem?_eq_getElem, toNat_pred, e, e2, eqB_self, mkL_len, take_mkL, DtCatalog.cells, take_map_n]; done)); simp (disch := omega) [wrap64, List.getElem?_eq_getElem, toNat_pred, e, e2, eqB_self, mkL_len, take_mkL, DtCatalog.cells]) | (refine ⟨fun _ => ?_, fun _ => ?_⟩) | (refine ⟨by omega, ?_⟩) | (intro _)
        all_goals (refine hK _ ?_; clear hK K)
        all_goals
          refine AW_seq ?_
          refine AW_x rfl rfl fun K hK => ?_
          simp (disch := omega) [wrap64, List.getElem?_eq_getElem, toNat_pred, e, e2, eqB_self, mkL_len, take_mkL, DtCatalog.cells]
          repeat' first | (exfalso; omega) | (refine ⟨fun _ => ?_, fun _ => ?_⟩) | (refine ⟨by omega, ?_⟩) | (intro _)
          all_goals (refine hK _ ?_; clear hK K)
          all_goals
            refine AW_cond rfl (fun hc10 => ?_) (fun hc10 => ?_)
            · try simp at hc10
              all_goals
                refine AW_x rfl rfl fun K hK => ?_
                simp (disch := omega) [wrap64, List.getElem?_eq_getElem, toNat_pred, e, e2, eqB_self, mkL_len, take_mkL, DtCatalog.cells]
                repeat' first | (exfalso; omega) | (refine ⟨fun _ => ?_, fun _ => ?_⟩) | (refine ⟨by omega, ?_⟩) | (intro _)
                all_goals (refine hK _ ?_; clear hK K)
                all_goals
                  refine AW_ret (end_x [] [] (by simp [List.range_succ, lk_cons, lk_nil, upd_app]) (by simp) ?_)
                  simp (disch := omega) [wrap64, List.getElem?_eq_getElem, toNat_pred, e, e2, eqB_self, mkL_len, take_mkL, DtCatalog.cells]
                  all_goals skip
            · try simp at hc10
              all_goals
                refine AW_skip ?_
                refine AW_id ?_
                refine AW_x rfl rfl fun K hK => ?_
                simp (disch := omega) [wrap64, List.getElem?_eq_getElem, toNat_pred, e, e2, eqB_self, mkL_len, take_mkL, DtCatalog.cells]
                repeat' first | (exfalso; omega) | (refine XKd_x [] true [] (toCatalogX u (by omega)) ?_ ?_ ?_; (focus (simp [List.range_succ, nmC]; done)); (focus (simp (disch := omega) [wrap64, List.getElem?_eq_getElem, toNat_pred, e, e2, eqB_self, mkL_len, take_mkL, DtCatalog.cells, take_map_n]; done)); simp (disch := omega) [wrap64, List.getElem?_eq_getElem, toNat_pred, e, e2, eqB_self, mkL_len, take_mkL, DtCatalog.cells]) | (refine XKd_v (am2s_cons (am2_agg rfl) am2s_nil) (toCatalog u (by omega)) rfl ?_; simp (disch := omega) [wrap64, List.getElem?_eq_getElem, toNat_pred, e, e2, eqB_self, mkL_len, take_mkL, DtCatalog.cells]) | (refine XKd_p (toCatalog u (by omega)) (by rfl) ?_ ?_; (focus (simp (disch := omega) [wrap64, List.getElem?_eq_getElem, toNat_pred, e, e2, eqB_self, mkL_len, take_mkL, DtCatalog.cells, take_map_n]; done)); simp (disch := omega) [wrap64, List.getElem?_eq_getElem, toNat_pred, e, e2, eqB_self, mkL_len, take_mkL, DtCatalog.cells]) | (refine XKd_x [] true [] (specAll u (by omega)) ?_ ?_ ?_; (focus (simp [List.range_succ, nmC]; done)); (focus (simp (disch := omega) [wrap64, List.getElem?_eq_getElem, toNat_pred, e, e2, eqB_self, mkL_len, take_mkL, DtCatalog.cells, take_map_n]; done)); simp (disch := omega) [wrap64, List.getElem?_eq_getElem, toNat_pred, e, e2, eqB_self, mkL_len, take_mkL, DtCatalog.cells]) | (refine ⟨fun _ => ?_, fun _ => ?_⟩) | (refine ⟨by omega, ?_⟩) | (intro _)
                all_goals (refine hK _ ?_; clear hK K)
                all_goals
                  refine AW_x rfl rfl fun K hK => ?_
                  simp (disch := omega) [wrap64, List.getElem?_eq_getElem, toNat_pred, e, e2, eqB_self, mkL_len, take_mkL, DtCatalog.cells]
                  repeat' first | (exfalso; omega) | (refine XKd_x [] true [] (toCatalogX u (by omega)) ?_ ?_ ?_; (focus (simp [List.range_succ, nmC]; done)); (focus (simp (disch := omega) [wrap64, List.getElem?_eq_getElem, toNat_pred, e, e2, eqB_self, mkL_len, take_mkL, DtCatalog.cells, take_map_n]; done)); simp (disch := omega) [wrap64, List.getElem?_eq_getElem, toNat_pred, e, e2, eqB_self, mkL_len, take_mkL, DtCatalog.cells]) | (refine XKd_v (am2s_cons (am2_agg rfl) am2s_nil) (toCatalog u (by omega)) rfl ?_; simp (disch := omega) [wrap64, List.getElem?_eq_getElem, toNat_pred, e, e2, eqB_self, mkL_len, take_mkL, DtCatalog.cells]) | (refine XKd_p (toCatalog u (by omega)) (by rfl) ?_ ?_; (focus (simp (disch := omega) [wrap64, List.getElem?_eq_getElem, toNat_pred, e, e2, eqB_self, mkL_len, take_mkL, DtCatalog.cells, take_map_n]; done)); simp (disch := omega) [wrap64, List.getElem?_eq_getElem, toNat_pred, e, e2, eqB_self, mkL_len, take_mkL, DtCatalog.cells]) | (refine ⟨fun _ => ?_, fun _ => ?_⟩) | (refine ⟨by omega, ?_⟩) | (intro _)
                  all_goals (refine hK _ ?_; clear hK K)
                  all_goals
                    refine AW_x rfl rfl fun K hK => ?_
                    simp (disch := omega) [wrap64, List.getElem?_eq_getElem, toNat_pred, e, e2, eqB_self, mkL_len, take_mkL, DtCatalog.cells]
                    repeat' first | (exfalso; omega) | (refine XKd_x [] true [] (implAll u (by omega)) ?_ ?_ ?_; (focus (simp [List.range_succ, nmC]; done)); (focus (simp (disch := omega) [wrap64, List.getElem?_eq_getElem, toNat_pred, e, e2, eqB_self, mkL_len, take_mkL, DtCatalog.cells, take_map_n]; done)); simp (disch := omega) [wrap64, List.getElem?_eq_getElem, toNat_pred, e, e2, eqB_self, mkL_len, take_mkL, DtCatalog.cells]) | (refine ⟨fun _ => ?_, fun _ => ?_⟩) | (refine ⟨by omega, ?_⟩) | (intro _)
                    all_goals (refine hK _ ?_; clear hK K)
                    all_goals
                      refine AW_seq ?_
                      refine AW_x rfl rfl fun K hK => ?_
                      simp (disch := omega) [wrap64, List.getElem?_eq_getElem, toNat_pred, e, e2, eqB_self, mkL_len, take_mkL, DtCatalog.cells]
                      repeat' first | (exfalso; omega) | (refine XKd_v (am2s_cons am2_sl (am2s_cons am2_sl am2s_nil)) (eqStringS (allL u) (allL u) (allL_sz u)) rfl ?_; simp (disch := omega) [wrap64, List.getElem?_eq_getElem, toNat_pred, e, e2, eqB_self, mkL_len, take_mkL, DtCatalog.cells]) | (refine XKd_p (eqStringS (allL u) (allL u) (allL_sz u)) (by rfl) ?_ ?_; (focus (simp (disch := omega) [wrap64, List.getElem?_eq_getElem, toNat_pred, e, e2, eqB_self, mkL_len, take_mkL, DtCatalog.cells, take_map_n]; done)); simp (disch := omega) [wrap64, List.getElem?_eq_getElem, toNat_pred, e, e2, eqB_self, mkL_len, take_mkL, DtCatalog.cells]) | (refine ⟨fun _ => ?_, fun _ => ?_⟩) | (refine ⟨by omega, ?_⟩) | (intro _)
                      all_goals (refine hK _ ?_; clear hK K)
                      all_goals
                        refine AW_cond rfl (fun hc11 => ?_) (fun hc11 => ?_)
                        · try simp at hc11
                          all_goals
                            refine AW_x rfl rfl fun K hK => ?_
                            simp (disch := omega) [wrap64, List.getElem?_eq_getElem, toNat_pred, e, e2, eqB_self, mkL_len, take_mkL, DtCatalog.cells]
                            repeat' first | (exfalso; omega) | (refine ⟨fun _ => ?_, fun _ => ?_⟩) | (refine ⟨by omega, ?_⟩) | (intro _)
                            all_goals (refine hK _ ?_; clear hK K)
                            all_goals
                              refine AW_ret (end_x [] [] (by simp [List.range_succ, lk_cons, lk_nil, upd_app]) (by simp) ?_)
                              simp (disch := omega) [wrap64, List.getElem?_eq_getElem, toNat_pred, e, e2, eqB_self, mkL_len, take_mkL, DtCatalog.cells]
                              all_goals skip
                        · try simp at hc11
                          all_goals
                            refine AW_skip ?_
                            refine AW_id ?_
                            refine AW_seq ?_
                            refine AW_d rfl mix (by kernel_rfl) (by kernel_rfl) fun K hK => ?_
                            simp (disch := omega) [wrap64, List.getElem?_eq_getElem, toNat_pred, e, e2, eqB_self, mkL_len, take_mkL, DtCatalog.cells]
                            repeat' first | (exfalso; omega) | (refine DKd_y [] true [] (toCatalogX u (by omega)) ?_ (fun st' hst => ?_) ?_; (focus (simp [List.range_succ, nmC]; done)); (focus (simp (disch := omega) [wrap64, List.getElem?_eq_getElem, toNat_pred, e, e2, eqB_self, mkL_len, take_mkL, DtCatalog.cells, nmC, List.range_succ] at hst; simp (disch := omega) [wrap64, List.getElem?_eq_getElem, toNat_pred, e, e2, eqB_self, mkL_len, take_mkL, DtCatalog.cells, hst, take_map_n, nmC, List.range_succ]; done)); simp (disch := omega) [wrap64, List.getElem?_eq_getElem, toNat_pred, e, e2, eqB_self, mkL_len, take_mkL, DtCatalog.cells]) | (refine DKd_v (fun st' => (am2s_cons (am2_agg rfl) am2s_nil)) (toCatalog u (by omega)) rfl ?_; simp (disch := omega) [wrap64, List.getElem?_eq_getElem, toNat_pred, e, e2, eqB_self, mkL_len, take_mkL, DtCatalog.cells]) | (refine DKd_p (toCatalog u (by omega)) (by rfl) (fun st' hst => ?_) ?_; (focus (simp (disch := omega) [wrap64, List.getElem?_eq_getElem, toNat_pred, e, e2, eqB_self, mkL_len, take_mkL, DtCatalog.cells] at hst; simp (disch := omega) [wrap64, List.getElem?_eq_getElem, toNat_pred, e, e2, eqB_self, mkL_len, take_mkL, DtCatalog.cells, hst, take_map_n]; done)); simp (disch := omega) [wrap64, List.getElem?_eq_getElem, toNat_pred, e, e2, eqB_self, mkL_len, take_mkL, DtCatalog.cells]) | (refine DKd_v (fun st' => (am2s_cons (am2_agg rfl) (am2s_cons (am2_agg rfl) am2s_nil))) (eqCatalog u u (by omega)) rfl ?_; simp (disch := omega) [wrap64, List.getElem?_eq_getElem, toNat_pred, e, e2, eqB_self, mkL_len, take_mkL, DtCatalog.cells]) | (refine DKd_p (eqCatalog u u (by omega)) (by rfl) (fun st' hst => ?_) ?_; (focus (simp (disch := omega) [wrap64, List.getElem?_eq_getElem, toNat_pred, e, e2, eqB_self, mkL_len, take_mkL, DtCatalog.cells] at hst; simp (disch := omega) [wrap64, List.getElem?_eq_getElem, toNat_pred, e, e2, eqB_self, mkL_len, take_mkL, DtCatalog.cells, hst, take_map_n]; done)); simp (disch := omega) [wrap64, List.getElem?_eq_getElem, toNat_pred, e, e2, eqB_self, mkL_len, take_mkL, DtCatalog.cells]) | (refine ⟨fun _ => ?_, fun _ => ?_⟩) | (refine ⟨by omega, ?_⟩) | (intro _)
                            all_goals (refine hK _ _ (by kernel_rfl) ?_; clear hK K)
                            all_goals
                              refine AW_cond rfl (fun hc12 => ?_) (fun hc12 => ?_)
                              · try simp at hc12
                                all_goals
                                  refine AW_x rfl rfl fun K hK => ?_
                                  simp (disch := omega) [wrap64, List.getElem?_eq_getElem, toNat_pred, e, e2, eqB_self, mkL_len, take_mkL, DtCatalog.cells]
                                  repeat' first | (exfalso; omega) | (refine ⟨fun _ => ?_, fun _ => ?_⟩) | (refine ⟨by omega, ?_⟩) | (intro _)
                                  all_goals (refine hK _ ?_; clear hK K)
                                  all_goals
                                    refine AW_ret (end_x [] [] (by simp [List.range_succ, lk_cons, lk_nil, upd_app]) (by simp) ?_)
                                    simp (disch := omega) [wrap64, List.getElem?_eq_getElem, toNat_pred, e, e2, eqB_self, mkL_len, take_mkL, DtCatalog.cells]
                                    all_goals skip
                              · try simp at hc12
                                all_goals
                                  refine AW_skip ?_
                                  refine AW_id ?_
                                  refine AW_x rfl rfl fun K hK => ?_
                                  simp (disch := omega) [wrap64, List.getElem?_eq_getElem, toNat_pred, e, e2, eqB_self, mkL_len, take_mkL, DtCatalog.cells]
                                  repeat' first | (exfalso; omega) | (refine ⟨fun _ => ?_, fun _ => ?_⟩) | (refine ⟨by omega, ?_⟩) | (intro _)
                                  all_goals (refine hK _ ?_; clear hK K)
                                  all_goals
                                    refine AW_x rfl rfl fun K hK => ?_
                                    simp (disch := omega) [wrap64, List.getElem?_eq_getElem, toNat_pred, e, e2, eqB_self, mkL_len, take_mkL, DtCatalog.cells]
                                    repeat' first | (exfalso; omega) | (refine XKd_x [336] true [] (markCatalog u 1 (by omega) (by omega)) ?_ ?_ ?_; (focus (simp [List.range_succ, nmC]; done)); (focus (simp (disch := omega) [wrap64, List.getElem?_eq_getElem, toNat_pred, e, e2, eqB_self, mkL_len, take_mkL, DtCatalog.cells, take_map_n]; done)); simp (disch := omega) [wrap64, List.getElem?_eq_getElem, toNat_pred, e, e2, eqB_self, mkL_len, take_mkL, DtCatalog.cells]) | (refine ⟨fun _ => ?_, fun _ => ?_⟩) | (refine ⟨by omega, ?_⟩) | (intro _)
                                    all_goals (refine hK _ ?_; clear hK K)
                                    all_goals
                                      refine AW_seq ?_
                                      refine AW_x rfl rfl fun K hK => ?_
                                      simp (disch := omega) [wrap64, List.getElem?_eq_getElem, toNat_pred, e, e2, eqB_self, mkL_len, take_mkL, DtCatalog.cells]
                                      repeat' first | (exfalso; omega) | (refine XKd_v (am2s_cons am2_sl (am2s_cons am2_sl am2s_nil)) (eqStringS (allL u) (allL u) (allL_sz u)) rfl ?_; simp (disch := omega) [wrap64, List.getElem?_eq_getElem, toNat_pred, e, e2, eqB_self, mkL_len, take_mkL, DtCatalog.cells]) | (refine XKd_p (eqStringS (allL u) (allL u) (allL_sz u)) (by rfl) ?_ ?_; (focus (simp (disch := omega) [wrap64, List.getElem?_eq_getElem, toNat_pred, e, e2, eqB_self, mkL_len, take_mkL, DtCatalog.cells, take_map_n]; done)); simp (disch := omega) [wrap64, List.getElem?_eq_getElem, toNat_pred, e, e2, eqB_self, mkL_len, take_mkL, DtCatalog.cells]) | (refine ⟨fun _ => ?_, fun _ => ?_⟩) | (refine ⟨by omega, ?_⟩) | (intro _)
                                      all_goals (refine hK _ ?_; clear hK K)
                                      all_goals
                                        refine AW_cond rfl (fun hc13 => ?_) (fun hc13 => ?_)
                                        · try simp at hc13
                                          all_goals
                                            refine AW_x rfl rfl fun K hK => ?_
                                            simp (disch := omega) [wrap64, List.getElem?_eq_getElem, toNat_pred, e, e2, eqB_self, mkL_len, take_mkL, DtCatalog.cells]
                                            repeat' first | (exfalso; omega) | (refine ⟨fun _ => ?_, fun _ => ?_⟩) | (refine ⟨by omega, ?_⟩) | (intro _)
                                            all_goals (refine hK _ ?_; clear hK K)
                                            all_goals
                                              refine AW_ret (end_x [] [] (by simp [List.range_succ, lk_cons, lk_nil, upd_app]) (by simp) ?_)
                                              simp (disch := omega) [wrap64, List.getElem?_eq_getElem, toNat_pred, e, e2, eqB_self, mkL_len, take_mkL, DtCatalog.cells]
                                              all_goals skip
                                        · try simp at hc13
                                          all_goals
                                            refine AW_skip ?_
                                            refine AW_id ?_
                                            refine AW_x rfl rfl fun K hK => ?_
                                            simp (disch := omega) [wrap64, List.getElem?_eq_getElem, toNat_pred, e, e2, eqB_self, mkL_len, take_mkL, DtCatalog.cells]
                                            repeat' first | (exfalso; omega) | (refine ⟨fun _ => ?_, fun _ => ?_⟩) | (refine ⟨by omega, ?_⟩) | (intro _)
                                            all_goals (refine hK _ ?_; clear hK K)
                                            all_goals
                                              refine AW_x rfl rfl fun K hK => ?_
                                              simp (disch := omega) [wrap64, List.getElem?_eq_getElem, toNat_pred, e, e2, eqB_self, mkL_len, take_mkL, DtCatalog.cells]
                                              repeat' first | (exfalso; omega) | (refine XKd_x [368] true [] (markStringS (allL u) 1 (by omega) (by omega)) ?_ ?_ ?_; (focus (simp [List.range_succ, nmC]; done)); (focus (simp (disch := omega) [wrap64, List.getElem?_eq_getElem, toNat_pred, e, e2, eqB_self, mkL_len, take_mkL, DtCatalog.cells, take_map_n]; done)); simp (disch := omega) [wrap64, List.getElem?_eq_getElem, toNat_pred, e, e2, eqB_self, mkL_len, take_mkL, DtCatalog.cells]) | (refine ⟨fun _ => ?_, fun _ => ?_⟩) | (refine ⟨by omega, ?_⟩) | (intro _)
                                              all_goals (refine hK _ ?_; clear hK K)
                                              all_goals
                                                refine AW_x rfl rfl fun K hK => ?_
                                                simp (disch := omega) [wrap64, List.getElem?_eq_getElem, toNat_pred, e, e2, eqB_self, mkL_len, take_mkL, DtCatalog.cells]
                                                repeat' first | (exfalso; omega) | (refine ⟨fun _ => ?_, fun _ => ?_⟩) | (refine ⟨by omega, ?_⟩) | (intro _)
                                                all_goals (refine hK _ ?_; clear hK K)
                                                all_goals
                                                  refine AW_x rfl rfl fun K hK => ?_
                                                  simp (disch := omega) [wrap64, List.getElem?_eq_getElem, toNat_pred, e, e2, eqB_self, mkL_len, take_mkL, DtCatalog.cells]
                                                  repeat' first | (exfalso; omega) | (refine XKd_v (am2s_cons am2_sl (am2s_cons am2_g am2s_nil)) (heldStringS (allL u).length 1 (by omega) (by omega)) rfl ?_; simp (disch := omega) [wrap64, List.getElem?_eq_getElem, toNat_pred, e, e2, eqB_self, mkL_len, take_mkL, DtCatalog.cells]) | (refine XKd_p (heldStringS (allL u).length 1 (by omega) (by omega)) (by rfl) ?_ ?_; (focus (simp (disch := omega) [wrap64, List.getElem?_eq_getElem, toNat_pred, e, e2, eqB_self, mkL_len, take_mkL, DtCatalog.cells, take_map_n]; done)); simp (disch := omega) [wrap64, List.getElem?_eq_getElem, toNat_pred, e, e2, eqB_self, mkL_len, take_mkL, DtCatalog.cells]) | (refine ⟨fun _ => ?_, fun _ => ?_⟩) | (refine ⟨by omega, ?_⟩) | (intro _)
                                                  all_goals (refine hK _ ?_; clear hK K)
                                                  all_goals
                                                    refine AW_seq ?_
                                                    refine AW_x rfl rfl fun K hK => ?_
                                                    simp (disch := omega) [wrap64, List.getElem?_eq_getElem, toNat_pred, e, e2, eqB_self, mkL_len, take_mkL, DtCatalog.cells]
                                                    repeat' first | (exfalso; omega) | (refine ⟨fun _ => ?_, fun _ => ?_⟩) | (refine ⟨by omega, ?_⟩) | (intro _)
                                                    all_goals (refine hK _ ?_; clear hK K)
                                                    all_goals
                                                      refine AW_cond rfl (fun hc14 => ?_) (fun hc14 => ?_)
                                                      · try simp at hc14
                                                        all_goals
                                                          refine AW_x rfl rfl fun K hK => ?_
                                                          simp (disch := omega) [wrap64, List.getElem?_eq_getElem, toNat_pred, e, e2, eqB_self, mkL_len, take_mkL, DtCatalog.cells]
                                                          repeat' first | (exfalso; omega) | (refine ⟨fun _ => ?_, fun _ => ?_⟩) | (refine ⟨by omega, ?_⟩) | (intro _)
                                                          all_goals (refine hK _ ?_; clear hK K)
                                                          all_goals
                                                            refine AW_ret (end_x [] [] (by simp [List.range_succ, lk_cons, lk_nil, upd_app]) (by simp) ?_)
                                                            simp (disch := omega) [wrap64, List.getElem?_eq_getElem, toNat_pred, e, e2, eqB_self, mkL_len, take_mkL, DtCatalog.cells]
                                                            all_goals skip
                                                      · try simp at hc14
                                                        all_goals
                                                          refine AW_skip ?_
                                                          refine AW_id ?_
                                                          refine AW_seq ?_
                                                          refine AW_x rfl rfl fun K hK => ?_
                                                          simp (disch := omega) [wrap64, List.getElem?_eq_getElem, toNat_pred, e, e2, eqB_self, mkL_len, take_mkL, DtCatalog.cells]
                                                          repeat' first | (exfalso; omega) | (refine ⟨fun _ => ?_, fun _ => ?_⟩) | (refine ⟨by omega, ?_⟩) | (intro _)
                                                          all_goals (refine hK _ ?_; clear hK K)
                                                          all_goals
                                                            refine AW_cond rfl (fun hc15 => ?_) (fun hc15 => ?_)
                                                            · try simp at hc15
                                                              all_goals
                                                                refine AW_x rfl rfl fun K hK => ?_
                                                                simp (disch := omega) [wrap64, List.getElem?_eq_getElem, toNat_pred, e, e2, eqB_self, mkL_len, take_mkL, DtCatalog.cells]
                                                                repeat' first | (exfalso; omega) | (refine ⟨fun _ => ?_, fun _ => ?_⟩) | (refine ⟨by omega, ?_⟩) | (intro _)
                                                                all_goals (refine hK _ ?_; clear hK K)
                                                                all_goals
                                                                  refine AW_ret (end_x [] [] (by simp [List.range_succ, lk_cons, lk_nil, upd_app]) (by simp) ?_)
                                                                  simp (disch := omega) [wrap64, List.getElem?_eq_getElem, toNat_pred, e, e2, eqB_self, mkL_len, take_mkL, DtCatalog.cells]
                                                                  all_goals skip
                                                            · try simp at hc15
                                                              all_goals
                                                                refine AW_skip ?_
                                                                refine AW_id ?_
                                                                refine AW_x rfl rfl fun K hK => ?_
                                                                simp (disch := omega) [wrap64, List.getElem?_eq_getElem, toNat_pred, e, e2, eqB_self, mkL_len, take_mkL, DtCatalog.cells]
                                                                repeat' first | (exfalso; omega) | (refine XKd_x [] true [] (toCatalogX u (by omega)) ?_ ?_ ?_; (focus (simp [List.range_succ, nmC]; done)); (focus (simp (disch := omega) [wrap64, List.getElem?_eq_getElem, toNat_pred, e, e2, eqB_self, mkL_len, take_mkL, DtCatalog.cells, take_map_n]; done)); simp (disch := omega) [wrap64, List.getElem?_eq_getElem, toNat_pred, e, e2, eqB_self, mkL_len, take_mkL, DtCatalog.cells]) | (refine XKd_v (am2s_cons (am2_agg rfl) am2s_nil) (toCatalog u (by omega)) rfl ?_; simp (disch := omega) [wrap64, List.getElem?_eq_getElem, toNat_pred, e, e2, eqB_self, mkL_len, take_mkL, DtCatalog.cells]) | (refine XKd_p (toCatalog u (by omega)) (by rfl) ?_ ?_; (focus (simp (disch := omega) [wrap64, List.getElem?_eq_getElem, toNat_pred, e, e2, eqB_self, mkL_len, take_mkL, DtCatalog.cells, take_map_n]; done)); simp (disch := omega) [wrap64, List.getElem?_eq_getElem, toNat_pred, e, e2, eqB_self, mkL_len, take_mkL, DtCatalog.cells]) | (refine XKd_x [] true [] (implAll u (by omega)) ?_ ?_ ?_; (focus (simp [List.range_succ, nmC]; done)); (focus (simp (disch := omega) [wrap64, List.getElem?_eq_getElem, toNat_pred, e, e2, eqB_self, mkL_len, take_mkL, DtCatalog.cells, take_map_n]; done)); simp (disch := omega) [wrap64, List.getElem?_eq_getElem, toNat_pred, e, e2, eqB_self, mkL_len, take_mkL, DtCatalog.cells]) | (refine ⟨fun _ => ?_, fun _ => ?_⟩) | (refine ⟨by omega, ?_⟩) | (intro _)
                                                                all_goals (refine hK _ ?_; clear hK K)
                                                                all_goals
                                                                  refine AW_seq ?_
                                                                  refine AW_x rfl rfl fun K hK => ?_
                                                                  simp (disch := omega) [wrap64, List.getElem?_eq_getElem, toNat_pred, e, e2, eqB_self, mkL_len, take_mkL, DtCatalog.cells]
                                                                  repeat' first | (exfalso; omega) | (refine XKd_v (am2s_cons am2_sl (am2s_cons am2_sl am2s_nil)) (eqStringS (allL u) (allL u) (allL_sz u)) rfl ?_; simp (disch := omega) [wrap64, List.getElem?_eq_getElem, toNat_pred, e, e2, eqB_self, mkL_len, take_mkL, DtCatalog.cells]) | (refine XKd_p (eqStringS (allL u) (allL u) (allL_sz u)) (by rfl) ?_ ?_; (focus (simp (disch := omega) [wrap64, List.getElem?_eq_getElem, toNat_pred, e, e2, eqB_self, mkL_len, take_mkL, DtCatalog.cells, take_map_n]; done)); simp (disch := omega) [wrap64, List.getElem?_eq_getElem, toNat_pred, e, e2, eqB_self, mkL_len, take_mkL, DtCatalog.cells]) | (refine ⟨fun _ => ?_, fun _ => ?_⟩) | (refine ⟨by omega, ?_⟩) | (intro _)
                                                                  all_goals (refine hK _ ?_; clear hK K)
                                                                  all_goals
                                                                    refine AW_cond rfl (fun hc16 => ?_) (fun hc16 => ?_)
                                                                    · try simp at hc16
                                                                      all_goals
                                                                        refine AW_x rfl rfl fun K hK => ?_
                                                                        simp (disch := omega) [wrap64, List.getElem?_eq_getElem, toNat_pred, e, e2, eqB_self, mkL_len, take_mkL, DtCatalog.cells]
                                                                        repeat' first | (exfalso; omega) | (refine ⟨fun _ => ?_, fun _ => ?_⟩) | (refine ⟨by omega, ?_⟩) | (intro _)
                                                                        all_goals (refine hK _ ?_; clear hK K)
                                                                        all_goals
                                                                          refine AW_ret (end_x [] [] (by simp [List.range_succ, lk_cons, lk_nil, upd_app]) (by simp) ?_)
                                                                          simp (disch := omega) [wrap64, List.getElem?_eq_getElem, toNat_pred, e, e2, eqB_self, mkL_len, take_mkL, DtCatalog.cells]
                                                                          all_goals skip
                                                                    · try simp at hc16
                                                                      all_goals
                                                                        refine AW_skip ?_
                                                                        refine AW_id ?_
                                                                        refine AW_x rfl rfl fun K hK => ?_
                                                                        simp (disch := omega) [wrap64, List.getElem?_eq_getElem, toNat_pred, e, e2, eqB_self, mkL_len, take_mkL, DtCatalog.cells]
                                                                        repeat' first | (exfalso; omega) | (refine ⟨fun _ => ?_, fun _ => ?_⟩) | (refine ⟨by omega, ?_⟩) | (intro _)
                                                                        all_goals (refine hK _ ?_; clear hK K)
                                                                        all_goals
                                                                          refine AW_x rfl rfl fun K hK => ?_
                                                                          simp (disch := omega) [wrap64, List.getElem?_eq_getElem, toNat_pred, e, e2, eqB_self, mkL_len, take_mkL, DtCatalog.cells]
                                                                          repeat' first | (exfalso; omega) | (refine XKd_v (am2s_cons am2_sl (am2s_cons am2_g am2s_nil)) (heldStringS (allL u).length 1 (by omega) (by omega)) rfl ?_; simp (disch := omega) [wrap64, List.getElem?_eq_getElem, toNat_pred, e, e2, eqB_self, mkL_len, take_mkL, DtCatalog.cells]) | (refine XKd_p (heldStringS (allL u).length 1 (by omega) (by omega)) (by rfl) ?_ ?_; (focus (simp (disch := omega) [wrap64, List.getElem?_eq_getElem, toNat_pred, e, e2, eqB_self, mkL_len, take_mkL, DtCatalog.cells, take_map_n]; done)); simp (disch := omega) [wrap64, List.getElem?_eq_getElem, toNat_pred, e, e2, eqB_self, mkL_len, take_mkL, DtCatalog.cells]) | (refine ⟨fun _ => ?_, fun _ => ?_⟩) | (refine ⟨by omega, ?_⟩) | (intro _)
                                                                          all_goals (refine hK _ ?_; clear hK K)
                                                                          all_goals
                                                                            refine AW_seq ?_
                                                                            refine AW_x rfl rfl fun K hK => ?_
                                                                            simp (disch := omega) [wrap64, List.getElem?_eq_getElem, toNat_pred, e, e2, eqB_self, mkL_len, take_mkL, DtCatalog.cells]
                                                                            repeat' first | (exfalso; omega) | (refine ⟨fun _ => ?_, fun _ => ?_⟩) | (refine ⟨by omega, ?_⟩) | (intro _)
                                                                            all_goals (refine hK _ ?_; clear hK K)
                                                                            all_goals
                                                                              refine AW_cond rfl (fun hc17 => ?_) (fun hc17 => ?_)
                                                                              · try simp at hc17
                                                                                all_goals
                                                                                  refine AW_x rfl rfl fun K hK => ?_
                                                                                  simp (disch := omega) [wrap64, List.getElem?_eq_getElem, toNat_pred, e, e2, eqB_self, mkL_len, take_mkL, DtCatalog.cells]
                                                                                  repeat' first | (exfalso; omega) | (refine ⟨fun _ => ?_, fun _ => ?_⟩) | (refine ⟨by omega, ?_⟩) | (intro _)
                                                                                  all_goals (refine hK _ ?_; clear hK K)
                                                                                  all_goals
                                                                                    refine AW_ret (end_x [] [] (by simp [List.range_succ, lk_cons, lk_nil, upd_app]) (by simp) ?_)
                                                                                    simp (disch := omega) [wrap64, List.getElem?_eq_getElem, toNat_pred, e, e2, eqB_self, mkL_len, take_mkL, DtCatalog.cells]
                                                                                    all_goals skip
                                                                              · try simp at hc17
                                                                                all_goals
                                                                                  refine AW_skip ?_
                                                                                  refine AW_id ?_
                                                                                  refine AW_seq ?_
                                                                                  refine AW_x rfl rfl fun K hK => ?_
                                                                                  simp (disch := omega) [wrap64, List.getElem?_eq_getElem, toNat_pred, e, e2, eqB_self, mkL_len, take_mkL, DtCatalog.cells]
                                                                                  repeat' first | (exfalso; omega) | (refine ⟨fun _ => ?_, fun _ => ?_⟩) | (refine ⟨by omega, ?_⟩) | (intro _)
                                                                                  all_goals (refine hK _ ?_; clear hK K)
                                                                                  all_goals
                                                                                    refine AW_cond rfl (fun hc18 => ?_) (fun hc18 => ?_)
                                                                                    · try simp at hc18
                                                                                      all_goals
                                                                                        refine AW_x rfl rfl fun K hK => ?_
                                                                                        simp (disch := omega) [wrap64, List.getElem?_eq_getElem, toNat_pred, e, e2, eqB_self, mkL_len, take_mkL, DtCatalog.cells]
                                                                                        repeat' first | (exfalso; omega) | (refine ⟨fun _ => ?_, fun _ => ?_⟩) | (refine ⟨by omega, ?_⟩) | (intro _)
                                                                                        all_goals (refine hK _ ?_; clear hK K)
                                                                                        all_goals
                                                                                          refine AW_ret (end_x [] [] (by simp [List.range_succ, lk_cons, lk_nil, upd_app]) (by simp) ?_)
                                                                                          simp (disch := omega) [wrap64, List.getElem?_eq_getElem, toNat_pred, e, e2, eqB_self, mkL_len, take_mkL, DtCatalog.cells]
                                                                                          all_goals skip
                                                                                    · try simp at hc18
                                                                                      all_goals
                                                                                        refine AW_skip ?_
                                                                                        refine AW_id ?_
                                                                                        refine AW_x rfl rfl fun K hK => ?_
                                                                                        simp (disch := omega) [wrap64, List.getElem?_eq_getElem, toNat_pred, e, e2, eqB_self, mkL_len, take_mkL, DtCatalog.cells]
                                                                                        repeat' first | (exfalso; omega) | (refine ⟨fun _ => ?_, fun _ => ?_⟩) | (refine ⟨by omega, ?_⟩) | (intro _)
                                                                                        all_goals (refine hK _ ?_; clear hK K)
                                                                                        all_goals
                                                                                          refine AW_ret (end_x [] [] (by simp [List.range_succ, lk_cons, lk_nil, upd_app]) (by simp) ?_)
                                                                                          simp (disch := omega) [wrap64, List.getElem?_eq_getElem, toNat_pred, e, e2, eqB_self, mkL_len, take_mkL, DtCatalog.cells]
                                                                                          all_goals skip
theorem lawAllChunks (u : DtCatalog) (hw : DtCatalog.wf u) : PCall Try.prog 3 [.agg (DtCatalog.cells u)] (.g (.bool (true))) := pcall_scal (lawAllX u hw)
end Go.Proofs.Ytcedomdpbgjbpaa.Vs
