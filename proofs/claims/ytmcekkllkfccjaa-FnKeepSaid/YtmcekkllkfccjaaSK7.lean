import Derived.Test.YtmcekkllkfccjaaSK6
open Go Go.Proofs Go.Proofs.Ytmcekkllkfccjaa.Vs
namespace Go.Proofs.Ytmcekkllkfccjaa.Vs
set_option linter.unusedVariables false
set_option linter.unusedSimpArgs false
set_option linter.unusedSectionVars false
set_option linter.unnecessarySimpa false
set_option linter.all false
set_option linter.unusedSimpArgs false
set_option linter.unusedVariables false
set_option maxRecDepth 100000
theorem kb_set (L : List (List AV)) (n : Nat) {a b : Bool} (h : a = b) : L.set n [AV.g (.bool a)] = L.set n [AV.g (.bool b)] := by rw [h]
theorem keepL_f {l : List Int} {r : DtRule} (h : decB (KOk l r) = false) : keepL l r = [] := by simp [keepL, h]
theorem keepL_t {l : List Int} {r : DtRule} (h : decB (KOk l r) = true) : keepL l r = kp l r l.length (-1) 0 0 (List.replicate l.length false) := by simp [keepL, h]
theorem KI_end {l : List Int} {r : DtRule} {m : Nat} {day days ofd : Int} {out : List Bool} (h : KI l r m day days ofd out) (hm : (m : Int) < 1) (hok : KOk l r) : keepL l r = out := by
  rw [keepL_t (decB_t hok), ← h.2.2.2.2.2]
  obtain rfl : m = 0 := by omega
  rfl
theorem specKeep (l : List Int) (r : DtRule) (hl : l.length ≤ 1048576) : PCall Try.prog 32 [.sl 1 (l.map cI), .agg (DtRule.cells r)] (.sl 1 ((keepL l r).map cB)) := by
  refine gcall_of_walk Try.func32 (by rfl) (by rfl) (by rw [Try.ntmps32]; exact Nat.le_of_ble_eq_true rfl) rfl (by decide) ?_
  rw [Try.ntmps32]
  refine AW_k [(0, _), (1, _)] ⟨rfl, rfl, trivial⟩ ?_
  refine AW_r rfl rfl fun K hK => ?_
  simp (disch := omega) [wrap64, List.getElem?_eq_getElem, toNat_pred, Int.tdiv_eq_ediv_of_nonneg, cI, cB, DtRule.cells, decB_true, decB_false]
  repeat' first | (exfalso; omega) | (refine ⟨fun _ => ?_, fun _ => ?_⟩) | (refine ⟨by omega, ?_⟩) | (intro _)
  all_goals (refine hK _ ?_; clear hK K)
  all_goals
    refine AW_r rfl rfl fun K hK => ?_
    simp (disch := omega) [wrap64, List.getElem?_eq_getElem, toNat_pred, Int.tdiv_eq_ediv_of_nonneg, cI, cB, DtRule.cells, decB_true, decB_false]
    repeat' first | (exfalso; omega) | (refine ⟨fun _ => ?_, fun _ => ?_⟩) | (refine ⟨by omega, ?_⟩) | (intro _)
    all_goals (refine hK _ ?_; clear hK K)
    all_goals
      refine AW_seq ?_
      refine AW_r rfl rfl fun K hK => ?_
      simp (disch := omega) [wrap64, List.getElem?_eq_getElem, toNat_pred, Int.tdiv_eq_ediv_of_nonneg, cI, cB, DtRule.cells, decB_true, decB_false]
      repeat' first | (exfalso; omega) | (refine CKd_v (am2s_cons am2_sl (am2s_cons (am2_agg rfl) am2s_nil)) (specKeepOk _ _ (by omega)) rfl ?_; simp (disch := omega) [wrap64, List.getElem?_eq_getElem, toNat_pred, Int.tdiv_eq_ediv_of_nonneg, cI, cB, DtRule.cells, decB_true, decB_false]) | (refine ⟨fun _ => ?_, fun _ => ?_⟩) | (refine ⟨by omega, ?_⟩) | (intro _)
      all_goals (refine hK _ ?_; clear hK K)
      all_goals
        refine AW_cond rfl (fun hc1 => ?_) (fun hc1 => ?_)
        · try simp [decB_true, decB_false] at hc1
          all_goals
            refine AW_r rfl rfl fun K hK => ?_
            simp (disch := omega) [wrap64, List.getElem?_eq_getElem, toNat_pred, Int.tdiv_eq_ediv_of_nonneg, cI, cB, DtRule.cells, decB_true, decB_false]
            repeat' first | (exfalso; omega) | (refine ⟨fun _ => ?_, fun _ => ?_⟩) | (refine ⟨by omega, ?_⟩) | (intro _)
            all_goals (refine hK _ ?_; clear hK K)
            all_goals
              refine AW_ret (end_s ?_)
              simp (disch := omega) [wrap64, List.getElem?_eq_getElem, toNat_pred, Int.tdiv_eq_ediv_of_nonneg, cI, cB, DtRule.cells, decB_true, decB_false]
              all_goals first | (rw [keepL_f (decB_f hc1)]; done) | (refine ⟨by omega, ?_⟩; rw [KI_end hI hc2 hc1, ← hlen, List.take_of_length_le (by simp)])
        · try simp [decB_true, decB_false] at hc1
          all_goals
            refine AW_skip ?_
            refine AW_id ?_
            refine AW_r rfl rfl fun K hK => ?_
            simp (disch := omega) [wrap64, List.getElem?_eq_getElem, toNat_pred, Int.tdiv_eq_ediv_of_nonneg, cI, cB, DtRule.cells, decB_true, decB_false]
            repeat' first | (exfalso; omega) | (refine ⟨fun _ => ?_, fun _ => ?_⟩) | (refine ⟨by omega, ?_⟩) | (intro _)
            all_goals (refine hK _ ?_; clear hK K)
            all_goals
              refine AW_r rfl rfl fun K hK => ?_
              simp (disch := omega) [wrap64, List.getElem?_eq_getElem, toNat_pred, Int.tdiv_eq_ediv_of_nonneg, cI, cB, DtRule.cells, decB_true, decB_false]
              repeat' first | (exfalso; omega) | (refine ⟨fun _ => ?_, fun _ => ?_⟩) | (refine ⟨by omega, ?_⟩) | (intro _)
              all_goals (refine hK _ ?_; clear hK K)
              all_goals
                refine AW_r rfl rfl fun K hK => ?_
                simp (disch := omega) [wrap64, List.getElem?_eq_getElem, toNat_pred, Int.tdiv_eq_ediv_of_nonneg, cI, cB, DtRule.cells, decB_true, decB_false]
                repeat' first | (exfalso; omega) | (refine ⟨fun _ => ?_, fun _ => ?_⟩) | (refine ⟨by omega, ?_⟩) | (intro _)
                all_goals (refine hK _ ?_; clear hK K)
                all_goals
                  refine AW_r rfl rfl fun K hK => ?_
                  simp (disch := omega) [wrap64, List.getElem?_eq_getElem, toNat_pred, Int.tdiv_eq_ediv_of_nonneg, cI, cB, DtRule.cells, decB_true, decB_false]
                  repeat' first | (exfalso; omega) | (refine ⟨fun _ => ?_, fun _ => ?_⟩) | (refine ⟨by omega, ?_⟩) | (intro _)
                  all_goals (refine hK _ ?_; clear hK K)
                  all_goals
                    refine AW_seq ?_
                    refine AW_r rfl rfl fun K hK => ?_
                    simp (disch := omega) [wrap64, List.getElem?_eq_getElem, toNat_pred, Int.tdiv_eq_ediv_of_nonneg, cI, cB, DtRule.cells, decB_true, decB_false]
                    repeat' first | (exfalso; omega) | (refine ⟨fun _ => ?_, fun _ => ?_⟩) | (refine ⟨by omega, ?_⟩) | (intro _)
                    all_goals (refine hK _ ?_; clear hK K)
                    all_goals
                      refine AW_block ?_
                      refine AW_loopS (fun mM sS => ∃ (m : Nat) (day days ofd : Int) (out : List Bool), mM = m + 1 ∧ (KI l r m day days ofd out) ∧ sS = { env := lkE [(0, .sl 1 (l.map cI)), (3, .ptr 64 0), (5, .arr 304 0 l.length), (6, (.g (.int .i64 (day)))), (7, (.g (.int .i64 (days)))), (8, (.g (.int .i64 (ofd)))), (9, (.g (.int .i64 (((m : Nat) : Int) - 1))))], ob := lk [(64, .cells (DtRule.cells r)), (304, .flat 1 (out.map cB))] }) ?_ ?_
                      · refine ⟨_, LeS.ko [(0, .sl 1 (l.map cI)), (3, .ptr 64 0), (5, .arr 304 0 l.length), (6, (.g (.int .i64 ((-1))))), (7, (.g (.int .i64 ((0))))), (8, (.g (.int .i64 ((0))))), (9, (.g (.int .i64 ((((l.length) : Nat) : Int) - 1))))] [(64, .cells (DtRule.cells r)), (304, .flat 1 ((List.replicate l.length false).map cB))] (by simp [KpE, upd_app, lkE_app, lk_cons, DtRule.cells, cB]; try (first | rfl | (omega; done))) (by simp [KpO, upd_app, lk_cons, lk_nil, formOb_nn, DtRule.cells, cB]; try (first | rfl | (refine kb_set _ _ ?_; unfold kb; rw [Bool.eq_iff_iff]; simp; omega))) (by rfl) (by simp) (by rfl), _, l.length, -1, 0, 0, List.replicate l.length false, rfl, ?_, rfl⟩
                        · refine ⟨by omega, by simp, by omega, by omega, by omega, rfl⟩
                      · rintro mM sS ⟨m, day, days, ofd, out, rfl, hI, rfl⟩
                        obtain ⟨hm, hlen, hds, hof, hdy, -⟩ := id hI
                        refine AW_seq ?_
                        refine AW_r rfl rfl fun K hK => ?_
                        simp (disch := omega) [wrap64, List.getElem?_eq_getElem, toNat_pred, Int.tdiv_eq_ediv_of_nonneg, cI, cB, DtRule.cells, decB_true, decB_false]
                        repeat' first | (exfalso; omega) | (refine ⟨fun _ => ?_, fun _ => ?_⟩) | (refine ⟨by omega, ?_⟩) | (intro _)
                        all_goals (refine hK _ ?_; clear hK K)
                        all_goals
                          refine AW_cond rfl (fun hc2 => ?_) (fun hc2 => ?_)
                          · try simp [decB_true, decB_false] at hc2
                            all_goals
                              have hml : m - 1 < l.length := by omega
                              have hb : 0 ≤ l[m - 1] ∧ l[m - 1] ≤ 100000 := by have := hc1.1 (m - 1) l[m - 1] (List.getElem?_eq_getElem hml); omega
                              have hbo : m - 1 < out.length := by omega
                              refine AW_skip ?_
                              refine AW_id ?_
                              refine AW_seq ?_
                              refine AW_block ?_
                              refine AW_seq ?_
                              refine AW_r rfl rfl fun K hK => ?_
                              simp (disch := omega) [wrap64, List.getElem?_eq_getElem, toNat_pred, Int.tdiv_eq_ediv_of_nonneg, cI, cB, DtRule.cells, decB_true, decB_false]
                              repeat' first | (exfalso; omega) | (refine ⟨fun _ => ?_, fun _ => ?_⟩) | (refine ⟨by omega, ?_⟩) | (intro _)
                              all_goals (refine hK _ ?_; clear hK K)
                              all_goals
                                refine AW_cond rfl (fun hc3 => ?_) (fun hc3 => ?_)
                                · try simp [decB_true, decB_false] at hc3
                                  all_goals
                                    refine AW_r rfl rfl fun K hK => ?_
                                    simp (disch := omega) [wrap64, List.getElem?_eq_getElem, toNat_pred, Int.tdiv_eq_ediv_of_nonneg, cI, cB, DtRule.cells, decB_true, decB_false]
                                    repeat' first | (exfalso; omega) | (refine ⟨fun _ => ?_, fun _ => ?_⟩) | (refine ⟨by omega, ?_⟩) | (intro _)
                                    all_goals (refine hK _ ?_; clear hK K)
                                    all_goals
                                      refine AW_r rfl rfl fun K hK => ?_
                                      simp (disch := omega) [wrap64, List.getElem?_eq_getElem, toNat_pred, Int.tdiv_eq_ediv_of_nonneg, cI, cB, DtRule.cells, decB_true, decB_false]
                                      repeat' first | (exfalso; omega) | (refine ⟨fun _ => ?_, fun _ => ?_⟩) | (refine ⟨by omega, ?_⟩) | (intro _)
                                      all_goals (refine hK _ ?_; clear hK K)
                                      all_goals
                                        refine AW_re rfl rfl fun K hK => ?_
                                        simp (disch := omega) [wrap64, List.getElem?_eq_getElem, toNat_pred, Int.tdiv_eq_ediv_of_nonneg, cI, cB, DtRule.cells, decB_true, decB_false]
                                        repeat' first | (exfalso; omega) | (refine ⟨fun _ => ?_, fun _ => ?_⟩) | (refine ⟨by omega, ?_⟩) | (intro _)
                                        all_goals (refine hK _ ?_; clear hK K)
                                        all_goals
                                          refine AW_id ?_
                                          refine AW_r rfl rfl fun K hK => ?_
                                          simp (disch := omega) [wrap64, List.getElem?_eq_getElem, toNat_pred, Int.tdiv_eq_ediv_of_nonneg, cI, cB, DtRule.cells, decB_true, decB_false]
                                          repeat' first | (exfalso; omega) | (refine ⟨fun _ => ?_, fun _ => ?_⟩) | (refine ⟨by omega, ?_⟩) | (intro _)
                                          all_goals (refine hK _ ?_; clear hK K)
                                          all_goals
                                            refine AW_re rfl rfl fun K hK => ?_
                                            simp (disch := omega) [wrap64, List.getElem?_eq_getElem, toNat_pred, Int.tdiv_eq_ediv_of_nonneg, cI, cB, DtRule.cells, decB_true, decB_false]
                                            repeat' first | (exfalso; omega) | (refine ⟨fun _ => ?_, fun _ => ?_⟩) | (refine ⟨by omega, ?_⟩) | (intro _)
                                            all_goals (refine hK _ ?_; clear hK K)
                                            all_goals
                                              refine AW_id ?_
                                              refine AW_re rfl rfl fun K hK => ?_
                                              simp (disch := omega) [wrap64, List.getElem?_eq_getElem, toNat_pred, Int.tdiv_eq_ediv_of_nonneg, cI, cB, DtRule.cells, decB_true, decB_false]
                                              repeat' first | (exfalso; omega) | (refine ⟨fun _ => ?_, fun _ => ?_⟩) | (refine ⟨by omega, ?_⟩) | (intro _)
                                              all_goals (refine hK _ ?_; clear hK K)
                                              all_goals
                                                refine ⟨_, LeS.ko [(0, .sl 1 (l.map cI)), (3, .ptr 64 0), (5, .arr 304 0 l.length), (6, (.g (.int .i64 ((l[m - 1] / 24))))), (7, (.g (.int .i64 ((days + 1))))), (8, (.g (.int .i64 ((1))))), (9, (.g (.int .i64 ((((m - 1) : Nat) : Int) - 1))))] [(64, .cells (DtRule.cells r)), (304, .flat 1 ((out.set (m - 1) (kb (l.length - ((m : Int) - 1)) r (days + 1) 1)).map cB))] (by simp [KpE, upd_app, lkE_app, lk_cons, DtRule.cells, cB]; try (first | rfl | (omega; done))) (by simp [KpO, upd_app, lk_cons, lk_nil, formOb_nn, DtRule.cells, cB]; try (first | rfl | (refine kb_set _ _ ?_; unfold kb; rw [Bool.eq_iff_iff]; simp; omega))) (by rfl) (by simp) (by rfl), _, ?_, m - 1, l[m - 1] / 24, days + 1, 1, out.set (m - 1) (kb (l.length - ((m : Int) - 1)) r (days + 1) 1), rfl, ?_, rfl⟩
                                                · omega
                                                · first | exact KI_ne hI (by omega) hml hb (by omega) | exact KI_eq hI (by omega) hml hb (by omega)
                                · try simp [decB_true, decB_false] at hc3
                                  all_goals
                                    refine AW_skip ?_
                                    refine AW_id ?_
                                    refine AW_r rfl rfl fun K hK => ?_
                                    simp (disch := omega) [wrap64, List.getElem?_eq_getElem, toNat_pred, Int.tdiv_eq_ediv_of_nonneg, cI, cB, DtRule.cells, decB_true, decB_false]
                                    repeat' first | (exfalso; omega) | (refine ⟨fun _ => ?_, fun _ => ?_⟩) | (refine ⟨by omega, ?_⟩) | (intro _)
                                    all_goals (refine hK _ ?_; clear hK K)
                                    all_goals
                                      refine AW_re rfl rfl fun K hK => ?_
                                      simp (disch := omega) [wrap64, List.getElem?_eq_getElem, toNat_pred, Int.tdiv_eq_ediv_of_nonneg, cI, cB, DtRule.cells, decB_true, decB_false]
                                      repeat' first | (exfalso; omega) | (refine ⟨fun _ => ?_, fun _ => ?_⟩) | (refine ⟨by omega, ?_⟩) | (intro _)
                                      all_goals (refine hK _ ?_; clear hK K)
                                      all_goals
                                        refine AW_id ?_
                                        refine AW_re rfl rfl fun K hK => ?_
                                        simp (disch := omega) [wrap64, List.getElem?_eq_getElem, toNat_pred, Int.tdiv_eq_ediv_of_nonneg, cI, cB, DtRule.cells, decB_true, decB_false]
                                        repeat' first | (exfalso; omega) | (refine ⟨fun _ => ?_, fun _ => ?_⟩) | (refine ⟨by omega, ?_⟩) | (intro _)
                                        all_goals (refine hK _ ?_; clear hK K)
                                        all_goals
                                          refine ⟨_, LeS.ko [(0, .sl 1 (l.map cI)), (3, .ptr 64 0), (5, .arr 304 0 l.length), (6, (.g (.int .i64 ((day))))), (7, (.g (.int .i64 ((days))))), (8, (.g (.int .i64 ((ofd + 1))))), (9, (.g (.int .i64 ((((m - 1) : Nat) : Int) - 1))))] [(64, .cells (DtRule.cells r)), (304, .flat 1 ((out.set (m - 1) (kb (l.length - ((m : Int) - 1)) r days (ofd + 1))).map cB))] (by simp [KpE, upd_app, lkE_app, lk_cons, DtRule.cells, cB]; try (first | rfl | (omega; done))) (by simp [KpO, upd_app, lk_cons, lk_nil, formOb_nn, DtRule.cells, cB]; try (first | rfl | (refine kb_set _ _ ?_; unfold kb; rw [Bool.eq_iff_iff]; simp; omega))) (by rfl) (by simp) (by rfl), _, ?_, m - 1, day, days, ofd + 1, out.set (m - 1) (kb (l.length - ((m : Int) - 1)) r days (ofd + 1)), rfl, ?_, rfl⟩
                                          · omega
                                          · first | exact KI_ne hI (by omega) hml hb (by omega) | exact KI_eq hI (by omega) hml hb (by omega)
                          · try simp [decB_true, decB_false] at hc2
                            all_goals
                              refine AW_exit ?_
                              refine AW_id ?_
                              refine AW_r rfl rfl fun K hK => ?_
                              simp (disch := omega) [wrap64, List.getElem?_eq_getElem, toNat_pred, Int.tdiv_eq_ediv_of_nonneg, cI, cB, DtRule.cells, decB_true, decB_false]
                              repeat' first | (exfalso; omega) | (refine ⟨fun _ => ?_, fun _ => ?_⟩) | (refine ⟨by omega, ?_⟩) | (intro _)
                              all_goals (refine hK _ ?_; clear hK K)
                              all_goals
                                refine AW_ret (end_s ?_)
                                simp (disch := omega) [wrap64, List.getElem?_eq_getElem, toNat_pred, Int.tdiv_eq_ediv_of_nonneg, cI, cB, DtRule.cells, decB_true, decB_false]
                                all_goals first | (rw [keepL_f (decB_f hc1)]; done) | (refine ⟨by omega, ?_⟩; rw [KI_end hI hc2 hc1, ← hlen, List.take_of_length_le (by simp)])
theorem implKeep (l : List Int) (r : DtRule) (hl : l.length ≤ 1048576) : XCall Try.prog 20 [.sl 1 (l.map cI), .agg (DtRule.cells r)] [] (.arr 16 0 (keepL l r).length) [] [.own 1 ((keepL l r).map cB)] := by
  refine xcall_of_walk Try.func20 (by rfl) (by rfl) (by rw [Try.ntmps20]; exact Nat.le_of_ble_eq_true rfl) rfl (by simp) rfl rfl ?_
  rw [Try.ntmps20]
  refine AW_x0   ?_
  refine AW_k [(0, _), (1, _)] ⟨rfl, rfl, trivial⟩ ?_
  refine AW_x rfl rfl fun K hK => ?_
  simp (disch := omega) [wrap64, List.getElem?_eq_getElem, toNat_pred, Int.tdiv_eq_ediv_of_nonneg, cI, cB, DtRule.cells, decB_true, decB_false]
  repeat' first | (exfalso; omega) | (refine ⟨fun _ => ?_, fun _ => ?_⟩) | (refine ⟨by omega, ?_⟩) | (intro _)
  all_goals (refine hK _ ?_; clear hK K)
  all_goals
    refine AW_seq ?_
    refine AW_x rfl rfl fun K hK => ?_
    simp (disch := omega) [wrap64, List.getElem?_eq_getElem, toNat_pred, Int.tdiv_eq_ediv_of_nonneg, cI, cB, DtRule.cells, decB_true, decB_false]
    repeat' first | (exfalso; omega) | (refine XKd_v (am2s_cons am2_sl (am2s_cons (am2_agg rfl) am2s_nil)) (implKeepOk _ _ (by omega)) rfl ?_; simp (disch := omega) [wrap64, List.getElem?_eq_getElem, toNat_pred, Int.tdiv_eq_ediv_of_nonneg, cI, cB, DtRule.cells, decB_true, decB_false]) | (refine XKd_p (implKeepOk _ _ (by omega)) (by rfl) ?_ ?_; (focus (simp (disch := omega) [wrap64, List.getElem?_eq_getElem, toNat_pred, Int.tdiv_eq_ediv_of_nonneg, cI, cB, DtRule.cells, decB_true, decB_false, take_map_n]; done)); simp (disch := omega) [wrap64, List.getElem?_eq_getElem, toNat_pred, Int.tdiv_eq_ediv_of_nonneg, cI, cB, DtRule.cells, decB_true, decB_false]) | (refine ⟨fun _ => ?_, fun _ => ?_⟩) | (refine ⟨by omega, ?_⟩) | (intro _)
    all_goals (refine hK _ ?_; clear hK K)
    all_goals
      refine AW_cond rfl (fun hc4 => ?_) (fun hc4 => ?_)
      · try simp [decB_true, decB_false] at hc4
        all_goals
          refine AW_x rfl rfl fun K hK => ?_
          simp (disch := omega) [wrap64, List.getElem?_eq_getElem, toNat_pred, Int.tdiv_eq_ediv_of_nonneg, cI, cB, DtRule.cells, decB_true, decB_false]
          repeat' first | (exfalso; omega) | (refine ⟨fun _ => ?_, fun _ => ?_⟩) | (refine ⟨by omega, ?_⟩) | (intro _)
          all_goals (refine hK _ ?_; clear hK K)
          all_goals
            refine AW_ret (end_x [1000] [(1000, 1)] (by simp [List.range_succ, lk_cons, lk_nil, upd_app]) (by simp) ?_)
            simp (disch := omega) [wrap64, List.getElem?_eq_getElem, toNat_pred, Int.tdiv_eq_ediv_of_nonneg, cI, cB, DtRule.cells, decB_true, decB_false]
            all_goals first | exact keepL_f (decB_f hc4) | (rw [keepL_f (decB_f hc4)]; simp; done) | (rw [KI_end hI hc5 hc4]; simp [hlen]; done) | trace_state
      · try simp [decB_true, decB_false] at hc4
        all_goals
          refine AW_skip ?_
          refine AW_id ?_
          refine AW_x rfl rfl fun K hK => ?_
          simp (disch := omega) [wrap64, List.getElem?_eq_getElem, toNat_pred, Int.tdiv_eq_ediv_of_nonneg, cI, cB, DtRule.cells, decB_true, decB_false]
          repeat' first | (exfalso; omega) | (refine ⟨fun _ => ?_, fun _ => ?_⟩) | (refine ⟨by omega, ?_⟩) | (intro _)
          all_goals (refine hK _ ?_; clear hK K)
          all_goals
            refine AW_x rfl rfl fun K hK => ?_
            simp (disch := omega) [wrap64, List.getElem?_eq_getElem, toNat_pred, Int.tdiv_eq_ediv_of_nonneg, cI, cB, DtRule.cells, decB_true, decB_false]
            repeat' first | (exfalso; omega) | (refine ⟨fun _ => ?_, fun _ => ?_⟩) | (refine ⟨by omega, ?_⟩) | (intro _)
            all_goals (refine hK _ ?_; clear hK K)
            all_goals
              refine AW_seq ?_
              refine AW_x rfl rfl fun K hK => ?_
              simp (disch := omega) [wrap64, List.getElem?_eq_getElem, toNat_pred, Int.tdiv_eq_ediv_of_nonneg, cI, cB, DtRule.cells, decB_true, decB_false]
              repeat' first | (exfalso; omega) | (refine ⟨fun _ => ?_, fun _ => ?_⟩) | (refine ⟨by omega, ?_⟩) | (intro _)
              all_goals (refine hK _ ?_; clear hK K)
              all_goals
                refine AW_block ?_
                refine AW_loopS (fun mM sS => ∃ (m : Nat) (day days ofd : Int) (out : List Bool), mM = m + 1 ∧ (KI l r m day days ofd out) ∧ sS = { env := lkE [(0, .sl 1 (l.map cI)), (3, .ptr 64 0), (5, .arr 288 0 l.length), (6, (.g (.int .i64 (day)))), (7, (.g (.int .i64 (days)))), (8, (.g (.int .i64 (ofd)))), (9, (.g (.int .i64 (((m : Nat) : Int) - 1))))], ob := lk [(64, .cells (DtRule.cells r)), (288, .flat 1 (out.map cB))] }) ?_ ?_
                · refine ⟨_, LeS.kx [(64, 64), (288, 288)] [(0, .sl 1 (l.map cI)), (3, .ptr 64 0), (5, .arr 288 0 l.length), (6, (.g (.int .i64 ((-1))))), (7, (.g (.int .i64 ((0))))), (8, (.g (.int .i64 ((0))))), (9, (.g (.int .i64 ((((l.length) : Nat) : Int) - 1))))] [(64, .cells (DtRule.cells r)), (288, .flat 1 ((List.replicate l.length false).map cB))] (by simp [KpR, renV2, renV, upd_app, lkE_app, lk_cons, lk_nil, DtRule.cells, cB]; try (first | rfl | (omega; done))) (by simp [KpOX, renO, plO, cvO, renV, pl1, lk_cons, lk_nil, upd_app, DtRule.cells, cB]; try (first | rfl | (simp_all; done) | (refine kb_set _ _ ?_; unfold kb; rw [Bool.eq_iff_iff]; simp; omega))) (by rfl) (by simp) (by simp) (by rfl) (by simp [formsX, List.range_succ, lk_cons, lk_nil]), _, l.length, -1, 0, 0, List.replicate l.length false, rfl, ?_, rfl⟩
                  · refine ⟨by omega, by simp, by omega, by omega, by omega, rfl⟩
                · rintro mM sS ⟨m, day, days, ofd, out, rfl, hI, rfl⟩
                  obtain ⟨hm, hlen, hds, hof, hdy, -⟩ := id hI
                  refine AW_seq ?_
                  refine AW_x rfl rfl fun K hK => ?_
                  simp (disch := omega) [wrap64, List.getElem?_eq_getElem, toNat_pred, Int.tdiv_eq_ediv_of_nonneg, cI, cB, DtRule.cells, decB_true, decB_false]
                  repeat' first | (exfalso; omega) | (refine ⟨fun _ => ?_, fun _ => ?_⟩) | (refine ⟨by omega, ?_⟩) | (intro _)
                  all_goals (refine hK _ ?_; clear hK K)
                  all_goals
                    refine AW_cond rfl (fun hc5 => ?_) (fun hc5 => ?_)
                    · try simp [decB_true, decB_false] at hc5
                      all_goals
                        have hml : m - 1 < l.length := by omega
                        have hb : 0 ≤ l[m - 1] ∧ l[m - 1] ≤ 100000 := by have := hc4.1 (m - 1) l[m - 1] (List.getElem?_eq_getElem hml); omega
                        have hbo : m - 1 < out.length := by omega
                        refine AW_skip ?_
                        refine AW_id ?_
                        refine AW_seq ?_
                        refine AW_block ?_
                        refine AW_seq ?_
                        refine AW_x rfl rfl fun K hK => ?_
                        simp (disch := omega) [wrap64, List.getElem?_eq_getElem, toNat_pred, Int.tdiv_eq_ediv_of_nonneg, cI, cB, DtRule.cells, decB_true, decB_false]
                        repeat' first | (exfalso; omega) | (refine ⟨fun _ => ?_, fun _ => ?_⟩) | (refine ⟨by omega, ?_⟩) | (intro _)
                        all_goals (refine hK _ ?_; clear hK K)
                        all_goals
                          refine AW_x rfl rfl fun K hK => ?_
                          simp (disch := omega) [wrap64, List.getElem?_eq_getElem, toNat_pred, Int.tdiv_eq_ediv_of_nonneg, cI, cB, DtRule.cells, decB_true, decB_false]
                          repeat' first | (exfalso; omega) | (refine ⟨fun _ => ?_, fun _ => ?_⟩) | (refine ⟨by omega, ?_⟩) | (intro _)
                          all_goals (refine hK _ ?_; clear hK K)
                          all_goals
                            refine AW_cond rfl (fun hc6 => ?_) (fun hc6 => ?_)
                            · try simp [decB_true, decB_false] at hc6
                              all_goals
                                refine AW_x rfl rfl fun K hK => ?_
                                simp (disch := omega) [wrap64, List.getElem?_eq_getElem, toNat_pred, Int.tdiv_eq_ediv_of_nonneg, cI, cB, DtRule.cells, decB_true, decB_false]
                                repeat' first | (exfalso; omega) | (refine ⟨fun _ => ?_, fun _ => ?_⟩) | (refine ⟨by omega, ?_⟩) | (intro _)
                                all_goals (refine hK _ ?_; clear hK K)
                                all_goals
                                  refine AW_x rfl rfl fun K hK => ?_
                                  simp (disch := omega) [wrap64, List.getElem?_eq_getElem, toNat_pred, Int.tdiv_eq_ediv_of_nonneg, cI, cB, DtRule.cells, decB_true, decB_false]
                                  repeat' first | (exfalso; omega) | (refine ⟨fun _ => ?_, fun _ => ?_⟩) | (refine ⟨by omega, ?_⟩) | (intro _)
                                  all_goals (refine hK _ ?_; clear hK K)
                                  all_goals
                                    refine AW_xe rfl rfl fun K hK => ?_
                                    simp (disch := omega) [wrap64, List.getElem?_eq_getElem, toNat_pred, Int.tdiv_eq_ediv_of_nonneg, cI, cB, DtRule.cells, decB_true, decB_false]
                                    repeat' first | (exfalso; omega) | (refine ⟨fun _ => ?_, fun _ => ?_⟩) | (refine ⟨by omega, ?_⟩) | (intro _)
                                    all_goals (refine hK _ ?_; clear hK K)
                                    all_goals
                                      refine AW_id ?_
                                      refine AW_x rfl rfl fun K hK => ?_
                                      simp (disch := omega) [wrap64, List.getElem?_eq_getElem, toNat_pred, Int.tdiv_eq_ediv_of_nonneg, cI, cB, DtRule.cells, decB_true, decB_false]
                                      repeat' first | (exfalso; omega) | (refine ⟨fun _ => ?_, fun _ => ?_⟩) | (refine ⟨by omega, ?_⟩) | (intro _)
                                      all_goals (refine hK _ ?_; clear hK K)
                                      all_goals
                                        refine AW_xe rfl rfl fun K hK => ?_
                                        simp (disch := omega) [wrap64, List.getElem?_eq_getElem, toNat_pred, Int.tdiv_eq_ediv_of_nonneg, cI, cB, DtRule.cells, decB_true, decB_false]
                                        repeat' first | (exfalso; omega) | (refine ⟨fun _ => ?_, fun _ => ?_⟩) | (refine ⟨by omega, ?_⟩) | (intro _)
                                        all_goals (refine hK _ ?_; clear hK K)
                                        all_goals
                                          refine AW_id ?_
                                          refine AW_xe rfl rfl fun K hK => ?_
                                          simp (disch := omega) [wrap64, List.getElem?_eq_getElem, toNat_pred, Int.tdiv_eq_ediv_of_nonneg, cI, cB, DtRule.cells, decB_true, decB_false]
                                          repeat' first | (exfalso; omega) | (refine ⟨fun _ => ?_, fun _ => ?_⟩) | (refine ⟨by omega, ?_⟩) | (intro _)
                                          all_goals (refine hK _ ?_; clear hK K)
                                          all_goals
                                            refine ⟨_, LeS.kx [(64, 64), (288, 288)] [(0, .sl 1 (l.map cI)), (3, .ptr 64 0), (5, .arr 288 0 l.length), (6, (.g (.int .i64 ((l[m - 1] / 24))))), (7, (.g (.int .i64 ((days + 1))))), (8, (.g (.int .i64 ((1))))), (9, (.g (.int .i64 ((((m - 1) : Nat) : Int) - 1))))] [(64, .cells (DtRule.cells r)), (288, .flat 1 ((out.set (m - 1) (kb (l.length - ((m : Int) - 1)) r (days + 1) 1)).map cB))] (by simp [KpR, renV2, renV, upd_app, lkE_app, lk_cons, lk_nil, DtRule.cells, cB]; try (first | rfl | (omega; done))) (by simp [KpOX, renO, plO, cvO, renV, pl1, lk_cons, lk_nil, upd_app, DtRule.cells, cB]; try (first | rfl | (simp_all; done) | (refine kb_set _ _ ?_; unfold kb; rw [Bool.eq_iff_iff]; simp; omega))) (by rfl) (by simp) (by simp) (by rfl) (by simp [formsX, List.range_succ, lk_cons, lk_nil]), _, ?_, m - 1, l[m - 1] / 24, days + 1, 1, out.set (m - 1) (kb (l.length - ((m : Int) - 1)) r (days + 1) 1), rfl, ?_, rfl⟩
                                            · omega
                                            · first | exact KI_ne hI (by omega) hml hb (by omega) | exact KI_eq hI (by omega) hml hb (by omega)
                            · try simp [decB_true, decB_false] at hc6
                              all_goals
                                refine AW_skip ?_
                                refine AW_id ?_
                                refine AW_x rfl rfl fun K hK => ?_
                                simp (disch := omega) [wrap64, List.getElem?_eq_getElem, toNat_pred, Int.tdiv_eq_ediv_of_nonneg, cI, cB, DtRule.cells, decB_true, decB_false]
                                repeat' first | (exfalso; omega) | (refine ⟨fun _ => ?_, fun _ => ?_⟩) | (refine ⟨by omega, ?_⟩) | (intro _)
                                all_goals (refine hK _ ?_; clear hK K)
                                all_goals
                                  refine AW_xe rfl rfl fun K hK => ?_
                                  simp (disch := omega) [wrap64, List.getElem?_eq_getElem, toNat_pred, Int.tdiv_eq_ediv_of_nonneg, cI, cB, DtRule.cells, decB_true, decB_false]
                                  repeat' first | (exfalso; omega) | (refine ⟨fun _ => ?_, fun _ => ?_⟩) | (refine ⟨by omega, ?_⟩) | (intro _)
                                  all_goals (refine hK _ ?_; clear hK K)
                                  all_goals
                                    refine AW_id ?_
                                    refine AW_xe rfl rfl fun K hK => ?_
                                    simp (disch := omega) [wrap64, List.getElem?_eq_getElem, toNat_pred, Int.tdiv_eq_ediv_of_nonneg, cI, cB, DtRule.cells, decB_true, decB_false]
                                    repeat' first | (exfalso; omega) | (refine ⟨fun _ => ?_, fun _ => ?_⟩) | (refine ⟨by omega, ?_⟩) | (intro _)
                                    all_goals (refine hK _ ?_; clear hK K)
                                    all_goals
                                      refine ⟨_, LeS.kx [(64, 64), (288, 288)] [(0, .sl 1 (l.map cI)), (3, .ptr 64 0), (5, .arr 288 0 l.length), (6, (.g (.int .i64 ((day))))), (7, (.g (.int .i64 ((days))))), (8, (.g (.int .i64 ((ofd + 1))))), (9, (.g (.int .i64 ((((m - 1) : Nat) : Int) - 1))))] [(64, .cells (DtRule.cells r)), (288, .flat 1 ((out.set (m - 1) (kb (l.length - ((m : Int) - 1)) r days (ofd + 1))).map cB))] (by simp [KpR, renV2, renV, upd_app, lkE_app, lk_cons, lk_nil, DtRule.cells, cB]; try (first | rfl | (omega; done))) (by simp [KpOX, renO, plO, cvO, renV, pl1, lk_cons, lk_nil, upd_app, DtRule.cells, cB]; try (first | rfl | (simp_all; done) | (refine kb_set _ _ ?_; unfold kb; rw [Bool.eq_iff_iff]; simp; omega))) (by rfl) (by simp) (by simp) (by rfl) (by simp [formsX, List.range_succ, lk_cons, lk_nil]), _, ?_, m - 1, day, days, ofd + 1, out.set (m - 1) (kb (l.length - ((m : Int) - 1)) r days (ofd + 1)), rfl, ?_, rfl⟩
                                      · omega
                                      · first | exact KI_ne hI (by omega) hml hb (by omega) | exact KI_eq hI (by omega) hml hb (by omega)
                    · try simp [decB_true, decB_false] at hc5
                      all_goals
                        refine AW_exit ?_
                        refine AW_id ?_
                        refine AW_x rfl rfl fun K hK => ?_
                        simp (disch := omega) [wrap64, List.getElem?_eq_getElem, toNat_pred, Int.tdiv_eq_ediv_of_nonneg, cI, cB, DtRule.cells, decB_true, decB_false]
                        repeat' first | (exfalso; omega) | (refine ⟨fun _ => ?_, fun _ => ?_⟩) | (refine ⟨by omega, ?_⟩) | (intro _)
                        all_goals (refine hK _ ?_; clear hK K)
                        all_goals
                          refine AW_ret (end_x [288] [] (by simp [List.range_succ, lk_cons, lk_nil, upd_app]) (by simp) ?_)
                          simp (disch := omega) [wrap64, List.getElem?_eq_getElem, toNat_pred, Int.tdiv_eq_ediv_of_nonneg, cI, cB, DtRule.cells, decB_true, decB_false]
                          all_goals first | exact keepL_f (decB_f hc4) | (rw [keepL_f (decB_f hc4)]; simp; done) | (rw [KI_end hI hc5 hc4]; simp [hlen]; done) | trace_state
end Go.Proofs.Ytmcekkllkfccjaa.Vs
