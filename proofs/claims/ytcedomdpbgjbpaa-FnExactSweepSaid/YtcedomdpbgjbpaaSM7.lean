import Derived.Test.YtcedomdpbgjbpaaSU7
import Derived.Test.YtcedomdpbgjbpaaSK7
open Go Go.Proofs Go.Proofs.Ytcedomdpbgjbpaa.Vs
namespace Go.Proofs.Ytcedomdpbgjbpaa.Vs
set_option linter.unusedVariables false
set_option linter.unusedSimpArgs false
set_option linter.unusedSectionVars false
set_option linter.unnecessarySimpa false
set_option linter.all false
set_option linter.unusedSimpArgs false
set_option linter.unusedVariables false
set_option maxRecDepth 100000
noncomputable def markP (c : DtCatalog) (u : DtUps) (x : DtUp) : Bool := decB (x.fChunk ∈ allL c) || decide (u.fEpoch - 2 < x.fEpoch)
noncomputable def mkdL (c : DtCatalog) (u : DtUps) (l : List DtUp) : List (List UInt8) := (l.filter (markP c u)).map (·.fChunk)
noncomputable def markedL (c : DtCatalog) (u : DtUps) : List (List UInt8) := bif decB (CatP c ∧ UpsOkP u) then mkdL c u u.fList else []
theorem markedL_f {c : DtCatalog} {u : DtUps} (h : ¬ CatP c ∨ ¬ UpsOkP u) : markedL c u = [] := by
  unfold markedL; rw [decB_f (fun k => h.elim (fun h => h k.1) (fun h => h k.2))]; rfl
theorem markedL_t {c : DtCatalog} {u : DtUps} (h : CatP c) (k : UpsOkP u) : markedL c u = mkdL c u u.fList := by
  unfold markedL; rw [decB_t ⟨h, k⟩]; rfl
theorem mkdL_len (c : DtCatalog) (u : DtUps) (l : List DtUp) : (mkdL c u l).length ≤ l.length := by
  unfold mkdL; rw [List.length_map]; exact List.length_filter_le _ _
theorem mkdL_take (c : DtCatalog) (u : DtUps) (l : List DtUp) (i : Nat) (h : i < l.length) : mkdL c u (l.take (i + 1)) = mkdL c u (l.take i) ++ (if markP c u l[i] = true then [l[i].fChunk] else []) := by
  unfold mkdL
  rw [List.take_succ_eq_append_getElem h, List.filter_append, List.map_append]
  congr 1
  by_cases hp : markP c u l[i] = true <;> simp [hp]
theorem markP_iff (c : DtCatalog) (u : DtUps) (x : DtUp) : markP c u x = true ↔ (x.fChunk ∈ allL c ∨ u.fEpoch - 2 < x.fEpoch) := by
  unfold markP; rw [Bool.or_eq_true, decB_true, decide_eq_true_eq]
theorem implMarked (c : DtCatalog) (hs : DtCatalog.sz c ≤ 1048576) (u : DtUps) (hu : DtUps.sz u ≤ 1048576) : XCall Try.prog 19 [.agg (DtCatalog.cells c), .agg (DtUps.cells u)] [] (.arr 16 0 (markedL c u).length) [] [.own 1 ((markedL c u).map cS)] := by
  have hkl := allL_len c
  have hul : u.fList.length ≤ 1048576 := by have h := len_szS DtUp.sz_nonneg u.fList; simp only [DtUps.sz] at hu; omega
  refine xcall_of_walk Try.func19 (by rfl) (by rfl) (by rw [Try.ntmps19]; exact Nat.le_of_ble_eq_true rfl) rfl (by simp) rfl rfl ?_
  rw [Try.ntmps19]
  refine AW_x0   ?_
  refine AW_k [(0, _), (1, _)] ⟨rfl, rfl, trivial⟩ ?_
  refine AW_x rfl rfl fun K hK => ?_
  simp (disch := omega) [wrap64, List.getElem?_eq_getElem, toNat_pred, DtCatalog.cells, DtUps.cells, DtUp.cells, cS, take_map_n]
  repeat' first | (exfalso; omega) | (refine ⟨fun _ => ?_, fun _ => ?_⟩) | (refine ⟨by omega, ?_⟩) | (intro _)
  all_goals (refine hK _ ?_; clear hK K)
  all_goals
    refine AW_seq ?_
    refine AW_x rfl rfl fun K hK => ?_
    simp (disch := omega) [wrap64, List.getElem?_eq_getElem, toNat_pred, DtCatalog.cells, DtUps.cells, DtUp.cells, cS, take_map_n]
    repeat' first | (exfalso; omega) | (refine XKd_v (am2s_cons (am2_agg rfl) am2s_nil) (implCatOk _ (by omega)) rfl ?_; simp (disch := omega) [wrap64, List.getElem?_eq_getElem, toNat_pred, DtCatalog.cells, DtUps.cells, DtUp.cells, cS, take_map_n]) | (refine XKd_p (implCatOk _ (by omega)) (by rfl) ?_ ?_; (focus (simp (disch := omega) [wrap64, List.getElem?_eq_getElem, toNat_pred, DtCatalog.cells, DtUps.cells, DtUp.cells, cS, take_map_n, take_map_n]; done)); simp (disch := omega) [wrap64, List.getElem?_eq_getElem, toNat_pred, DtCatalog.cells, DtUps.cells, DtUp.cells, cS, take_map_n]) | (refine XKd_v (am2s_cons (am2_agg rfl) am2s_nil) (implUpsOk _ (by omega)) rfl ?_; simp (disch := omega) [wrap64, List.getElem?_eq_getElem, toNat_pred, DtCatalog.cells, DtUps.cells, DtUp.cells, cS, take_map_n]) | (refine XKd_p (implUpsOk _ (by omega)) (by rfl) ?_ ?_; (focus (simp (disch := omega) [wrap64, List.getElem?_eq_getElem, toNat_pred, DtCatalog.cells, DtUps.cells, DtUp.cells, cS, take_map_n, take_map_n]; done)); simp (disch := omega) [wrap64, List.getElem?_eq_getElem, toNat_pred, DtCatalog.cells, DtUps.cells, DtUp.cells, cS, take_map_n]) | (refine ⟨fun _ => ?_, fun _ => ?_⟩) | (refine ⟨by omega, ?_⟩) | (intro _)
    all_goals (refine hK _ ?_; clear hK K)
    all_goals
      refine AW_cond rfl (fun hc1 => ?_) (fun hc1 => ?_)
      · try simp [decB_true, decB_false, eqB_true, eqB_false] at hc1
        all_goals
          refine AW_x rfl rfl fun K hK => ?_
          simp (disch := omega) [wrap64, List.getElem?_eq_getElem, toNat_pred, DtCatalog.cells, DtUps.cells, DtUp.cells, cS, take_map_n]
          repeat' first | (exfalso; omega) | (refine ⟨fun _ => ?_, fun _ => ?_⟩) | (refine ⟨by omega, ?_⟩) | (intro _)
          all_goals (refine hK _ ?_; clear hK K)
          all_goals
            refine AW_ret (end_x [1000] [(1000, 1)] (by simp [List.range_succ, lk_cons, lk_nil, upd_app]) (by simp) ?_)
            simp (disch := omega) [wrap64, List.getElem?_eq_getElem, toNat_pred, DtCatalog.cells, DtUps.cells, DtUp.cells, cS, take_map_n]
            all_goals first | (have e : i = u.fList.length := (by omega); subst e; rw [markedL_t hcp hup, hacc, List.take_length]; exact ⟨rfl, rfl⟩) | (rw [markedL_f (by first | exact .inr ‹¬ UpsOkP u› | (left; rw [← decB_false]; assumption))]; done) | (rw [markedL_f (by first | exact .inr ‹¬ UpsOkP u› | (left; rw [← decB_false]; assumption))]; simp; done) | trace_state
      · try simp [decB_true, decB_false, eqB_true, eqB_false] at hc1
        all_goals
          refine AW_skip ?_
          refine AW_id ?_
          refine AW_x rfl rfl fun K hK => ?_
          simp (disch := omega) [wrap64, List.getElem?_eq_getElem, toNat_pred, DtCatalog.cells, DtUps.cells, DtUp.cells, cS, take_map_n]
          repeat' first | (exfalso; omega) | (refine XKd_x [] true [] (implAll c (by omega)) ?_ ?_ ?_; (focus (simp [List.range_succ, nmC]; done)); (focus (simp (disch := omega) [wrap64, List.getElem?_eq_getElem, toNat_pred, DtCatalog.cells, DtUps.cells, DtUp.cells, cS, take_map_n, take_map_n]; done)); simp (disch := omega) [wrap64, List.getElem?_eq_getElem, toNat_pred, DtCatalog.cells, DtUps.cells, DtUp.cells, cS, take_map_n]) | (refine ⟨fun _ => ?_, fun _ => ?_⟩) | (refine ⟨by omega, ?_⟩) | (intro _)
          all_goals (refine hK _ ?_; clear hK K)
          all_goals
            refine AW_x rfl rfl fun K hK => ?_
            simp (disch := omega) [wrap64, List.getElem?_eq_getElem, toNat_pred, DtCatalog.cells, DtUps.cells, DtUp.cells, cS, take_map_n]
            repeat' first | (exfalso; omega) | (refine ⟨fun _ => ?_, fun _ => ?_⟩) | (refine ⟨by omega, ?_⟩) | (intro _)
            all_goals (refine hK _ ?_; clear hK K)
            all_goals
              refine AW_seq ?_
              refine AW_x rfl rfl fun K hK => ?_
              simp (disch := omega) [wrap64, List.getElem?_eq_getElem, toNat_pred, DtCatalog.cells, DtUps.cells, DtUp.cells, cS, take_map_n]
              repeat' first | (exfalso; omega) | (refine ⟨fun _ => ?_, fun _ => ?_⟩) | (refine ⟨by omega, ?_⟩) | (intro _)
              all_goals (refine hK _ ?_; clear hK K)
              all_goals
                refine AW_block ?_
                refine AW_loopS (fun mM sS => ∃ (i : Nat) (acc : List (List UInt8)), mM = u.fList.length - i ∧ (i ≤ u.fList.length ∧ acc = mkdL c u (u.fList.take i)) ∧ sS = { env := lkE [(3, .ptr 64 0), (5, .arr 304 0 (allL c).length), (6, .arr 320 0 acc.length), (21, .sl 3 (u.fList.map DtUp.cells)), (22, (.g (.int .i64 ((u.fList.length : Nat))))), (23, (.g (.int .i64 ((i : Nat)))))], ob := lk [(64, .cells (DtUps.cells u)), (304, .own 1 ((allL c).map cS)), (320, .flat 1 (acc.map cS))] }) ?_ ?_
                · refine ⟨_, LeS.kx [(64, 64), (304, 304), (320, 320)] [(3, .ptr 64 0), (5, .arr 304 0 (allL c).length), (6, .arr 320 0 ([]).length), (21, .sl 3 (u.fList.map DtUp.cells)), (22, (.g (.int .i64 ((u.fList.length : Nat))))), (23, (.g (.int .i64 (((0) : Nat)))))] [(64, .cells (DtUps.cells u)), (304, .own 1 ((allL c).map cS)), (320, .flat 1 (([]).map cS))] (by simp [KpR, renV2, renV, upd_app, lkE_app, lk_cons, lk_nil, DtCatalog.cells, DtUps.cells, DtUp.cells, cS, take_map_n]; try rfl) (by simp [KpOX, renO, plO, cvO, renV, pl1, lk_cons, lk_nil, upd_app, DtCatalog.cells, DtUps.cells, DtUp.cells, cS, take_map_n]; try rfl) (by rfl) (by simp) (by simp) (by rfl) (by simp [formsX, List.range_succ, lk_cons, lk_nil]), _, 0, [], rfl, ?_, rfl⟩
                  · simp [mkdL]
                · rintro mM sS ⟨i, acc, rfl, ⟨hi, hacc⟩, rfl⟩
                  have hcp : CatP c := by first | assumption | (simp_all [decB_true]; done)
                  have hup : UpsOkP u := by first | assumption | (simp_all [decB_true]; done)
                  have hep1 := hup.1
                  have hep2 := hup.2.1
                  have hal : acc.length ≤ 1048576 := by rw [hacc]; have h1 := mkdL_len c u (u.fList.take i); have h2 := List.length_take_le' i u.fList; omega
                  refine AW_x rfl rfl fun K hK => ?_
                  simp (disch := omega) [wrap64, List.getElem?_eq_getElem, toNat_pred, DtCatalog.cells, DtUps.cells, DtUp.cells, cS, take_map_n]
                  repeat' first | (exfalso; omega) | (refine ⟨fun _ => ?_, fun _ => ?_⟩) | (refine ⟨by omega, ?_⟩) | (intro _)
                  all_goals (refine hK _ ?_; clear hK K)
                  all_goals
                    refine AW_seq ?_
                    refine AW_cond rfl (fun hc2 => ?_) (fun hc2 => ?_)
                    · try simp [decB_true, decB_false, eqB_true, eqB_false] at hc2
                      all_goals
                        have hst := mkdL_take c u u.fList i (by omega)
                        have hmi := markP_iff c u u.fList[i]
                        refine AW_skip ?_
                        refine AW_id ?_
                        refine AW_seq ?_
                        refine AW_block ?_
                        refine AW_x rfl rfl fun K hK => ?_
                        simp (disch := omega) [wrap64, List.getElem?_eq_getElem, toNat_pred, DtCatalog.cells, DtUps.cells, DtUp.cells, cS, take_map_n]
                        repeat' first | (exfalso; omega) | (refine ⟨fun _ => ?_, fun _ => ?_⟩) | (refine ⟨by omega, ?_⟩) | (intro _)
                        all_goals (refine hK _ ?_; clear hK K)
                        all_goals
                          refine AW_x rfl rfl fun K hK => ?_
                          simp (disch := omega) [wrap64, List.getElem?_eq_getElem, toNat_pred, DtCatalog.cells, DtUps.cells, DtUp.cells, cS, take_map_n]
                          repeat' first | (exfalso; omega) | (refine XKd_v (am2s_cons am2_sl (am2s_cons am2_s am2s_nil)) (containsS (allL c) (u.fList[i]).fChunk (by omega)) rfl ?_; simp (disch := omega) [wrap64, List.getElem?_eq_getElem, toNat_pred, DtCatalog.cells, DtUps.cells, DtUp.cells, cS, take_map_n]) | (refine XKd_p (containsS (allL c) (u.fList[i]).fChunk (by omega)) (by rfl) ?_ ?_; (focus (simp (disch := omega) [wrap64, List.getElem?_eq_getElem, toNat_pred, DtCatalog.cells, DtUps.cells, DtUp.cells, cS, take_map_n, take_map_n]; done)); simp (disch := omega) [wrap64, List.getElem?_eq_getElem, toNat_pred, DtCatalog.cells, DtUps.cells, DtUp.cells, cS, take_map_n]) | (refine ⟨fun _ => ?_, fun _ => ?_⟩) | (refine ⟨by omega, ?_⟩) | (intro _)
                          all_goals (refine hK _ ?_; clear hK K)
                          all_goals
                            refine AW_cond rfl (fun hc3 => ?_) (fun hc3 => ?_)
                            · try simp [decB_true, decB_false, eqB_true, eqB_false] at hc3
                              all_goals
                                refine AW_xe rfl rfl fun K hK => ?_
                                simp (disch := omega) [wrap64, List.getElem?_eq_getElem, toNat_pred, DtCatalog.cells, DtUps.cells, DtUp.cells, cS, take_map_n]
                                repeat' first | (exfalso; omega) | (refine ⟨fun _ => ?_, fun _ => ?_⟩) | (refine ⟨by omega, ?_⟩) | (intro _)
                                all_goals (refine hK _ ?_; clear hK K)
                                all_goals
                                  refine AW_id ?_
                                  refine AW_xe rfl rfl fun K hK => ?_
                                  simp (disch := omega) [wrap64, List.getElem?_eq_getElem, toNat_pred, DtCatalog.cells, DtUps.cells, DtUp.cells, cS, take_map_n]
                                  repeat' first | (exfalso; omega) | (refine ⟨fun _ => ?_, fun _ => ?_⟩) | (refine ⟨by omega, ?_⟩) | (intro _)
                                  all_goals (refine hK _ ?_; clear hK K)
                                  all_goals
                                    refine ⟨_, LeS.kx [(64, 64), (304, 304), (320, 704)] [(3, .ptr 64 0), (5, .arr 304 0 (allL c).length), (6, .arr 320 0 (acc ++ [(u.fList[i]).fChunk]).length), (21, .sl 3 (u.fList.map DtUp.cells)), (22, (.g (.int .i64 ((u.fList.length : Nat))))), (23, (.g (.int .i64 (((i + 1) : Nat)))))] [(64, .cells (DtUps.cells u)), (304, .own 1 ((allL c).map cS)), (320, .flat 1 ((acc ++ [(u.fList[i]).fChunk]).map cS))] (by simp [KpR, renV2, renV, upd_app, lkE_app, lk_cons, lk_nil, DtCatalog.cells, DtUps.cells, DtUp.cells, cS, take_map_n]; try rfl) (by simp [KpOX, renO, plO, cvO, renV, pl1, lk_cons, lk_nil, upd_app, DtCatalog.cells, DtUps.cells, DtUp.cells, cS, take_map_n]; try rfl) (by rfl) (by simp) (by simp) (by rfl) (by simp [formsX, List.range_succ, lk_cons, lk_nil]), _, ?_, i + 1, acc ++ [(u.fList[i]).fChunk], rfl, ?_, rfl⟩
                                    · omega
                                    · refine ⟨by omega, ?_⟩
                                      rw [hst, hacc]
                                      split
                                      · rename_i hsp; rw [hmi] at hsp <;> first | rfl | (exfalso; simp_all [decB_true, decB_false]; done) | (exfalso; simp_all [decB_true, decB_false] <;> omega)
                                      · rename_i hsp; rw [hmi] at hsp <;> first | (simp; done) | (exfalso; simp_all [decB_true, decB_false]; done) | (exfalso; simp_all [decB_true, decB_false] <;> omega)
                            · try simp [decB_true, decB_false, eqB_true, eqB_false] at hc3
                              all_goals
                                refine AW_skip ?_
                                refine AW_id ?_
                                refine AW_xe rfl rfl fun K hK => ?_
                                simp (disch := omega) [wrap64, List.getElem?_eq_getElem, toNat_pred, DtCatalog.cells, DtUps.cells, DtUp.cells, cS, take_map_n]
                                repeat' first | (exfalso; omega) | (refine ⟨fun _ => ?_, fun _ => ?_⟩) | (refine ⟨by omega, ?_⟩) | (intro _)
                                all_goals (refine hK _ ?_; clear hK K)
                                all_goals
                                  refine ⟨_, LeS.kx [(64, 64), (304, 304), (320, 320)] [(3, .ptr 64 0), (5, .arr 304 0 (allL c).length), (6, .arr 320 0 (acc).length), (21, .sl 3 (u.fList.map DtUp.cells)), (22, (.g (.int .i64 ((u.fList.length : Nat))))), (23, (.g (.int .i64 (((i + 1) : Nat)))))] [(64, .cells (DtUps.cells u)), (304, .own 1 ((allL c).map cS)), (320, .flat 1 ((acc).map cS))] (by simp [KpR, renV2, renV, upd_app, lkE_app, lk_cons, lk_nil, DtCatalog.cells, DtUps.cells, DtUp.cells, cS, take_map_n]; try rfl) (by simp [KpOX, renO, plO, cvO, renV, pl1, lk_cons, lk_nil, upd_app, DtCatalog.cells, DtUps.cells, DtUp.cells, cS, take_map_n]; try rfl) (by rfl) (by simp) (by simp) (by rfl) (by simp [formsX, List.range_succ, lk_cons, lk_nil]), _, ?_, i + 1, acc, rfl, ?_, rfl⟩
                                  · omega
                                  · refine ⟨by omega, ?_⟩
                                    rw [hst, hacc]
                                    split
                                    · rename_i hsp; rw [hmi] at hsp <;> first | rfl | (exfalso; simp_all [decB_true, decB_false]; done) | (exfalso; simp_all [decB_true, decB_false] <;> omega)
                                    · rename_i hsp; rw [hmi] at hsp <;> first | (simp; done) | (exfalso; simp_all [decB_true, decB_false]; done) | (exfalso; simp_all [decB_true, decB_false] <;> omega)
                    · try simp [decB_true, decB_false, eqB_true, eqB_false] at hc2
                      all_goals
                        refine AW_exit ?_
                        refine AW_id ?_
                        refine AW_x rfl rfl fun K hK => ?_
                        simp (disch := omega) [wrap64, List.getElem?_eq_getElem, toNat_pred, DtCatalog.cells, DtUps.cells, DtUp.cells, cS, take_map_n]
                        repeat' first | (exfalso; omega) | (refine ⟨fun _ => ?_, fun _ => ?_⟩) | (refine ⟨by omega, ?_⟩) | (intro _)
                        all_goals (refine hK _ ?_; clear hK K)
                        all_goals
                          refine AW_ret (end_x [320] [] (by simp [List.range_succ, lk_cons, lk_nil, upd_app]) (by simp) ?_)
                          simp (disch := omega) [wrap64, List.getElem?_eq_getElem, toNat_pred, DtCatalog.cells, DtUps.cells, DtUp.cells, cS, take_map_n]
                          all_goals first | (have e : i = u.fList.length := (by omega); subst e; rw [markedL_t hcp hup, hacc, List.take_length]; exact ⟨rfl, rfl⟩) | (rw [markedL_f (by first | exact .inr ‹¬ UpsOkP u› | (left; rw [← decB_false]; assumption))]; done) | (rw [markedL_f (by first | exact .inr ‹¬ UpsOkP u› | (left; rw [← decB_false]; assumption))]; simp; done) | trace_state
theorem specMarked (c : DtCatalog) (hs : DtCatalog.sz c ≤ 1048576) (u : DtUps) (hu : DtUps.sz u ≤ 1048576) : XCall Try.prog 17 [.agg (DtCatalog.cells c), .agg (DtUps.cells u)] [] (.arr 16 0 (markedL c u).length) [] [.own 1 ((markedL c u).map cS)] := by
  have hkl := allL_len c
  have hul : u.fList.length ≤ 1048576 := by have h := len_szS DtUp.sz_nonneg u.fList; simp only [DtUps.sz] at hu; omega
  refine xcall_of_walk Try.func17 (by rfl) (by rfl) (by rw [Try.ntmps17]; exact Nat.le_of_ble_eq_true rfl) rfl (by simp) rfl rfl ?_
  rw [Try.ntmps17]
  refine AW_x0   ?_
  refine AW_k [(0, _), (1, _)] ⟨rfl, rfl, trivial⟩ ?_
  refine AW_x rfl rfl fun K hK => ?_
  simp (disch := omega) [wrap64, List.getElem?_eq_getElem, toNat_pred, DtCatalog.cells, DtUps.cells, DtUp.cells, cS, take_map_n]
  repeat' first | (exfalso; omega) | (refine ⟨fun _ => ?_, fun _ => ?_⟩) | (refine ⟨by omega, ?_⟩) | (intro _)
  all_goals (refine hK _ ?_; clear hK K)
  all_goals
    refine AW_x rfl rfl fun K hK => ?_
    simp (disch := omega) [wrap64, List.getElem?_eq_getElem, toNat_pred, DtCatalog.cells, DtUps.cells, DtUp.cells, cS, take_map_n]
    repeat' first | (exfalso; omega) | (refine ⟨fun _ => ?_, fun _ => ?_⟩) | (refine ⟨by omega, ?_⟩) | (intro _)
    all_goals (refine hK _ ?_; clear hK K)
    all_goals
      refine AW_seq ?_
      refine AW_x rfl rfl fun K hK => ?_
      simp (disch := omega) [wrap64, List.getElem?_eq_getElem, toNat_pred, DtCatalog.cells, DtUps.cells, DtUp.cells, cS, take_map_n]
      repeat' first | (exfalso; omega) | (refine XKd_v (am2s_cons (am2_agg rfl) am2s_nil) (specCatOk _ (by omega)) rfl ?_; simp (disch := omega) [wrap64, List.getElem?_eq_getElem, toNat_pred, DtCatalog.cells, DtUps.cells, DtUp.cells, cS, take_map_n]) | (refine XKd_p (specCatOk _ (by omega)) (by rfl) ?_ ?_; (focus (simp (disch := omega) [wrap64, List.getElem?_eq_getElem, toNat_pred, DtCatalog.cells, DtUps.cells, DtUp.cells, cS, take_map_n, take_map_n]; done)); simp (disch := omega) [wrap64, List.getElem?_eq_getElem, toNat_pred, DtCatalog.cells, DtUps.cells, DtUp.cells, cS, take_map_n]) | (refine XKd_v (am2s_cons (am2_agg rfl) am2s_nil) (specUpsOk _ (by omega)) rfl ?_; simp (disch := omega) [wrap64, List.getElem?_eq_getElem, toNat_pred, DtCatalog.cells, DtUps.cells, DtUp.cells, cS, take_map_n]) | (refine XKd_p (specUpsOk _ (by omega)) (by rfl) ?_ ?_; (focus (simp (disch := omega) [wrap64, List.getElem?_eq_getElem, toNat_pred, DtCatalog.cells, DtUps.cells, DtUp.cells, cS, take_map_n, take_map_n]; done)); simp (disch := omega) [wrap64, List.getElem?_eq_getElem, toNat_pred, DtCatalog.cells, DtUps.cells, DtUp.cells, cS, take_map_n]) | (refine ⟨fun _ => ?_, fun _ => ?_⟩) | (refine ⟨by omega, ?_⟩) | (intro _)
      all_goals (refine hK _ ?_; clear hK K)
      all_goals
        refine AW_cond rfl (fun hc4 => ?_) (fun hc4 => ?_)
        · try simp [decB_true, decB_false, eqB_true, eqB_false] at hc4
          all_goals
            refine AW_x rfl rfl fun K hK => ?_
            simp (disch := omega) [wrap64, List.getElem?_eq_getElem, toNat_pred, DtCatalog.cells, DtUps.cells, DtUp.cells, cS, take_map_n]
            repeat' first | (exfalso; omega) | (refine ⟨fun _ => ?_, fun _ => ?_⟩) | (refine ⟨by omega, ?_⟩) | (intro _)
            all_goals (refine hK _ ?_; clear hK K)
            all_goals
              refine AW_ret (end_x [144] [] (by simp [List.range_succ, lk_cons, lk_nil, upd_app]) (by simp) ?_)
              simp (disch := omega) [wrap64, List.getElem?_eq_getElem, toNat_pred, DtCatalog.cells, DtUps.cells, DtUp.cells, cS, take_map_n]
              all_goals first | (have e : i = u.fList.length := (by omega); subst e; rw [markedL_t hcp hup, hacc, List.take_length]; exact ⟨rfl, rfl⟩) | (rw [markedL_f (by first | exact .inr ‹¬ UpsOkP u› | (left; rw [← decB_false]; assumption))]; done) | (rw [markedL_f (by first | exact .inr ‹¬ UpsOkP u› | (left; rw [← decB_false]; assumption))]; simp; done) | trace_state
        · try simp [decB_true, decB_false, eqB_true, eqB_false] at hc4
          all_goals
            refine AW_skip ?_
            refine AW_id ?_
            refine AW_x rfl rfl fun K hK => ?_
            simp (disch := omega) [wrap64, List.getElem?_eq_getElem, toNat_pred, DtCatalog.cells, DtUps.cells, DtUp.cells, cS, take_map_n]
            repeat' first | (exfalso; omega) | (refine XKd_x [] true [] (specAll c (by omega)) ?_ ?_ ?_; (focus (simp [List.range_succ, nmC]; done)); (focus (simp (disch := omega) [wrap64, List.getElem?_eq_getElem, toNat_pred, DtCatalog.cells, DtUps.cells, DtUp.cells, cS, take_map_n, take_map_n]; done)); simp (disch := omega) [wrap64, List.getElem?_eq_getElem, toNat_pred, DtCatalog.cells, DtUps.cells, DtUp.cells, cS, take_map_n]) | (refine ⟨fun _ => ?_, fun _ => ?_⟩) | (refine ⟨by omega, ?_⟩) | (intro _)
            all_goals (refine hK _ ?_; clear hK K)
            all_goals
              refine AW_seq ?_
              refine AW_x rfl rfl fun K hK => ?_
              simp (disch := omega) [wrap64, List.getElem?_eq_getElem, toNat_pred, DtCatalog.cells, DtUps.cells, DtUp.cells, cS, take_map_n]
              repeat' first | (exfalso; omega) | (refine ⟨fun _ => ?_, fun _ => ?_⟩) | (refine ⟨by omega, ?_⟩) | (intro _)
              all_goals (refine hK _ ?_; clear hK K)
              all_goals
                refine AW_block ?_
                refine AW_loopS (fun mM sS => ∃ (i : Nat) (acc : List (List UInt8)), mM = u.fList.length - i ∧ (i ≤ u.fList.length ∧ acc = mkdL c u (u.fList.take i)) ∧ sS = { env := lkE [(3, .ptr 64 0), (5, .arr 144 0 acc.length), (6, .arr 320 0 (allL c).length), (7, (.g (.int .i64 ((i : Nat)))))], ob := lk [(64, .cells (DtUps.cells u)), (144, .flat 1 (acc.map cS)), (320, .own 1 ((allL c).map cS))] }) ?_ ?_
                · refine ⟨_, LeS.kx [(64, 64), (144, 144), (320, 320)] [(3, .ptr 64 0), (5, .arr 144 0 ([]).length), (6, .arr 320 0 (allL c).length), (7, (.g (.int .i64 (((0) : Nat)))))] [(64, .cells (DtUps.cells u)), (144, .flat 1 (([]).map cS)), (320, .own 1 ((allL c).map cS))] (by simp [KpR, renV2, renV, upd_app, lkE_app, lk_cons, lk_nil, DtCatalog.cells, DtUps.cells, DtUp.cells, cS, take_map_n]; try rfl) (by simp [KpOX, renO, plO, cvO, renV, pl1, lk_cons, lk_nil, upd_app, DtCatalog.cells, DtUps.cells, DtUp.cells, cS, take_map_n]; try rfl) (by rfl) (by simp) (by simp) (by rfl) (by simp [formsX, List.range_succ, lk_cons, lk_nil]), _, 0, [], rfl, ?_, rfl⟩
                  · simp [mkdL]
                · rintro mM sS ⟨i, acc, rfl, ⟨hi, hacc⟩, rfl⟩
                  have hcp : CatP c := by first | assumption | (simp_all [decB_true]; done)
                  have hup : UpsOkP u := by first | assumption | (simp_all [decB_true]; done)
                  have hep1 := hup.1
                  have hep2 := hup.2.1
                  have hal : acc.length ≤ 1048576 := by rw [hacc]; have h1 := mkdL_len c u (u.fList.take i); have h2 := List.length_take_le' i u.fList; omega
                  refine AW_seq ?_
                  refine AW_x rfl rfl fun K hK => ?_
                  simp (disch := omega) [wrap64, List.getElem?_eq_getElem, toNat_pred, DtCatalog.cells, DtUps.cells, DtUp.cells, cS, take_map_n]
                  repeat' first | (exfalso; omega) | (refine ⟨fun _ => ?_, fun _ => ?_⟩) | (refine ⟨by omega, ?_⟩) | (intro _)
                  all_goals (refine hK _ ?_; clear hK K)
                  all_goals
                    refine AW_cond rfl (fun hc5 => ?_) (fun hc5 => ?_)
                    · try simp [decB_true, decB_false, eqB_true, eqB_false] at hc5
                      all_goals
                        have hst := mkdL_take c u u.fList i (by omega)
                        have hmi := markP_iff c u u.fList[i]
                        refine AW_skip ?_
                        refine AW_id ?_
                        refine AW_seq ?_
                        refine AW_block ?_
                        refine AW_d rfl mix (by kernel_rfl) (by kernel_rfl) fun K hK => ?_
                        simp (disch := omega) [wrap64, List.getElem?_eq_getElem, toNat_pred, DtCatalog.cells, DtUps.cells, DtUp.cells, cS, take_map_n]
                        repeat' first | (exfalso; omega) | (refine DKd_v (fun st' => (am2s_cons am2_sl (am2s_cons am2_s am2s_nil))) (l15In (allL c) (u.fList[i]).fChunk (by omega)) rfl ?_; simp (disch := omega) [wrap64, List.getElem?_eq_getElem, toNat_pred, DtCatalog.cells, DtUps.cells, DtUp.cells, cS, take_map_n]) | (refine DKd_p (l15In (allL c) (u.fList[i]).fChunk (by omega)) (by rfl) (fun st' hst => ?_) ?_; (focus (simp (disch := omega) [wrap64, List.getElem?_eq_getElem, toNat_pred, DtCatalog.cells, DtUps.cells, DtUp.cells, cS, take_map_n] at hst; simp (disch := omega) [wrap64, List.getElem?_eq_getElem, toNat_pred, DtCatalog.cells, DtUps.cells, DtUp.cells, cS, take_map_n, hst, take_map_n]; done)); simp (disch := omega) [wrap64, List.getElem?_eq_getElem, toNat_pred, DtCatalog.cells, DtUps.cells, DtUp.cells, cS, take_map_n]) | (refine ⟨fun _ => ?_, fun _ => ?_⟩) | (refine ⟨by omega, ?_⟩) | (intro _)
                        all_goals (refine hK _ _ (by kernel_rfl) ?_; clear hK K)
                        all_goals
                          refine AW_cond rfl (fun hc6 => ?_) (fun hc6 => ?_)
                          · try simp [decB_true, decB_false, eqB_true, eqB_false] at hc6
                            all_goals
                              refine AW_xe rfl rfl fun K hK => ?_
                              simp (disch := omega) [wrap64, List.getElem?_eq_getElem, toNat_pred, DtCatalog.cells, DtUps.cells, DtUp.cells, cS, take_map_n]
                              repeat' first | (exfalso; omega) | (refine ⟨fun _ => ?_, fun _ => ?_⟩) | (refine ⟨by omega, ?_⟩) | (intro _)
                              all_goals (refine hK _ ?_; clear hK K)
                              all_goals
                                refine AW_id ?_
                                refine AW_xe rfl rfl fun K hK => ?_
                                simp (disch := omega) [wrap64, List.getElem?_eq_getElem, toNat_pred, DtCatalog.cells, DtUps.cells, DtUp.cells, cS, take_map_n]
                                repeat' first | (exfalso; omega) | (refine ⟨fun _ => ?_, fun _ => ?_⟩) | (refine ⟨by omega, ?_⟩) | (intro _)
                                all_goals (refine hK _ ?_; clear hK K)
                                all_goals
                                  refine ⟨_, LeS.kx [(64, 64), (144, 896), (320, 320)] [(3, .ptr 64 0), (5, .arr 144 0 (acc ++ [(u.fList[i]).fChunk]).length), (6, .arr 320 0 (allL c).length), (7, (.g (.int .i64 (((i + 1) : Nat)))))] [(64, .cells (DtUps.cells u)), (144, .flat 1 ((acc ++ [(u.fList[i]).fChunk]).map cS)), (320, .own 1 ((allL c).map cS))] (by simp [KpR, renV2, renV, upd_app, lkE_app, lk_cons, lk_nil, DtCatalog.cells, DtUps.cells, DtUp.cells, cS, take_map_n]; try rfl) (by simp [KpOX, renO, plO, cvO, renV, pl1, lk_cons, lk_nil, upd_app, DtCatalog.cells, DtUps.cells, DtUp.cells, cS, take_map_n]; try rfl) (by rfl) (by simp) (by simp) (by rfl) (by simp [formsX, List.range_succ, lk_cons, lk_nil]), _, ?_, i + 1, acc ++ [(u.fList[i]).fChunk], rfl, ?_, rfl⟩
                                  · omega
                                  · refine ⟨by omega, ?_⟩
                                    rw [hst, hacc]
                                    split
                                    · rename_i hsp; rw [hmi] at hsp <;> first | rfl | (exfalso; simp_all [decB_true, decB_false]; done) | (exfalso; simp_all [decB_true, decB_false] <;> omega)
                                    · rename_i hsp; rw [hmi] at hsp <;> first | (simp; done) | (exfalso; simp_all [decB_true, decB_false]; done) | (exfalso; simp_all [decB_true, decB_false] <;> omega)
                          · try simp [decB_true, decB_false, eqB_true, eqB_false] at hc6
                            all_goals
                              refine AW_skip ?_
                              refine AW_id ?_
                              refine AW_xe rfl rfl fun K hK => ?_
                              simp (disch := omega) [wrap64, List.getElem?_eq_getElem, toNat_pred, DtCatalog.cells, DtUps.cells, DtUp.cells, cS, take_map_n]
                              repeat' first | (exfalso; omega) | (refine ⟨fun _ => ?_, fun _ => ?_⟩) | (refine ⟨by omega, ?_⟩) | (intro _)
                              all_goals (refine hK _ ?_; clear hK K)
                              all_goals
                                refine ⟨_, LeS.kx [(64, 64), (144, 144), (320, 320)] [(3, .ptr 64 0), (5, .arr 144 0 (acc).length), (6, .arr 320 0 (allL c).length), (7, (.g (.int .i64 (((i + 1) : Nat)))))] [(64, .cells (DtUps.cells u)), (144, .flat 1 ((acc).map cS)), (320, .own 1 ((allL c).map cS))] (by simp [KpR, renV2, renV, upd_app, lkE_app, lk_cons, lk_nil, DtCatalog.cells, DtUps.cells, DtUp.cells, cS, take_map_n]; try rfl) (by simp [KpOX, renO, plO, cvO, renV, pl1, lk_cons, lk_nil, upd_app, DtCatalog.cells, DtUps.cells, DtUp.cells, cS, take_map_n]; try rfl) (by rfl) (by simp) (by simp) (by rfl) (by simp [formsX, List.range_succ, lk_cons, lk_nil]), _, ?_, i + 1, acc, rfl, ?_, rfl⟩
                                · omega
                                · refine ⟨by omega, ?_⟩
                                  rw [hst, hacc]
                                  split
                                  · rename_i hsp; rw [hmi] at hsp <;> first | rfl | (exfalso; simp_all [decB_true, decB_false]; done) | (exfalso; simp_all [decB_true, decB_false] <;> omega)
                                  · rename_i hsp; rw [hmi] at hsp <;> first | (simp; done) | (exfalso; simp_all [decB_true, decB_false]; done) | (exfalso; simp_all [decB_true, decB_false] <;> omega)
                    · try simp [decB_true, decB_false, eqB_true, eqB_false] at hc5
                      all_goals
                        refine AW_exit ?_
                        refine AW_id ?_
                        refine AW_x rfl rfl fun K hK => ?_
                        simp (disch := omega) [wrap64, List.getElem?_eq_getElem, toNat_pred, DtCatalog.cells, DtUps.cells, DtUp.cells, cS, take_map_n]
                        repeat' first | (exfalso; omega) | (refine ⟨fun _ => ?_, fun _ => ?_⟩) | (refine ⟨by omega, ?_⟩) | (intro _)
                        all_goals (refine hK _ ?_; clear hK K)
                        all_goals
                          refine AW_ret (end_x [144] [] (by simp [List.range_succ, lk_cons, lk_nil, upd_app]) (by simp) ?_)
                          simp (disch := omega) [wrap64, List.getElem?_eq_getElem, toNat_pred, DtCatalog.cells, DtUps.cells, DtUp.cells, cS, take_map_n]
                          all_goals first | (have e : i = u.fList.length := (by omega); subst e; rw [markedL_t hcp hup, hacc, List.take_length]; exact ⟨rfl, rfl⟩) | (rw [markedL_f (by first | exact .inr ‹¬ UpsOkP u› | (left; rw [← decB_false]; assumption))]; done) | (rw [markedL_f (by first | exact .inr ‹¬ UpsOkP u› | (left; rw [← decB_false]; assumption))]; simp; done) | trace_state
end Go.Proofs.Ytcedomdpbgjbpaa.Vs
