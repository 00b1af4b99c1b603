import Derived.Test.YtcedomdpbgjbpaaSQ7
import Derived.Test.YtcedomdpbgjbpaaST7
import Derived.Test.YtcedomdpbgjbpaaSLX7
open Go Go.Proofs.Ytcedomdpbgjbpaa.Vs Go.Proofs Go.Shelf
namespace Go.Proofs.Ytcedomdpbgjbpaa.Vs
set_option linter.unusedVariables false
set_option linter.unusedSimpArgs false
set_option linter.unusedSectionVars false
set_option linter.unnecessarySimpa false
set_option linter.all false
set_option linter.unusedSimpArgs false
set_option linter.unusedVariables false
set_option maxRecDepth 100000
theorem sortX (l : List (List UInt8)) (hl : l.length ≤ 1048576) : XCall Try.prog 39 [.arr 8 0 l.length] [.own 1 (l.map cS)] (.tup []) [.own 1 ((sortS l).map cS)] [] :=
  sortX_of ⟨_, rfl, rfl, rfl⟩ (fun blk off cap ss w => Any.slices_Sort_string Try.lays190 blk off cap ss w) (fun p cap w => Any.slices_Sort_string_none Try.lays190 p cap w) l hl
theorem compactX (l : List (List UInt8)) (hl : l.length ≤ 1048576) : XCall Try.prog 40 [.arr 8 0 l.length] [.own 1 (l.map cS)] (.arr 8 0 (Lib.compact l).length) [.own 1 ((Lib.compact l).map cS)] [] :=
  compactX_of ⟨_, rfl, rfl, rfl⟩ (fun blk off cap ss w => Any.slices_Compact_string Try.lays194 blk off cap ss w) (fun p cap w => Any.slices_Compact_string_empty Try.lays194 p cap w) l hl
theorem decB_dec (p : Prop) [Decidable p] : decB p = decide p := by
  by_cases h : p
  · rw [decB_t h, decide_eq_true h]
  · rw [decB_f h, decide_eq_false h]
theorem putX (l : List (List UInt8)) (x : List UInt8) (hn : l.length ≤ 1048576) : XCall Try.prog 36 [.sl 1 (l.map cS), .s x] [] (.arr 16 0 (putS l x).length) [] [.own 1 ((putS l x).map cS)] := by
  refine xcall_of_walk Try.func36 (by rfl) (by rfl) (by rw [Try.ntmps36]; exact Nat.le_of_ble_eq_true rfl) rfl (by simp) rfl rfl ?_
  rw [Try.ntmps36]
  refine AW_x0   ?_
  refine AW_k [(0, _), (1, _)] ⟨rfl, rfl, trivial⟩ ?_
  refine AW_x rfl rfl fun K hK => ?_
  simp (disch := omega) [wrap64, List.getElem?_eq_getElem, toNat_pred, cS, take_map_n]
  repeat' first | (exfalso; omega) | (refine ⟨fun _ => ?_, fun _ => ?_⟩) | (refine ⟨by omega, ?_⟩) | (intro _)
  all_goals (refine hK _ ?_; clear hK K)
  all_goals
    refine AW_x rfl rfl fun K hK => ?_
    simp (disch := omega) [wrap64, List.getElem?_eq_getElem, toNat_pred, cS, take_map_n]
    repeat' first | (exfalso; omega) | (refine ⟨fun _ => ?_, fun _ => ?_⟩) | (refine ⟨by omega, ?_⟩) | (intro _)
    all_goals (refine hK _ ?_; clear hK K)
    all_goals
      refine AW_x rfl rfl fun K hK => ?_
      simp (disch := omega) [wrap64, List.getElem?_eq_getElem, toNat_pred, cS, take_map_n]
      repeat' first | (exfalso; omega) | (refine XKd_v (am2s_cons am2_sl (am2s_cons am2_s am2s_nil)) (l15In _ _ (by omega)) rfl ?_; simp (disch := omega) [wrap64, List.getElem?_eq_getElem, toNat_pred, cS, take_map_n]) | (refine XKd_p (l15In _ _ (by omega)) (by rfl) ?_ ?_; (focus (simp (disch := omega) [wrap64, List.getElem?_eq_getElem, toNat_pred, cS, take_map_n, take_map_n]; done)); simp (disch := omega) [wrap64, List.getElem?_eq_getElem, toNat_pred, cS, take_map_n]) | (refine ⟨fun _ => ?_, fun _ => ?_⟩) | (refine ⟨by omega, ?_⟩) | (intro _)
      all_goals (refine hK _ ?_; clear hK K)
      all_goals
        refine AW_seq ?_
        refine AW_x rfl rfl fun K hK => ?_
        simp (disch := omega) [wrap64, List.getElem?_eq_getElem, toNat_pred, cS, take_map_n]
        repeat' first | (exfalso; omega) | (refine ⟨fun _ => ?_, fun _ => ?_⟩) | (refine ⟨by omega, ?_⟩) | (intro _)
        all_goals (refine hK _ ?_; clear hK K)
        all_goals
          refine AW_block ?_
          refine AW_loopS (fun mM sS => ∃ (i : Nat) (b : Bool) (out : List (List UInt8)), mM = l.length - i ∧ (i ≤ l.length ∧ out ++ ins x b (l.drop i) = putS l x ∧ out.length ≤ 2 * i) ∧ sS = { env := lkE [(0, .sl 1 (l.map cS)), (1, .s x), (5, .arr 144 0 out.length), (6, (.g (.bool (b)))), (7, (.g (.int .i64 ((i : Nat)))))], ob := lk [(144, .flat 1 (out.map cS))] }) ?_ ?_
          · refine ⟨_, LeS.kx [(144, 144)] [(0, .sl 1 (l.map cS)), (1, .s x), (5, .arr 144 0 ([]).length), (6, (.g (.bool ((decB (x ∈ l)))))), (7, (.g (.int .i64 (((0) : Nat)))))] [(144, .flat 1 (([]).map cS))] (by simp [KpR, renV2, renV, upd_app, lkE_app, lk_cons, lk_nil, cS, take_map_n]; try rfl) (by simp [KpOX, renO, plO, cvO, renV, pl1, lk_cons, lk_nil, upd_app, cS, take_map_n]; try (first | rfl | (simp [cS, take_map_n, List.take_of_length_le]; done))) (by rfl) (by simp) (by simp) (by rfl) (by simp [formsX, List.range_succ, lk_cons, lk_nil]), _, 0, decB (x ∈ l), [], rfl, ?_, rfl⟩
            · simp [putS, decB_dec]
          · rintro mM sS ⟨i, b, out, rfl, ⟨hi, ho, hlen⟩, rfl⟩
            refine AW_seq ?_
            refine AW_x rfl rfl fun K hK => ?_
            simp (disch := omega) [wrap64, List.getElem?_eq_getElem, toNat_pred, cS, take_map_n]
            repeat' first | (exfalso; omega) | (refine ⟨fun _ => ?_, fun _ => ?_⟩) | (refine ⟨by omega, ?_⟩) | (intro _)
            all_goals (refine hK _ ?_; clear hK K)
            all_goals
              refine AW_cond rfl (fun hc1 => ?_) (fun hc1 => ?_)
              · try simp [decB_true, decB_false, eqB_true, eqB_false] at hc1
                all_goals
                  have hg : l[i]? = some l[i] := List.getElem?_eq_getElem (by omega)
                  have hd : l.drop i = l[i] :: l.drop (i + 1) := List.drop_eq_getElem_cons (by omega)
                  rw [hd, ins] at ho
                  refine AW_skip ?_
                  refine AW_id ?_
                  refine AW_seq ?_
                  refine AW_block ?_
                  refine AW_seq ?_
                  refine AW_x rfl rfl fun K hK => ?_
                  simp (disch := omega) [wrap64, List.getElem?_eq_getElem, toNat_pred, cS, take_map_n]
                  repeat' first | (exfalso; omega) | (refine ⟨fun _ => ?_, fun _ => ?_⟩) | (refine ⟨by omega, ?_⟩) | (intro _)
                  all_goals (refine hK _ ?_; clear hK K)
                  all_goals
                    refine AW_cond rfl (fun hc2 => ?_) (fun hc2 => ?_)
                    · try simp [decB_true, decB_false, eqB_true, eqB_false] at hc2
                      all_goals
                        refine AW_x rfl rfl fun K hK => ?_
                        simp (disch := omega) [wrap64, List.getElem?_eq_getElem, toNat_pred, cS, take_map_n]
                        repeat' first | (exfalso; omega) | (refine ⟨fun _ => ?_, fun _ => ?_⟩) | (refine ⟨by omega, ?_⟩) | (intro _)
                        all_goals (refine hK _ ?_; clear hK K)
                        all_goals
                          refine AW_xe rfl rfl fun K hK => ?_
                          simp (disch := omega) [wrap64, List.getElem?_eq_getElem, toNat_pred, cS, take_map_n]
                          repeat' first | (exfalso; omega) | (refine ⟨fun _ => ?_, fun _ => ?_⟩) | (refine ⟨by omega, ?_⟩) | (intro _)
                          all_goals (refine hK _ ?_; clear hK K)
                          all_goals
                            refine AW_id ?_
                            refine AW_xe rfl rfl fun K hK => ?_
                            simp (disch := omega) [wrap64, List.getElem?_eq_getElem, toNat_pred, cS, take_map_n]
                            repeat' first | (exfalso; omega) | (refine ⟨fun _ => ?_, fun _ => ?_⟩) | (refine ⟨by omega, ?_⟩) | (intro _)
                            all_goals (refine hK _ ?_; clear hK K)
                            all_goals
                              refine AW_id ?_
                              refine AW_xe rfl rfl fun K hK => ?_
                              simp (disch := omega) [wrap64, List.getElem?_eq_getElem, toNat_pred, cS, take_map_n]
                              repeat' first | (exfalso; omega) | (refine ⟨fun _ => ?_, fun _ => ?_⟩) | (refine ⟨by omega, ?_⟩) | (intro _)
                              all_goals (refine hK _ ?_; clear hK K)
                              all_goals
                                refine ⟨_, LeS.kx [(144, 624)] [(0, .sl 1 (l.map cS)), (1, .s x), (5, .arr 144 0 ((out ++ [x]) ++ [l[i]]).length), (6, (.g (.bool ((true))))), (7, (.g (.int .i64 (((i + 1) : Nat)))))] [(144, .flat 1 (((out ++ [x]) ++ [l[i]]).map cS))] (by simp [KpR, renV2, renV, upd_app, lkE_app, lk_cons, lk_nil, cS, take_map_n]; try rfl) (by simp [KpOX, renO, plO, cvO, renV, pl1, lk_cons, lk_nil, upd_app, cS, take_map_n]; try (first | rfl | (simp [cS, take_map_n, List.take_of_length_le]; done))) (by rfl) (by simp) (by simp) (by rfl) (by simp [formsX, List.range_succ, lk_cons, lk_nil]), _, ?_, i + 1, true, (out ++ [x]) ++ [l[i]], rfl, ?_, rfl⟩
                                · omega
                                · refine ⟨by omega, ?_, by simp; omega⟩
                                  rw [← ho]
                                  first
                                    | (rw [show (!b && !(Op.bytesLess l[i] x || l[i] == x)) = true from by simp_all]; simp; done)
                                    | (rw [show (!b && !(Op.bytesLess l[i] x || l[i] == x)) = false from by cases hb : Op.bytesLess l[i] x <;> simp_all]; simp; done)
                    · try simp [decB_true, decB_false, eqB_true, eqB_false] at hc2
                      all_goals
                        refine AW_skip ?_
                        refine AW_id ?_
                        refine AW_xe rfl rfl fun K hK => ?_
                        simp (disch := omega) [wrap64, List.getElem?_eq_getElem, toNat_pred, cS, take_map_n]
                        repeat' first | (exfalso; omega) | (refine ⟨fun _ => ?_, fun _ => ?_⟩) | (refine ⟨by omega, ?_⟩) | (intro _)
                        all_goals (refine hK _ ?_; clear hK K)
                        all_goals
                          refine AW_id ?_
                          refine AW_xe rfl rfl fun K hK => ?_
                          simp (disch := omega) [wrap64, List.getElem?_eq_getElem, toNat_pred, cS, take_map_n]
                          repeat' first | (exfalso; omega) | (refine ⟨fun _ => ?_, fun _ => ?_⟩) | (refine ⟨by omega, ?_⟩) | (intro _)
                          all_goals (refine hK _ ?_; clear hK K)
                          all_goals
                            refine ⟨_, LeS.kx [(144, 624)] [(0, .sl 1 (l.map cS)), (1, .s x), (5, .arr 144 0 (out ++ [l[i]]).length), (6, (.g (.bool ((b))))), (7, (.g (.int .i64 (((i + 1) : Nat)))))] [(144, .flat 1 ((out ++ [l[i]]).map cS))] (by simp [KpR, renV2, renV, upd_app, lkE_app, lk_cons, lk_nil, cS, take_map_n]; try rfl) (by simp [KpOX, renO, plO, cvO, renV, pl1, lk_cons, lk_nil, upd_app, cS, take_map_n]; try (first | rfl | (simp [cS, take_map_n, List.take_of_length_le]; done))) (by rfl) (by simp) (by simp) (by rfl) (by simp [formsX, List.range_succ, lk_cons, lk_nil]), _, ?_, i + 1, b, out ++ [l[i]], rfl, ?_, rfl⟩
                            · omega
                            · refine ⟨by omega, ?_, by simp; omega⟩
                              rw [← ho]
                              first
                                | (rw [show (!b && !(Op.bytesLess l[i] x || l[i] == x)) = true from by simp_all]; simp; done)
                                | (rw [show (!b && !(Op.bytesLess l[i] x || l[i] == x)) = false from by cases hb : Op.bytesLess l[i] x <;> simp_all]; simp; done)
              · try simp [decB_true, decB_false, eqB_true, eqB_false] at hc1
                all_goals
                  refine AW_exit ?_
                  refine AW_id ?_
                  refine AW_seq ?_
                  refine AW_x rfl rfl fun K hK => ?_
                  simp (disch := omega) [wrap64, List.getElem?_eq_getElem, toNat_pred, cS, take_map_n]
                  repeat' first | (exfalso; omega) | (refine ⟨fun _ => ?_, fun _ => ?_⟩) | (refine ⟨by omega, ?_⟩) | (intro _)
                  all_goals (refine hK _ ?_; clear hK K)
                  all_goals
                    refine AW_cond rfl (fun hc3 => ?_) (fun hc3 => ?_)
                    · try simp [decB_true, decB_false, eqB_true, eqB_false] at hc3
                      all_goals
                        refine AW_xe rfl rfl fun K hK => ?_
                        simp (disch := omega) [wrap64, List.getElem?_eq_getElem, toNat_pred, cS, take_map_n]
                        repeat' first | (exfalso; omega) | (refine ⟨fun _ => ?_, fun _ => ?_⟩) | (refine ⟨by omega, ?_⟩) | (intro _)
                        all_goals (refine hK _ ?_; clear hK K)
                        all_goals
                          refine AW_id ?_
                          refine AW_x rfl rfl fun K hK => ?_
                          simp (disch := omega) [wrap64, List.getElem?_eq_getElem, toNat_pred, cS, take_map_n]
                          repeat' first | (exfalso; omega) | (refine ⟨fun _ => ?_, fun _ => ?_⟩) | (refine ⟨by omega, ?_⟩) | (intro _)
                          all_goals (refine hK _ ?_; clear hK K)
                          all_goals
                            refine AW_ret (end_x [720] [] (by simp [List.range_succ, lk_cons, lk_nil, upd_app]) (by simp) ?_)
                            simp (disch := omega) [wrap64, List.getElem?_eq_getElem, toNat_pred, cS, take_map_n]
                            all_goals (have e : i = l.length := (by omega); rw [e, List.drop_length] at ho; first | (rw [hc3] at ho; simp [ins] at ho; rw [← ho]; simp [cS, take_map_n, scR_app, scR_cons]; done) | (rw [hc3] at ho; simp [ins] at ho; rw [← ho]; exact ⟨rfl, rfl⟩) | trace_state)
                    · try simp [decB_true, decB_false, eqB_true, eqB_false] at hc3
                      all_goals
                        refine AW_skip ?_
                        refine AW_id ?_
                        refine AW_x rfl rfl fun K hK => ?_
                        simp (disch := omega) [wrap64, List.getElem?_eq_getElem, toNat_pred, cS, take_map_n]
                        repeat' first | (exfalso; omega) | (refine ⟨fun _ => ?_, fun _ => ?_⟩) | (refine ⟨by omega, ?_⟩) | (intro _)
                        all_goals (refine hK _ ?_; clear hK K)
                        all_goals
                          refine AW_ret (end_x [144] [] (by simp [List.range_succ, lk_cons, lk_nil, upd_app]) (by simp) ?_)
                          simp (disch := omega) [wrap64, List.getElem?_eq_getElem, toNat_pred, cS, take_map_n]
                          all_goals (have e : i = l.length := (by omega); rw [e, List.drop_length] at ho; first | (rw [hc3] at ho; simp [ins] at ho; rw [← ho]; simp [cS, take_map_n, scR_app, scR_cons]; done) | (rw [hc3] at ho; simp [ins] at ho; rw [← ho]; exact ⟨rfl, rfl⟩) | trace_state)
end Go.Proofs.Ytcedomdpbgjbpaa.Vs
