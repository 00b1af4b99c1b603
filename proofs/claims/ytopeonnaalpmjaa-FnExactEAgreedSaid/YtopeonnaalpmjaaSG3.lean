import Derived.Test.YtopeonnaalpmjaaSG2
open Go Go.Proofs Go.Proofs.Ytopeonnaalpmjaa.Vs
namespace Go.Proofs.Ytopeonnaalpmjaa.Vs
set_option linter.unusedVariables false
set_option linter.unusedSimpArgs false
set_option linter.unusedSectionVars false
set_option linter.unnecessarySimpa false
set_option linter.all false
set_option linter.unusedSimpArgs false
set_option linter.unusedVariables false
set_option maxRecDepth 100000
theorem l14All (x : DtENet) (hs : DtENet.sz x ≤ 1048576) : PCall Try.prog 54 [.agg (DtENet.cells x)] (.sl 16 ((commL x.fNodes).map DtInst.cells)) := by
  have hl := (netSz x hs).1
  have hl2 := netSz2 x hs
  have ⟨ha1, ha2⟩ := accBd x hs
  refine gcall_of_walk Try.func54 (by rfl) (by rfl) (by rw [Try.ntmps54]; exact Nat.le_of_ble_eq_true rfl) rfl (by decide) ?_
  rw [Try.ntmps54]
  refine AW_k [(0, _)] ⟨rfl, trivial⟩ ?_
  refine AW_r rfl rfl fun K hK => ?_
  simp (disch := omega) [wrap64, List.getElem?_eq_getElem, toNat_pred, DtENet.cells, DtENode.cells, DtInst.cells, DtCmd.cells, DtId.cells, aNews, aAppend, aBuildSlice, chunks, tkm, tkm1]
  repeat' first | (exfalso; omega) | (refine ⟨fun _ => ?_, fun _ => ?_⟩) | (refine ⟨by omega, ?_⟩) | (intro _)
  all_goals (refine hK _ ?_; clear hK K)
  all_goals
    refine AW_r rfl rfl fun K hK => ?_
    simp (disch := omega) [wrap64, List.getElem?_eq_getElem, toNat_pred, DtENet.cells, DtENode.cells, DtInst.cells, DtCmd.cells, DtId.cells, aNews, aAppend, aBuildSlice, chunks, tkm, tkm1]
    repeat' first | (exfalso; omega) | (refine ⟨fun _ => ?_, fun _ => ?_⟩) | (refine ⟨by omega, ?_⟩) | (intro _)
    all_goals (refine hK _ ?_; clear hK K)
    all_goals
      refine AW_seq ?_
      refine AW_r rfl rfl fun K hK => ?_
      simp (disch := omega) [wrap64, List.getElem?_eq_getElem, toNat_pred, DtENet.cells, DtENode.cells, DtInst.cells, DtCmd.cells, DtId.cells, aNews, aAppend, aBuildSlice, chunks, tkm, tkm1]
      repeat' first | (exfalso; omega) | (refine ⟨fun _ => ?_, fun _ => ?_⟩) | (refine ⟨by omega, ?_⟩) | (intro _)
      all_goals (refine hK _ ?_; clear hK K)
      all_goals
        refine AW_block ?_
        refine AW_loopS (fun mM sS => ∃ (i : Nat) (bcc : List DtInst), mM = x.fNodes.length - i ∧ (i ≤ x.fNodes.length ∧ bcc = commL (x.fNodes.take i)) ∧ sS = { env := lkE [(1, .ptr 32 0), (3, .arr 112 0 bcc.length), (4, (.g (.int .i64 ((i : Nat)))))], ob := lk [(32, .cells (DtENet.cells x)), (112, .flat 16 (bcc.map DtInst.cells))] }) ?_ ?_
        · refine ⟨_, LeS.kr [(32, 32), (112, 112)] [(1, .ptr 32 0), (3, .arr 112 0 ([]).length), (4, (.g (.int .i64 (((0) : Nat)))))] [(32, .cells (DtENet.cells x)), (112, .flat 16 (([]).map DtInst.cells))] (by simp [KpR, renV2, renV, upd_app, lkE_app, lk_cons, lk_nil, DtENet.cells]; try rfl) (by simp [KpOR, renO, renV, upd_app, lk_cons, lk_nil, formOb_nn, DtENet.cells]; try rfl) (by rfl) (by rfl) (by simp) (by simp) (by rfl) (by simp [forms]), _, 0, [], rfl, ?_, rfl⟩
          · simp [commL]
        · rintro mM sS ⟨i, bcc, rfl, ⟨hi, hbcc⟩, rfl⟩
          refine AW_seq ?_
          refine AW_r rfl rfl fun K hK => ?_
          simp (disch := omega) [wrap64, List.getElem?_eq_getElem, toNat_pred, DtENet.cells, DtENode.cells, DtInst.cells, DtCmd.cells, DtId.cells, aNews, aAppend, aBuildSlice, chunks, tkm, tkm1]
          repeat' first | (exfalso; omega) | (refine ⟨fun _ => ?_, fun _ => ?_⟩) | (refine ⟨by omega, ?_⟩) | (intro _)
          all_goals (refine hK _ ?_; clear hK K)
          all_goals
            refine AW_cond rfl (fun hc1 => ?_) (fun hc1 => ?_)
            · try simp [decB_true, decB_false, eqB_true, eqB_false, cmpI_lt, cmpI_ge] at hc1
              all_goals
                have hst := commL_take x.fNodes i (by omega)
                have hm1 := hl2 i (by omega)
                refine AW_skip ?_
                refine AW_id ?_
                refine AW_seq ?_
                refine AW_block ?_
                refine AW_r rfl rfl fun K hK => ?_
                simp (disch := omega) [wrap64, List.getElem?_eq_getElem, toNat_pred, DtENet.cells, DtENode.cells, DtInst.cells, DtCmd.cells, DtId.cells, aNews, aAppend, aBuildSlice, chunks, tkm, tkm1]
                repeat' first | (exfalso; omega) | (refine ⟨fun _ => ?_, fun _ => ?_⟩) | (refine ⟨by omega, ?_⟩) | (intro _)
                all_goals (refine hK _ ?_; clear hK K)
                all_goals
                  refine AW_block ?_
                  refine AW_loopS (fun mM sS => ∃ (k : Nat) (acc : List DtInst), mM = (x.fNodes[i]).fInsts.length - k ∧ (k ≤ (x.fNodes[i]).fInsts.length ∧ acc = commL (x.fNodes.take i) ++ ((x.fNodes[i]).fInsts.take k).filter isC) ∧ sS = { env := lkE [(1, .ptr 32 0), (3, .arr 112 0 acc.length), (4, (.g (.int .i64 ((i : Nat))))), (5, (.g (.int .i64 ((k : Nat)))))], ob := lk [(32, .cells (DtENet.cells x)), (112, .flat 16 (acc.map DtInst.cells))] }) ?_ ?_
                  · refine ⟨_, LeS.kr [(32, 32), (112, 112)] [(1, .ptr 32 0), (3, .arr 112 0 (bcc).length), (4, (.g (.int .i64 ((i : Nat))))), (5, (.g (.int .i64 (((0) : Nat)))))] [(32, .cells (DtENet.cells x)), (112, .flat 16 ((bcc).map DtInst.cells))] (by simp [KpR, renV2, renV, upd_app, lkE_app, lk_cons, lk_nil, DtENet.cells, DtInst.cells]; try rfl) (by simp [KpOR, renO, renV, upd_app, lk_cons, lk_nil, formOb_nn, DtENet.cells, DtInst.cells]; try rfl) (by rfl) (by rfl) (by simp) (by simp) (by rfl) (by simp [forms]), _, 0, bcc, rfl, ?_, rfl⟩
                    · exact ⟨by omega, by simp [hbcc]⟩
                  · rintro mM sS ⟨k, acc, rfl, ⟨hk, hacc⟩, rfl⟩
                    have hb2 : acc.length ≤ 1048576 := by rw [hacc, List.length_append]; exact ha2 i (by omega) k
                    refine AW_seq ?_
                    refine AW_r rfl rfl fun K hK => ?_
                    simp (disch := omega) [wrap64, List.getElem?_eq_getElem, toNat_pred, DtENet.cells, DtENode.cells, DtInst.cells, DtCmd.cells, DtId.cells, aNews, aAppend, aBuildSlice, chunks, tkm, tkm1]
                    repeat' first | (exfalso; omega) | (refine ⟨fun _ => ?_, fun _ => ?_⟩) | (refine ⟨by omega, ?_⟩) | (intro _)
                    all_goals (refine hK _ ?_; clear hK K)
                    all_goals
                      refine AW_cond rfl (fun hc2 => ?_) (fun hc2 => ?_)
                      · try simp [decB_true, decB_false, eqB_true, eqB_false, cmpI_lt, cmpI_ge] at hc2
                        all_goals
                          have hft := filter_take isC (x.fNodes[i]).fInsts k (by omega)
                          refine AW_skip ?_
                          refine AW_id ?_
                          refine AW_seq ?_
                          refine AW_block ?_
                          refine AW_r rfl rfl fun K hK => ?_
                          simp (disch := omega) [wrap64, List.getElem?_eq_getElem, toNat_pred, DtENet.cells, DtENode.cells, DtInst.cells, DtCmd.cells, DtId.cells, aNews, aAppend, aBuildSlice, chunks, tkm, tkm1]
                          repeat' first | (exfalso; omega) | (refine ⟨fun _ => ?_, fun _ => ?_⟩) | (refine ⟨by omega, ?_⟩) | (intro _)
                          all_goals (refine hK _ ?_; clear hK K)
                          all_goals
                            refine AW_cond rfl (fun hc3 => ?_) (fun hc3 => ?_)
                            · try simp [decB_true, decB_false, eqB_true, eqB_false, cmpI_lt, cmpI_ge] at hc3
                              all_goals
                                refine AW_re rfl rfl fun K hK => ?_
                                simp (disch := omega) [wrap64, List.getElem?_eq_getElem, toNat_pred, DtENet.cells, DtENode.cells, DtInst.cells, DtCmd.cells, DtId.cells, aNews, aAppend, aBuildSlice, chunks, tkm, tkm1]
                                repeat' first | (exfalso; omega) | (refine ⟨fun _ => ?_, fun _ => ?_⟩) | (refine ⟨by omega, ?_⟩) | (intro _)
                                all_goals (refine hK _ ?_; clear hK K)
                                all_goals
                                  refine AW_id ?_
                                  refine AW_re rfl rfl fun K hK => ?_
                                  simp (disch := omega) [wrap64, List.getElem?_eq_getElem, toNat_pred, DtENet.cells, DtENode.cells, DtInst.cells, DtCmd.cells, DtId.cells, aNews, aAppend, aBuildSlice, chunks, tkm, tkm1]
                                  repeat' first | (exfalso; omega) | (refine ⟨fun _ => ?_, fun _ => ?_⟩) | (refine ⟨by omega, ?_⟩) | (intro _)
                                  all_goals (refine hK _ ?_; clear hK K)
                                  all_goals
                                    refine ⟨_, LeS.kr [(32, 32), (112, 768)] [(1, .ptr 32 0), (3, .arr 112 0 (acc ++ [(x.fNodes[i]).fInsts[k]]).length), (4, (.g (.int .i64 ((i : Nat))))), (5, (.g (.int .i64 (((k + 1) : Nat)))))] [(32, .cells (DtENet.cells x)), (112, .flat 16 ((acc ++ [(x.fNodes[i]).fInsts[k]]).map DtInst.cells))] (by simp [KpR, renV2, renV, upd_app, lkE_app, lk_cons, lk_nil, DtENet.cells, DtInst.cells]; try rfl) (by simp [KpOR, renO, renV, upd_app, lk_cons, lk_nil, formOb_nn, DtENet.cells, DtInst.cells]; try rfl) (by rfl) (by rfl) (by simp) (by simp) (by rfl) (by simp [forms]), _, ?_, k + 1, acc ++ [(x.fNodes[i]).fInsts[k]], rfl, ?_, rfl⟩
                                    · omega
                                    · exact ⟨by omega, by simp_all [isC]⟩
                            · try simp [decB_true, decB_false, eqB_true, eqB_false, cmpI_lt, cmpI_ge] at hc3
                              all_goals
                                refine AW_skip ?_
                                refine AW_id ?_
                                refine AW_re rfl rfl fun K hK => ?_
                                simp (disch := omega) [wrap64, List.getElem?_eq_getElem, toNat_pred, DtENet.cells, DtENode.cells, DtInst.cells, DtCmd.cells, DtId.cells, aNews, aAppend, aBuildSlice, chunks, tkm, tkm1]
                                repeat' first | (exfalso; omega) | (refine ⟨fun _ => ?_, fun _ => ?_⟩) | (refine ⟨by omega, ?_⟩) | (intro _)
                                all_goals (refine hK _ ?_; clear hK K)
                                all_goals
                                  refine ⟨_, LeS.kr [(32, 32), (112, 112)] [(1, .ptr 32 0), (3, .arr 112 0 (acc).length), (4, (.g (.int .i64 ((i : Nat))))), (5, (.g (.int .i64 (((k + 1) : Nat)))))] [(32, .cells (DtENet.cells x)), (112, .flat 16 ((acc).map DtInst.cells))] (by simp [KpR, renV2, renV, upd_app, lkE_app, lk_cons, lk_nil, DtENet.cells, DtInst.cells]; try rfl) (by simp [KpOR, renO, renV, upd_app, lk_cons, lk_nil, formOb_nn, DtENet.cells, DtInst.cells]; try rfl) (by rfl) (by rfl) (by simp) (by simp) (by rfl) (by simp [forms]), _, ?_, k + 1, acc, rfl, ?_, rfl⟩
                                  · omega
                                  · exact ⟨by omega, by simp_all [isC]⟩
                      · try simp [decB_true, decB_false, eqB_true, eqB_false, cmpI_lt, cmpI_ge] at hc2
                        all_goals
                          have hk2 : k = (x.fNodes[i]).fInsts.length := by omega
                          subst hk2
                          have hfull : acc = commL (x.fNodes.take i) ++ commN x.fNodes[i] := by rw [hacc, List.take_length]; rfl
                          refine AW_exit ?_
                          refine AW_id ?_
                          refine AW_re rfl rfl fun K hK => ?_
                          simp (disch := omega) [wrap64, List.getElem?_eq_getElem, toNat_pred, DtENet.cells, DtENode.cells, DtInst.cells, DtCmd.cells, DtId.cells, aNews, aAppend, aBuildSlice, chunks, tkm, tkm1]
                          repeat' first | (exfalso; omega) | (refine ⟨fun _ => ?_, fun _ => ?_⟩) | (refine ⟨by omega, ?_⟩) | (intro _)
                          all_goals (refine hK _ ?_; clear hK K)
                          all_goals
                            refine ⟨_, LeS.kr [(32, 32), (112, 112)] [(1, .ptr 32 0), (3, .arr 112 0 (acc).length), (4, (.g (.int .i64 (((i + 1) : Nat)))))] [(32, .cells (DtENet.cells x)), (112, .flat 16 ((acc).map DtInst.cells))] (by simp [KpR, renV2, renV, upd_app, lkE_app, lk_cons, lk_nil, DtENet.cells]; try rfl) (by simp [KpOR, renO, renV, upd_app, lk_cons, lk_nil, formOb_nn, DtENet.cells]; try rfl) (by rfl) (by rfl) (by simp) (by simp) (by rfl) (by simp [forms]), _, ?_, i + 1, acc, rfl, ?_, rfl⟩
                            · omega
                            · refine ⟨by omega, ?_⟩
                              rw [hst, hfull]
            · try simp [decB_true, decB_false, eqB_true, eqB_false, cmpI_lt, cmpI_ge] at hc1
              all_goals
                have hi2 : i = x.fNodes.length := by omega
                subst hi2
                rw [List.take_length] at hbcc
                subst hbcc
                refine AW_exit ?_
                refine AW_id ?_
                refine AW_r rfl rfl fun K hK => ?_
                simp (disch := omega) [wrap64, List.getElem?_eq_getElem, toNat_pred, DtENet.cells, DtENode.cells, DtInst.cells, DtCmd.cells, DtId.cells, aNews, aAppend, aBuildSlice, chunks, tkm, tkm1]
                repeat' first | (exfalso; omega) | (refine ⟨fun _ => ?_, fun _ => ?_⟩) | (refine ⟨by omega, ?_⟩) | (intro _)
                all_goals (refine hK _ ?_; clear hK K)
                all_goals
                  refine AW_ret (end_s ?_)
                  simp (disch := omega) [wrap64, List.getElem?_eq_getElem, toNat_pred, DtENet.cells, DtENode.cells, DtInst.cells, DtCmd.cells, DtId.cells, aNews, aAppend, aBuildSlice, chunks, tkm, tkm1]
                  all_goals first | omega | (simp_all; done) | (simp [List.take_of_length_le]; done) | ((try simp_all); (try simp (disch := omega) only [wrap64, Int.tdiv_eq_ediv_of_nonneg, Int.tmod_eq_emod_of_nonneg, and_true, true_and]); done) | ((try simp_all); (try simp (disch := omega) only [wrap64, Int.tdiv_eq_ediv_of_nonneg, Int.tmod_eq_emod_of_nonneg, and_true, true_and] at *); omega)
def ClashP (a b : DtCmd) : Prop := CmdP a ∧ CmdP b ∧ a.fKind ≠ 0 ∧ b.fKind ≠ 0 ∧ (a.fKind = 7 ∨ b.fKind = 7 ∨ a.fSet = b.fSet)
theorem specClash (a b : DtCmd) (h1 : DtCmd.sz a ≤ 1048576) (h2 : DtCmd.sz b ≤ 1048576) : PCall Try.prog 55 [.agg (DtCmd.cells a), .agg (DtCmd.cells b)] (.g (.bool (decB (ClashP a b)))) := by
  refine gcall_of_walk Try.func55 (by rfl) (by rfl) (by rw [Try.ntmps55]; exact Nat.le_of_ble_eq_true rfl) rfl (by decide) ?_
  rw [Try.ntmps55]
  refine AW_k [(0, _), (1, _)] ⟨rfl, rfl, trivial⟩ ?_
  refine AW_r rfl rfl fun K hK => ?_
  simp (disch := omega) [wrap64, List.getElem?_eq_getElem, toNat_pred, DtCmd.cells, decB_true, decB_false]
  repeat' first | (exfalso; omega) | (refine ⟨fun _ => ?_, fun _ => ?_⟩) | (refine ⟨by omega, ?_⟩) | (intro _)
  all_goals (refine hK _ ?_; clear hK K)
  all_goals
    refine AW_seq ?_
    refine AW_r rfl rfl fun K hK => ?_
    simp (disch := omega) [wrap64, List.getElem?_eq_getElem, toNat_pred, DtCmd.cells, decB_true, decB_false]
    repeat' first | (exfalso; omega) | (refine CKd_v (am2s_cons (am2_agg rfl) am2s_nil) (specCmdOk _ (by assumption)) rfl ?_; simp (disch := omega) [wrap64, List.getElem?_eq_getElem, toNat_pred, DtCmd.cells, decB_true, decB_false]) | (refine ⟨fun _ => ?_, fun _ => ?_⟩) | (refine ⟨by omega, ?_⟩) | (intro _)
    all_goals (refine hK _ ?_; clear hK K)
    all_goals
      refine AW_cond rfl (fun hc4 => ?_) (fun hc4 => ?_)
      · try simp [decB_true, decB_false, eqB_true, eqB_false, cmpI_lt, cmpI_ge] at hc4
        all_goals
          refine AW_r rfl rfl fun K hK => ?_
          simp (disch := omega) [wrap64, List.getElem?_eq_getElem, toNat_pred, DtCmd.cells, decB_true, decB_false]
          repeat' first | (exfalso; omega) | (refine ⟨fun _ => ?_, fun _ => ?_⟩) | (refine ⟨by omega, ?_⟩) | (intro _)
          all_goals (refine hK _ ?_; clear hK K)
          all_goals
            refine AW_ret (end_s ?_)
            simp (disch := omega) [wrap64, List.getElem?_eq_getElem, toNat_pred, DtCmd.cells, decB_true, decB_false]
            all_goals first | grind [ClashP] | (refine decB_f fun h => ?_; grind [ClashP]) | (refine decB_t ?_; grind [ClashP]) | (rw [Bool.eq_iff_iff, decB_true]; simp; grind [ClashP])
      · try simp [decB_true, decB_false, eqB_true, eqB_false, cmpI_lt, cmpI_ge] at hc4
        all_goals
          refine AW_skip ?_
          refine AW_id ?_
          refine AW_r rfl rfl fun K hK => ?_
          simp (disch := omega) [wrap64, List.getElem?_eq_getElem, toNat_pred, DtCmd.cells, decB_true, decB_false]
          repeat' first | (exfalso; omega) | (refine ⟨fun _ => ?_, fun _ => ?_⟩) | (refine ⟨by omega, ?_⟩) | (intro _)
          all_goals (refine hK _ ?_; clear hK K)
          all_goals
            refine AW_ret (end_s ?_)
            simp (disch := omega) [wrap64, List.getElem?_eq_getElem, toNat_pred, DtCmd.cells, decB_true, decB_false]
            all_goals first | grind [ClashP] | (refine decB_f fun h => ?_; grind [ClashP]) | (refine decB_t ?_; grind [ClashP]) | (rw [Bool.eq_iff_iff, decB_true]; simp; grind [ClashP])
theorem implClash (a b : DtCmd) (h1 : DtCmd.sz a ≤ 1048576) (h2 : DtCmd.sz b ≤ 1048576) : PCall Try.prog 57 [.agg (DtCmd.cells a), .agg (DtCmd.cells b)] (.g (.bool (decB (ClashP a b)))) := by
  refine gcall_of_walk Try.func57 (by rfl) (by rfl) (by rw [Try.ntmps57]; exact Nat.le_of_ble_eq_true rfl) rfl (by decide) ?_
  rw [Try.ntmps57]
  refine AW_k [(0, _), (1, _)] ⟨rfl, rfl, trivial⟩ ?_
  refine AW_r rfl rfl fun K hK => ?_
  simp (disch := omega) [wrap64, List.getElem?_eq_getElem, toNat_pred, DtCmd.cells, decB_true, decB_false]
  repeat' first | (exfalso; omega) | (refine ⟨fun _ => ?_, fun _ => ?_⟩) | (refine ⟨by omega, ?_⟩) | (intro _)
  all_goals (refine hK _ ?_; clear hK K)
  all_goals
    refine AW_seq ?_
    refine AW_r rfl rfl fun K hK => ?_
    simp (disch := omega) [wrap64, List.getElem?_eq_getElem, toNat_pred, DtCmd.cells, decB_true, decB_false]
    repeat' first | (exfalso; omega) | (refine CKd_v (am2s_cons (am2_agg rfl) am2s_nil) (implCmdOk _ (by assumption)) rfl ?_; simp (disch := omega) [wrap64, List.getElem?_eq_getElem, toNat_pred, DtCmd.cells, decB_true, decB_false]) | (refine ⟨fun _ => ?_, fun _ => ?_⟩) | (refine ⟨by omega, ?_⟩) | (intro _)
    all_goals (refine hK _ ?_; clear hK K)
    all_goals
      refine AW_cond rfl (fun hc5 => ?_) (fun hc5 => ?_)
      · try simp [decB_true, decB_false, eqB_true, eqB_false, cmpI_lt, cmpI_ge] at hc5
        all_goals
          refine AW_r rfl rfl fun K hK => ?_
          simp (disch := omega) [wrap64, List.getElem?_eq_getElem, toNat_pred, DtCmd.cells, decB_true, decB_false]
          repeat' first | (exfalso; omega) | (refine ⟨fun _ => ?_, fun _ => ?_⟩) | (refine ⟨by omega, ?_⟩) | (intro _)
          all_goals (refine hK _ ?_; clear hK K)
          all_goals
            refine AW_ret (end_s ?_)
            simp (disch := omega) [wrap64, List.getElem?_eq_getElem, toNat_pred, DtCmd.cells, decB_true, decB_false]
            all_goals first | grind [ClashP] | (refine decB_f fun h => ?_; grind [ClashP]) | (refine decB_t ?_; grind [ClashP]) | (rw [Bool.eq_iff_iff, decB_true]; simp; grind [ClashP])
      · try simp [decB_true, decB_false, eqB_true, eqB_false, cmpI_lt, cmpI_ge] at hc5
        all_goals
          refine AW_skip ?_
          refine AW_id ?_
          refine AW_r rfl rfl fun K hK => ?_
          simp (disch := omega) [wrap64, List.getElem?_eq_getElem, toNat_pred, DtCmd.cells, decB_true, decB_false]
          repeat' first | (exfalso; omega) | (refine ⟨fun _ => ?_, fun _ => ?_⟩) | (refine ⟨by omega, ?_⟩) | (intro _)
          all_goals (refine hK _ ?_; clear hK K)
          all_goals
            refine AW_ret (end_s ?_)
            simp (disch := omega) [wrap64, List.getElem?_eq_getElem, toNat_pred, DtCmd.cells, decB_true, decB_false]
            all_goals first | grind [ClashP] | (refine decB_f fun h => ?_; grind [ClashP]) | (refine decB_t ?_; grind [ClashP]) | (rw [Bool.eq_iff_iff, decB_true]; simp; grind [ClashP])
/-! ### What the two laws say, in plain words -/
theorem insts_lt {l : List DtInst} (h : InstsP l) : ∀ (d i : Nat) x y, l[i]? = some x → l[i + d + 1]? = some y → idLt x.fId y.fId
  | 0, i, x, y, hx, hy => (h (i + 1) y hy).2 x (by omega) (by simpa using hx)
  | d + 1, i, x, y, hx, hy => by
    have hlt := (List.getElem?_eq_some_iff.1 hy).1
    have hz : l[i + d + 1]? = some l[i + d + 1] := List.getElem?_eq_getElem (by omega)
    have h1 := insts_lt h d i x _ hx hz
    have h2 := (h (i + (d + 1) + 1) y hy).2 l[i + d + 1] (by omega) (by rw [show i + (d + 1) + 1 - 1 = i + d + 1 by omega]; exact hz)
    unfold idLt at h1 h2 ⊢
    omega
theorem insts_inj {l : List DtInst} (h : InstsP l) {x y : DtInst} (hx : x ∈ l) (hy : y ∈ l) (he : x.fId = y.fId) : x = y := by
  obtain ⟨i, hi⟩ := List.getElem?_of_mem hx
  obtain ⟨j, hj⟩ := List.getElem?_of_mem hy
  rcases Nat.lt_trichotomy i j with hlt | rfl | hlt
  · have := insts_lt h (j - i - 1) i x y hi (by rw [show i + (j - i - 1) + 1 = j by omega]; exact hj)
    rw [he] at this; unfold idLt at this; omega
  · rw [hi] at hj; cases hj; rfl
  · have := insts_lt h (i - j - 1) j y x hj (by rw [show j + (i - j - 1) + 1 = i by omega]; exact hi)
    rw [he] at this; unfold idLt at this; omega
theorem instAt_mem {l : List DtInst} (h : InstsP l) {x : DtInst} (hx : x ∈ l) : instAt l x.fId = x := by
  unfold instAt
  cases hf : l.find? (fun y => eqB y.fId x.fId) with
  | none =>
    rw [List.find?_eq_none] at hf
    have := hf x hx
    simp [eqB_self] at this
  | some y =>
    have h1 := List.mem_of_find?_eq_some hf
    have h2 := List.find?_some hf
    rw [eqB_true] at h2
    exact (insts_inj h hx h1 h2.symm).symm
theorem instAt_or (l : List DtInst) (id : DtId) : (instAt l id ∈ l ∧ (instAt l id).fId = id) ∨ (instAt l id).fStatus = 0 := by
  unfold instAt
  cases hf : l.find? (fun y => eqB y.fId id) with
  | none => exact .inr rfl
  | some y =>
    have h2 := List.find?_some hf
    rw [eqB_true] at h2
    exact .inl ⟨List.mem_of_find?_eq_some hf, h2⟩
theorem mem_commL {l : List DtENode} {p : DtInst} : p ∈ commL l ↔ ∃ (a : Nat) (n : DtENode), l[a]? = some n ∧ p ∈ n.fInsts ∧ p.fStatus = 3 := by
  unfold commL commN isC
  simp only [List.mem_flatten, List.mem_map]
  constructor
  · rintro ⟨_, ⟨n, hn, rfl⟩, hp⟩
    obtain ⟨a, ha⟩ := List.getElem?_of_mem hn
    simp at hp
    exact ⟨a, n, ha, hp.1, hp.2⟩
  · rintro ⟨a, n, ha, hp, hs⟩
    exact ⟨_, ⟨n, List.mem_of_getElem? ha, rfl⟩, by simp [hp, hs]⟩
def SameI (p q : DtInst) : Prop := p.fCmd = q.fCmd ∧ p.fSeq = q.fSeq ∧ p.fDeps = q.fDeps
def AgreedP (x : DtENet) : Prop := NetP x ∧ ∀ p q, p ∈ commL x.fNodes → q ∈ commL x.fNodes → p.fId = q.fId → SameI p q
end Go.Proofs.Ytopeonnaalpmjaa.Vs
