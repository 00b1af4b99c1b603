import Derived.Test.YtopeonnaalpmjaaSG1
open Go Go.Proofs Go.Proofs.Ytopeonnaalpmjaa.Vs
namespace Go.Proofs.Ytopeonnaalpmjaa.Vs
set_option linter.unusedVariables false
set_option linter.unusedSimpArgs false
set_option linter.unusedSectionVars false
set_option linter.unnecessarySimpa false
set_option linter.all false
set_option linter.unusedSimpArgs false
set_option linter.unusedVariables false
set_option maxRecDepth 100000
def isC (x : DtInst) : Bool := decide (x.fStatus = 3)
def commN (n : DtENode) : List DtInst := n.fInsts.filter isC
def commL (l : List DtENode) : List DtInst := (l.map commN).flatten
theorem commL_take (l : List DtENode) (i : Nat) (h : i < l.length) : commL (l.take (i + 1)) = commL (l.take i) ++ commN l[i] := by
  induction l generalizing i with
  | nil => simp at h
  | cons x xs ih =>
    cases i with
    | zero => simp [commL]
    | succ i =>
      have := ih i (by simpa using h)
      simp only [commL, List.take_succ_cons, List.map_cons, List.flatten_cons, List.getElem_cons_succ, List.append_assoc] at this ⊢
      rw [this]
theorem filter_take {α : Type} (p : α → Bool) (l : List α) (k : Nat) (h : k < l.length) : (l.take (k + 1)).filter p = (l.take k).filter p ++ (if p l[k] then [l[k]] else []) := by
  induction l generalizing k with
  | nil => simp at h
  | cons x xs ih =>
    cases k with
    | zero => simp [List.filter_cons]
    | succ k =>
      have := ih k (by simpa using h)
      simp only [List.take_succ_cons, List.filter_cons, List.getElem_cons_succ]
      rw [this]
      split <;> simp
theorem commL_len : ∀ l : List DtENode, ((commL l).length : Int) ≤ sumZ DtENode.sz l
  | [] => by simp [commL, sumZ_nil]
  | n :: l => by
    have h1 := commL_len l
    have h2 : (commN n).length ≤ n.fInsts.length := List.length_filter_le _ _
    have h3 := sumZ_nonneg DtInst.sz_nonneg n.fInsts
    have h4 := sumZ_nonneg DtLead.sz_nonneg n.fLeads
    simp only [sumZ_cons, commL, List.map_cons, List.flatten_cons, List.length_append, DtENode.sz, szS] at h1 ⊢
    omega
theorem accBd (x : DtENet) (hs : DtENet.sz x ≤ 1048576) : (∀ i, (commL (x.fNodes.take i)).length ≤ 1048576) ∧ ∀ i (h : i < x.fNodes.length) k, (commL (x.fNodes.take i)).length + ((x.fNodes[i].fInsts.take k).filter isC).length ≤ 1048576 := by
  have h1 := sumZ_nonneg DtEMsg.sz_nonneg x.fPool
  simp only [DtENet.sz, szS] at hs
  refine ⟨fun i => ?_, fun i h k => ?_⟩
  · have h2 := commL_len (x.fNodes.take i)
    have h3 := sumZ_take_le DtENode.sz_nonneg x.fNodes i
    omega
  · have h2 := commL_len (x.fNodes.take i)
    have h3 := sumZ_take_le DtENode.sz_nonneg x.fNodes (i + 1)
    have h4 := sumZ_take (f := DtENode.sz) x.fNodes i h
    have h5 : ((x.fNodes[i].fInsts.take k).filter isC).length ≤ (x.fNodes[i].fInsts.take k).length := List.length_filter_le _ _
    have h6 : (x.fNodes[i].fInsts.take k).length ≤ x.fNodes[i].fInsts.length := by simp; omega
    have h7 := sumZ_nonneg DtInst.sz_nonneg x.fNodes[i].fInsts
    have h8 := sumZ_nonneg DtLead.sz_nonneg x.fNodes[i].fLeads
    have h9 : (x.fNodes[i].fInsts.length : Int) ≤ DtENode.sz x.fNodes[i] := by simp only [DtENode.sz, szS]; omega
    omega
theorem netSz2 (x : DtENet) (hs : DtENet.sz x ≤ 1048576) : ∀ i (h : i < x.fNodes.length), x.fNodes[i].fInsts.length ≤ 1048576 := by
  intro i h
  have h2 := (netSz x hs).2.2.1 i h
  exact (nodeSz _ h2).2.1
theorem committed (x : DtENet) (hs : DtENet.sz x ≤ 1048576) : PCall Try.prog 51 [.agg (DtENet.cells x)] (.sl 16 ((commL x.fNodes).map DtInst.cells)) := by
  have hl := (netSz x hs).1
  have hl2 := netSz2 x hs
  have ⟨ha1, ha2⟩ := accBd x hs
  refine gcall_of_walk Try.func51 (by rfl) (by rfl) (by rw [Try.ntmps51]; exact Nat.le_of_ble_eq_true rfl) rfl (by decide) ?_
  rw [Try.ntmps51]
  refine AW_k [(0, _)] ⟨rfl, trivial⟩ ?_
  refine AW_r rfl rfl fun K hK => ?_
  simp (disch := omega) [wrap64, List.getElem?_eq_getElem, toNat_pred, DtENet.cells, DtENode.cells, DtInst.cells, DtCmd.cells, DtId.cells, aNews, aAppend, aBuildSlice, chunks, tkm, tkm1]
  repeat' first | (exfalso; omega) | (refine ⟨fun _ => ?_, fun _ => ?_⟩) | (refine ⟨by omega, ?_⟩) | (intro _)
  all_goals (refine hK _ ?_; clear hK K)
  all_goals
    refine AW_r rfl rfl fun K hK => ?_
    simp (disch := omega) [wrap64, List.getElem?_eq_getElem, toNat_pred, DtENet.cells, DtENode.cells, DtInst.cells, DtCmd.cells, DtId.cells, aNews, aAppend, aBuildSlice, chunks, tkm, tkm1]
    repeat' first | (exfalso; omega) | (refine ⟨fun _ => ?_, fun _ => ?_⟩) | (refine ⟨by omega, ?_⟩) | (intro _)
    all_goals (refine hK _ ?_; clear hK K)
    all_goals
      refine AW_seq ?_
      refine AW_r rfl rfl fun K hK => ?_
      simp (disch := omega) [wrap64, List.getElem?_eq_getElem, toNat_pred, DtENet.cells, DtENode.cells, DtInst.cells, DtCmd.cells, DtId.cells, aNews, aAppend, aBuildSlice, chunks, tkm, tkm1]
      repeat' first | (exfalso; omega) | (refine ⟨fun _ => ?_, fun _ => ?_⟩) | (refine ⟨by omega, ?_⟩) | (intro _)
      all_goals (refine hK _ ?_; clear hK K)
      all_goals
        refine AW_block ?_
        refine AW_loopS (fun mM sS => ∃ (i : Nat) (bcc : List DtInst), mM = x.fNodes.length - i ∧ (i ≤ x.fNodes.length ∧ bcc = commL (x.fNodes.take i)) ∧ sS = { env := lkE [(1, .ptr 32 0), (3, .arr 144 0 bcc.length), (10, .sl 4 (x.fNodes.map DtENode.cells)), (11, (.g (.int .i64 ((x.fNodes.length : Nat))))), (12, (.g (.int .i64 ((i : Nat)))))], ob := lk [(32, .cells (DtENet.cells x)), (144, .flat 16 (bcc.map DtInst.cells))] }) ?_ ?_
        · refine ⟨_, LeS.kr [(32, 32), (144, 144)] [(1, .ptr 32 0), (3, .arr 144 0 ([]).length), (10, .sl 4 (x.fNodes.map DtENode.cells)), (11, (.g (.int .i64 ((x.fNodes.length : Nat))))), (12, (.g (.int .i64 (((0) : Nat)))))] [(32, .cells (DtENet.cells x)), (144, .flat 16 (([]).map DtInst.cells))] (by simp [KpR, renV2, renV, upd_app, lkE_app, lk_cons, lk_nil, DtENet.cells]; try rfl) (by simp [KpOR, renO, renV, upd_app, lk_cons, lk_nil, formOb_nn, DtENet.cells]; try rfl) (by rfl) (by rfl) (by simp) (by simp) (by rfl) (by simp [forms]), _, 0, [], rfl, ?_, rfl⟩
          · simp [commL]
        · rintro mM sS ⟨i, bcc, rfl, ⟨hi, hbcc⟩, rfl⟩
          refine AW_r rfl rfl fun K hK => ?_
          simp (disch := omega) [wrap64, List.getElem?_eq_getElem, toNat_pred, DtENet.cells, DtENode.cells, DtInst.cells, DtCmd.cells, DtId.cells, aNews, aAppend, aBuildSlice, chunks, tkm, tkm1]
          repeat' first | (exfalso; omega) | (refine ⟨fun _ => ?_, fun _ => ?_⟩) | (refine ⟨by omega, ?_⟩) | (intro _)
          all_goals (refine hK _ ?_; clear hK K)
          all_goals
            refine AW_seq ?_
            refine AW_cond rfl (fun hc1 => ?_) (fun hc1 => ?_)
            · try simp [decB_true, decB_false, eqB_true, eqB_false, cmpI_lt, cmpI_ge] at hc1
              all_goals
                have hst := commL_take x.fNodes i (by omega)
                have hm1 := hl2 i (by omega)
                refine AW_skip ?_
                refine AW_id ?_
                refine AW_seq ?_
                refine AW_block ?_
                refine AW_r rfl rfl fun K hK => ?_
                simp (disch := omega) [wrap64, List.getElem?_eq_getElem, toNat_pred, DtENet.cells, DtENode.cells, DtInst.cells, DtCmd.cells, DtId.cells, aNews, aAppend, aBuildSlice, chunks, tkm, tkm1]
                repeat' first | (exfalso; omega) | (refine ⟨fun _ => ?_, fun _ => ?_⟩) | (refine ⟨by omega, ?_⟩) | (intro _)
                all_goals (refine hK _ ?_; clear hK K)
                all_goals
                  refine AW_r rfl rfl fun K hK => ?_
                  simp (disch := omega) [wrap64, List.getElem?_eq_getElem, toNat_pred, DtENet.cells, DtENode.cells, DtInst.cells, DtCmd.cells, DtId.cells, aNews, aAppend, aBuildSlice, chunks, tkm, tkm1]
                  repeat' first | (exfalso; omega) | (refine ⟨fun _ => ?_, fun _ => ?_⟩) | (refine ⟨by omega, ?_⟩) | (intro _)
                  all_goals (refine hK _ ?_; clear hK K)
                  all_goals
                    refine AW_block ?_
                    refine AW_loopS (fun mM sS => ∃ (k : Nat) (acc : List DtInst), mM = (x.fNodes[i]).fInsts.length - k ∧ (k ≤ (x.fNodes[i]).fInsts.length ∧ acc = commL (x.fNodes.take i) ++ ((x.fNodes[i]).fInsts.take k).filter isC) ∧ sS = { env := lkE [(1, .ptr 32 0), (3, .arr 144 0 acc.length), (10, .sl 4 (x.fNodes.map DtENode.cells)), (11, (.g (.int .i64 ((x.fNodes.length : Nat))))), (12, (.g (.int .i64 ((i : Nat))))), (17, .sl 16 ((x.fNodes[i]).fInsts.map DtInst.cells)), (18, (.g (.int .i64 (((x.fNodes[i]).fInsts.length : Nat))))), (19, (.g (.int .i64 ((k : Nat)))))], ob := lk [(32, .cells (DtENet.cells x)), (144, .flat 16 (acc.map DtInst.cells))] }) ?_ ?_
                    · refine ⟨_, LeS.kr [(32, 32), (144, 144)] [(1, .ptr 32 0), (3, .arr 144 0 (bcc).length), (10, .sl 4 (x.fNodes.map DtENode.cells)), (11, (.g (.int .i64 ((x.fNodes.length : Nat))))), (12, (.g (.int .i64 ((i : Nat))))), (17, .sl 16 ((x.fNodes[i]).fInsts.map DtInst.cells)), (18, (.g (.int .i64 (((x.fNodes[i]).fInsts.length : Nat))))), (19, (.g (.int .i64 (((0) : Nat)))))] [(32, .cells (DtENet.cells x)), (144, .flat 16 ((bcc).map DtInst.cells))] (by simp [KpR, renV2, renV, upd_app, lkE_app, lk_cons, lk_nil, DtENet.cells, DtInst.cells]; try rfl) (by simp [KpOR, renO, renV, upd_app, lk_cons, lk_nil, formOb_nn, DtENet.cells, DtInst.cells]; try rfl) (by rfl) (by rfl) (by simp) (by simp) (by rfl) (by simp [forms]), _, 0, bcc, rfl, ?_, rfl⟩
                      · exact ⟨by omega, by simp [hbcc]⟩
                    · rintro mM sS ⟨k, acc, rfl, ⟨hk, hacc⟩, rfl⟩
                      have hb2 : acc.length ≤ 1048576 := by rw [hacc, List.length_append]; exact ha2 i (by omega) k
                      refine AW_r rfl rfl fun K hK => ?_
                      simp (disch := omega) [wrap64, List.getElem?_eq_getElem, toNat_pred, DtENet.cells, DtENode.cells, DtInst.cells, DtCmd.cells, DtId.cells, aNews, aAppend, aBuildSlice, chunks, tkm, tkm1]
                      repeat' first | (exfalso; omega) | (refine ⟨fun _ => ?_, fun _ => ?_⟩) | (refine ⟨by omega, ?_⟩) | (intro _)
                      all_goals (refine hK _ ?_; clear hK K)
                      all_goals
                        refine AW_seq ?_
                        refine AW_cond rfl (fun hc2 => ?_) (fun hc2 => ?_)
                        · try simp [decB_true, decB_false, eqB_true, eqB_false, cmpI_lt, cmpI_ge] at hc2
                          all_goals
                            have hft := filter_take isC (x.fNodes[i]).fInsts k (by omega)
                            refine AW_skip ?_
                            refine AW_id ?_
                            refine AW_seq ?_
                            refine AW_block ?_
                            refine AW_r rfl rfl fun K hK => ?_
                            simp (disch := omega) [wrap64, List.getElem?_eq_getElem, toNat_pred, DtENet.cells, DtENode.cells, DtInst.cells, DtCmd.cells, DtId.cells, aNews, aAppend, aBuildSlice, chunks, tkm, tkm1]
                            repeat' first | (exfalso; omega) | (refine ⟨fun _ => ?_, fun _ => ?_⟩) | (refine ⟨by omega, ?_⟩) | (intro _)
                            all_goals (refine hK _ ?_; clear hK K)
                            all_goals
                              refine AW_r rfl rfl fun K hK => ?_
                              simp (disch := omega) [wrap64, List.getElem?_eq_getElem, toNat_pred, DtENet.cells, DtENode.cells, DtInst.cells, DtCmd.cells, DtId.cells, aNews, aAppend, aBuildSlice, chunks, tkm, tkm1]
                              repeat' first | (exfalso; omega) | (refine ⟨fun _ => ?_, fun _ => ?_⟩) | (refine ⟨by omega, ?_⟩) | (intro _)
                              all_goals (refine hK _ ?_; clear hK K)
                              all_goals
                                refine AW_cond rfl (fun hc3 => ?_) (fun hc3 => ?_)
                                · try simp [decB_true, decB_false, eqB_true, eqB_false, cmpI_lt, cmpI_ge] at hc3
                                  all_goals
                                    refine AW_re rfl rfl fun K hK => ?_
                                    simp (disch := omega) [wrap64, List.getElem?_eq_getElem, toNat_pred, DtENet.cells, DtENode.cells, DtInst.cells, DtCmd.cells, DtId.cells, aNews, aAppend, aBuildSlice, chunks, tkm, tkm1]
                                    repeat' first | (exfalso; omega) | (refine ⟨fun _ => ?_, fun _ => ?_⟩) | (refine ⟨by omega, ?_⟩) | (intro _)
                                    all_goals (refine hK _ ?_; clear hK K)
                                    all_goals
                                      refine AW_id ?_
                                      refine AW_re rfl rfl fun K hK => ?_
                                      simp (disch := omega) [wrap64, List.getElem?_eq_getElem, toNat_pred, DtENet.cells, DtENode.cells, DtInst.cells, DtCmd.cells, DtId.cells, aNews, aAppend, aBuildSlice, chunks, tkm, tkm1]
                                      repeat' first | (exfalso; omega) | (refine ⟨fun _ => ?_, fun _ => ?_⟩) | (refine ⟨by omega, ?_⟩) | (intro _)
                                      all_goals (refine hK _ ?_; clear hK K)
                                      all_goals
                                        refine ⟨_, LeS.kr [(32, 32), (144, 480)] [(1, .ptr 32 0), (3, .arr 144 0 (acc ++ [(x.fNodes[i]).fInsts[k]]).length), (10, .sl 4 (x.fNodes.map DtENode.cells)), (11, (.g (.int .i64 ((x.fNodes.length : Nat))))), (12, (.g (.int .i64 ((i : Nat))))), (17, .sl 16 ((x.fNodes[i]).fInsts.map DtInst.cells)), (18, (.g (.int .i64 (((x.fNodes[i]).fInsts.length : Nat))))), (19, (.g (.int .i64 (((k + 1) : Nat)))))] [(32, .cells (DtENet.cells x)), (144, .flat 16 ((acc ++ [(x.fNodes[i]).fInsts[k]]).map DtInst.cells))] (by simp [KpR, renV2, renV, upd_app, lkE_app, lk_cons, lk_nil, DtENet.cells, DtInst.cells]; try rfl) (by simp [KpOR, renO, renV, upd_app, lk_cons, lk_nil, formOb_nn, DtENet.cells, DtInst.cells]; try rfl) (by rfl) (by rfl) (by simp) (by simp) (by rfl) (by simp [forms]), _, ?_, k + 1, acc ++ [(x.fNodes[i]).fInsts[k]], rfl, ?_, rfl⟩
                                        · omega
                                        · exact ⟨by omega, by simp_all [isC]⟩
                                · try simp [decB_true, decB_false, eqB_true, eqB_false, cmpI_lt, cmpI_ge] at hc3
                                  all_goals
                                    refine AW_skip ?_
                                    refine AW_id ?_
                                    refine AW_re rfl rfl fun K hK => ?_
                                    simp (disch := omega) [wrap64, List.getElem?_eq_getElem, toNat_pred, DtENet.cells, DtENode.cells, DtInst.cells, DtCmd.cells, DtId.cells, aNews, aAppend, aBuildSlice, chunks, tkm, tkm1]
                                    repeat' first | (exfalso; omega) | (refine ⟨fun _ => ?_, fun _ => ?_⟩) | (refine ⟨by omega, ?_⟩) | (intro _)
                                    all_goals (refine hK _ ?_; clear hK K)
                                    all_goals
                                      refine ⟨_, LeS.kr [(32, 32), (144, 144)] [(1, .ptr 32 0), (3, .arr 144 0 (acc).length), (10, .sl 4 (x.fNodes.map DtENode.cells)), (11, (.g (.int .i64 ((x.fNodes.length : Nat))))), (12, (.g (.int .i64 ((i : Nat))))), (17, .sl 16 ((x.fNodes[i]).fInsts.map DtInst.cells)), (18, (.g (.int .i64 (((x.fNodes[i]).fInsts.length : Nat))))), (19, (.g (.int .i64 (((k + 1) : Nat)))))] [(32, .cells (DtENet.cells x)), (144, .flat 16 ((acc).map DtInst.cells))] (by simp [KpR, renV2, renV, upd_app, lkE_app, lk_cons, lk_nil, DtENet.cells, DtInst.cells]; try rfl) (by simp [KpOR, renO, renV, upd_app, lk_cons, lk_nil, formOb_nn, DtENet.cells, DtInst.cells]; try rfl) (by rfl) (by rfl) (by simp) (by simp) (by rfl) (by simp [forms]), _, ?_, k + 1, acc, rfl, ?_, rfl⟩
                                      · omega
                                      · exact ⟨by omega, by simp_all [isC]⟩
                        · try simp [decB_true, decB_false, eqB_true, eqB_false, cmpI_lt, cmpI_ge] at hc2
                          all_goals
                            have hk2 : k = (x.fNodes[i]).fInsts.length := by omega
                            subst hk2
                            have hfull : acc = commL (x.fNodes.take i) ++ commN x.fNodes[i] := by rw [hacc, List.take_length]; rfl
                            refine AW_exit ?_
                            refine AW_id ?_
                            refine AW_re rfl rfl fun K hK => ?_
                            simp (disch := omega) [wrap64, List.getElem?_eq_getElem, toNat_pred, DtENet.cells, DtENode.cells, DtInst.cells, DtCmd.cells, DtId.cells, aNews, aAppend, aBuildSlice, chunks, tkm, tkm1]
                            repeat' first | (exfalso; omega) | (refine ⟨fun _ => ?_, fun _ => ?_⟩) | (refine ⟨by omega, ?_⟩) | (intro _)
                            all_goals (refine hK _ ?_; clear hK K)
                            all_goals
                              refine ⟨_, LeS.kr [(32, 32), (144, 144)] [(1, .ptr 32 0), (3, .arr 144 0 (acc).length), (10, .sl 4 (x.fNodes.map DtENode.cells)), (11, (.g (.int .i64 ((x.fNodes.length : Nat))))), (12, (.g (.int .i64 (((i + 1) : Nat)))))] [(32, .cells (DtENet.cells x)), (144, .flat 16 ((acc).map DtInst.cells))] (by simp [KpR, renV2, renV, upd_app, lkE_app, lk_cons, lk_nil, DtENet.cells]; try rfl) (by simp [KpOR, renO, renV, upd_app, lk_cons, lk_nil, formOb_nn, DtENet.cells]; try rfl) (by rfl) (by rfl) (by simp) (by simp) (by rfl) (by simp [forms]), _, ?_, i + 1, acc, rfl, ?_, rfl⟩
                              · omega
                              · refine ⟨by omega, ?_⟩
                                rw [hst, hfull]
            · try simp [decB_true, decB_false, eqB_true, eqB_false, cmpI_lt, cmpI_ge] at hc1
              all_goals
                have hi2 : i = x.fNodes.length := by omega
                subst hi2
                rw [List.take_length] at hbcc
                subst hbcc
                refine AW_exit ?_
                refine AW_id ?_
                refine AW_r rfl rfl fun K hK => ?_
                simp (disch := omega) [wrap64, List.getElem?_eq_getElem, toNat_pred, DtENet.cells, DtENode.cells, DtInst.cells, DtCmd.cells, DtId.cells, aNews, aAppend, aBuildSlice, chunks, tkm, tkm1]
                repeat' first | (exfalso; omega) | (refine ⟨fun _ => ?_, fun _ => ?_⟩) | (refine ⟨by omega, ?_⟩) | (intro _)
                all_goals (refine hK _ ?_; clear hK K)
                all_goals
                  refine AW_ret (end_s ?_)
                  simp (disch := omega) [wrap64, List.getElem?_eq_getElem, toNat_pred, DtENet.cells, DtENode.cells, DtInst.cells, DtCmd.cells, DtId.cells, aNews, aAppend, aBuildSlice, chunks, tkm, tkm1]
                  all_goals first | omega | (simp_all; done) | (simp [List.take_of_length_le]; done) | ((try simp_all); (try simp (disch := omega) only [wrap64, Int.tdiv_eq_ediv_of_nonneg, Int.tmod_eq_emod_of_nonneg, and_true, true_and]); done) | ((try simp_all); (try simp (disch := omega) only [wrap64, Int.tdiv_eq_ediv_of_nonneg, Int.tmod_eq_emod_of_nonneg, and_true, true_and] at *); omega)
end Go.Proofs.Ytopeonnaalpmjaa.Vs
