import Derived.Test.YtopeonnaalpmjaaSN3
open Go Go.Proofs Go.Proofs.Ytopeonnaalpmjaa.Vs
namespace Go.Proofs.Ytopeonnaalpmjaa.Vs
set_option linter.unusedVariables false
set_option linter.unusedSimpArgs false
set_option linter.unusedSectionVars false
set_option linter.unnecessarySimpa false
set_option linter.all false
set_option linter.unusedSimpArgs false
set_option linter.unusedVariables false
set_option maxRecDepth 100000
theorem tkm {α β : Type} (l : List α) (f : α → β) : List.take l.length (l.map f) = l.map f := List.take_of_length_le (by simp)
theorem tkm1 {α β : Type} (l : List α) (f : α → β) (y : β) : List.take (l.length + 1) (l.map f ++ [y]) = l.map f ++ [y] := List.take_of_length_le (by simp)
theorem l4Copy (c : DtCmd) (hn : c.fChunks.length ≤ 1048576) : PCall Try.prog 104 [.agg (DtCmd.cells c)] (.agg (DtCmd.cells c)) := by
  refine gcall_of_walk Try.func104 (by rfl) (by rfl) (by rw [Try.ntmps104]; exact Nat.le_of_ble_eq_true rfl) rfl (by decide) ?_
  rw [Try.ntmps104]
  refine AW_k [(0, _)] ⟨rfl, trivial⟩ ?_
  refine AW_r rfl rfl fun K hK => ?_
  simp (disch := omega) [wrap64, List.getElem?_eq_getElem, toNat_pred, DtCmd.cells, aNews, aAppend, aBuildSlice, chunks, tkm]
  repeat' first | (exfalso; omega) | (refine ⟨fun _ => ?_, fun _ => ?_⟩) | (refine ⟨by omega, ?_⟩) | (intro _)
  all_goals (refine hK _ ?_; clear hK K)
  all_goals
    refine AW_r rfl rfl fun K hK => ?_
    simp (disch := omega) [wrap64, List.getElem?_eq_getElem, toNat_pred, DtCmd.cells, aNews, aAppend, aBuildSlice, chunks, tkm]
    repeat' first | (exfalso; omega) | (refine ⟨fun _ => ?_, fun _ => ?_⟩) | (refine ⟨by omega, ?_⟩) | (intro _)
    all_goals (refine hK _ ?_; clear hK K)
    all_goals
      refine AW_r rfl rfl fun K hK => ?_
      simp (disch := omega) [wrap64, List.getElem?_eq_getElem, toNat_pred, DtCmd.cells, aNews, aAppend, aBuildSlice, chunks, tkm]
      repeat' first | (exfalso; omega) | (refine ⟨fun _ => ?_, fun _ => ?_⟩) | (refine ⟨by omega, ?_⟩) | (intro _)
      all_goals (refine hK _ ?_; clear hK K)
      all_goals
        refine AW_ret (end_s ?_)
        simp (disch := omega) [wrap64, List.getElem?_eq_getElem, toNat_pred, DtCmd.cells, aNews, aAppend, aBuildSlice, chunks, tkm]
        all_goals simp [tkm]
theorem l8Copy (x : DtInst) (hn : x.fCmd.fChunks.length ≤ 1048576) (hd : x.fDeps.length ≤ 1048576) : PCall Try.prog 84 [.agg (DtInst.cells x)] (.agg (DtInst.cells x)) := by
  refine gcall_of_walk Try.func84 (by rfl) (by rfl) (by rw [Try.ntmps84]; exact Nat.le_of_ble_eq_true rfl) rfl (by decide) ?_
  rw [Try.ntmps84]
  refine AW_k [(0, _)] ⟨rfl, trivial⟩ ?_
  refine AW_r rfl rfl fun K hK => ?_
  simp (disch := omega) [wrap64, List.getElem?_eq_getElem, toNat_pred, DtInst.cells, DtCmd.cells, aNews, aAppend, aBuildSlice, chunks, tkm]
  repeat' first | (exfalso; omega) | (refine ⟨fun _ => ?_, fun _ => ?_⟩) | (refine ⟨by omega, ?_⟩) | (intro _)
  all_goals (refine hK _ ?_; clear hK K)
  all_goals
    refine AW_r rfl rfl fun K hK => ?_
    simp (disch := omega) [wrap64, List.getElem?_eq_getElem, toNat_pred, DtInst.cells, DtCmd.cells, aNews, aAppend, aBuildSlice, chunks, tkm]
    repeat' first | (exfalso; omega) | (refine CKd_v (am2s_cons (am2_agg rfl) am2s_nil) (l4Copy _ (by assumption)) rfl ?_; simp (disch := omega) [wrap64, List.getElem?_eq_getElem, toNat_pred, DtInst.cells, DtCmd.cells, aNews, aAppend, aBuildSlice, chunks, tkm]) | (refine ⟨fun _ => ?_, fun _ => ?_⟩) | (refine ⟨by omega, ?_⟩) | (intro _)
    all_goals (refine hK _ ?_; clear hK K)
    all_goals
      refine AW_r rfl rfl fun K hK => ?_
      simp (disch := omega) [wrap64, List.getElem?_eq_getElem, toNat_pred, DtInst.cells, DtCmd.cells, aNews, aAppend, aBuildSlice, chunks, tkm]
      repeat' first | (exfalso; omega) | (refine ⟨fun _ => ?_, fun _ => ?_⟩) | (refine ⟨by omega, ?_⟩) | (intro _)
      all_goals (refine hK _ ?_; clear hK K)
      all_goals
        refine AW_r rfl rfl fun K hK => ?_
        simp (disch := omega) [wrap64, List.getElem?_eq_getElem, toNat_pred, DtInst.cells, DtCmd.cells, aNews, aAppend, aBuildSlice, chunks, tkm]
        repeat' first | (exfalso; omega) | (refine ⟨fun _ => ?_, fun _ => ?_⟩) | (refine ⟨by omega, ?_⟩) | (intro _)
        all_goals (refine hK _ ?_; clear hK K)
        all_goals
          refine AW_ret (end_s ?_)
          simp (disch := omega) [wrap64, List.getElem?_eq_getElem, toNat_pred, DtInst.cells, DtCmd.cells, aNews, aAppend, aBuildSlice, chunks, tkm]
          all_goals simp [tkm]
def zeroInst (id : DtId) : DtInst := ⟨id, -1, -1, 0, zeroCmd, 0, [], false⟩
noncomputable def instAt (l : List DtInst) (id : DtId) : DtInst := (l.find? fun x => eqB x.fId id).getD (zeroInst id)
theorem instAt_found {l : List DtInst} {id : DtId} {i : Nat} (hi : i < l.length) (h : l[i].fId = id) (hb : ∀ (j : Nat) x, j < i → l[j]? = some x → ¬ x.fId = id) : instAt l id = l[i] := by
  have : l.find? (fun x => eqB x.fId id) = some l[i] := by
    rw [List.find?_eq_some_iff_getElem]
    refine ⟨by rw [eqB_true]; exact h, i, hi, rfl, fun j hj => ?_⟩
    have := hb j l[j] hj (List.getElem?_eq_getElem (by omega))
    simp [eqB_ne this]
  rw [instAt, this]; rfl
theorem instAt_none {l : List DtInst} {id : DtId} (hb : ∀ (j : Nat) x, j < l.length → l[j]? = some x → ¬ x.fId = id) : instAt l id = zeroInst id := by
  have : l.find? (fun x => eqB x.fId id) = none := by
    rw [List.find?_eq_none]
    intro x hx
    obtain ⟨j, hj⟩ := List.getElem?_of_mem hx
    have := hb j x (List.getElem?_eq_some_iff.1 hj).1 hj
    simp [eqB_ne this]
  rw [instAt, this]; rfl
def InstSm (x : DtInst) : Prop := x.fCmd.fChunks.length ≤ 1048576 ∧ x.fDeps.length ≤ 1048576 ∧ DtCmd.sz x.fCmd ≤ 1048576
theorem specInstAt (l : List DtInst) (id : DtId) (hn : l.length ≤ 1048576) (hm : ∀ x ∈ l, InstSm x) : PCall Try.prog 48 [.sl 16 (l.map DtInst.cells), .agg (DtId.cells id)] (.agg (DtInst.cells (instAt l id))) := by
  refine gcall_of_walk Try.func48 (by rfl) (by rfl) (by rw [Try.ntmps48]; exact Nat.le_of_ble_eq_true rfl) rfl (by decide) ?_
  rw [Try.ntmps48]
  refine AW_k [(0, _), (1, _)] ⟨rfl, rfl, trivial⟩ ?_
  refine AW_r rfl rfl fun K hK => ?_
  simp (disch := omega) [wrap64, List.getElem?_eq_getElem, toNat_pred, DtInst.cells, DtCmd.cells, DtId.cells, e2_id, aNews, aAppend, aBuildSlice, chunks, tkm]
  repeat' first | (exfalso; omega) | (refine ⟨fun _ => ?_, fun _ => ?_⟩) | (refine ⟨by omega, ?_⟩) | (intro _)
  all_goals (refine hK _ ?_; clear hK K)
  all_goals
    refine AW_seq ?_
    refine AW_r rfl rfl fun K hK => ?_
    simp (disch := omega) [wrap64, List.getElem?_eq_getElem, toNat_pred, DtInst.cells, DtCmd.cells, DtId.cells, e2_id, aNews, aAppend, aBuildSlice, chunks, tkm]
    repeat' first | (exfalso; omega) | (refine ⟨fun _ => ?_, fun _ => ?_⟩) | (refine ⟨by omega, ?_⟩) | (intro _)
    all_goals (refine hK _ ?_; clear hK K)
    all_goals
      refine AW_block ?_
      refine AW_loopS (fun mM sS => ∃ (i : Nat), mM = l.length - i ∧ (i ≤ l.length ∧ ∀ (j : Nat) x, j < i → l[j]? = some x → ¬ x.fId = id) ∧ sS = { env := lkE [(0, .sl 16 (l.map DtInst.cells)), (3, .ptr 64 0), (4, .ptr 80 0), (5, (.g (.int .i64 ((i : Nat)))))], ob := lk [(64, .cells (DtId.cells id)), (80, .cells [.g (.int .i64 0), .g (.int .i64 0), .g (.int .i64 0), .g (.int .i64 0), .g (.int .i64 0), .g (.int .i64 0), .g (.int .i64 0), .g (.int .i64 0), .s [], .s [], .s [], .g (.int .i64 0), .g (.slice none 0 0), .g (.int .i64 0), .g (.slice none 0 0), .g (.bool false)])] }) ?_ ?_
      · refine ⟨_, LeS.ko [(0, .sl 16 (l.map DtInst.cells)), (3, .ptr 64 0), (4, .ptr 80 0), (5, (.g (.int .i64 (((0) : Nat)))))] [(64, .cells (DtId.cells id)), (80, .cells [.g (.int .i64 0), .g (.int .i64 0), .g (.int .i64 0), .g (.int .i64 0), .g (.int .i64 0), .g (.int .i64 0), .g (.int .i64 0), .g (.int .i64 0), .s [], .s [], .s [], .g (.int .i64 0), .g (.slice none 0 0), .g (.int .i64 0), .g (.slice none 0 0), .g (.bool false)])] (by simp [KpE, upd_app, lkE_app, lk_cons, DtId.cells, DtInst.cells]; try rfl) (by simp [KpO, upd_app, lk_cons, lk_nil, formOb_nn, DtId.cells, DtInst.cells]; try rfl) (by rfl) (by simp) (by rfl), _, 0, rfl, ?_, rfl⟩
        · simp
      · rintro mM sS ⟨i, rfl, ⟨hi, hpre⟩, rfl⟩
        refine AW_seq ?_
        refine AW_r rfl rfl fun K hK => ?_
        simp (disch := omega) [wrap64, List.getElem?_eq_getElem, toNat_pred, DtInst.cells, DtCmd.cells, DtId.cells, e2_id, aNews, aAppend, aBuildSlice, chunks, tkm]
        repeat' first | (exfalso; omega) | (refine ⟨fun _ => ?_, fun _ => ?_⟩) | (refine ⟨by omega, ?_⟩) | (intro _)
        all_goals (refine hK _ ?_; clear hK K)
        all_goals
          refine AW_cond rfl (fun hc1 => ?_) (fun hc1 => ?_)
          · try simp [decB_true, decB_false, eqB_true, eqB_false, cmpI_lt, cmpI_ge] at hc1
            all_goals
              have hg : l[i]? = some l[i] := List.getElem?_eq_getElem (by omega)
              have hx := id_ext l[i].fId id
              obtain ⟨hx1, hx2, -⟩ := hm _ (List.getElem_mem (n := i) (h := by omega))
              refine AW_skip ?_
              refine AW_id ?_
              refine AW_seq ?_
              refine AW_block ?_
              refine AW_q rfl mix (by kernel_rfl) rfl fun K hK => ?_
              simp (disch := omega) [wrap64, List.getElem?_eq_getElem, toNat_pred, DtInst.cells, DtCmd.cells, DtId.cells, e2_id, aNews, aAppend, aBuildSlice, chunks, tkm]
              repeat' first | (exfalso; omega) | (refine ⟨fun _ => ?_, fun _ => ?_⟩) | (refine ⟨by omega, ?_⟩) | (intro _)
              all_goals (refine hK _ ?_; clear hK K)
              all_goals
                refine AW_cond rfl (fun hc2 => ?_) (fun hc2 => ?_)
                · try simp [decB_true, decB_false, eqB_true, eqB_false, cmpI_lt, cmpI_ge] at hc2
                  all_goals
                    refine AW_r rfl rfl fun K hK => ?_
                    simp (disch := omega) [wrap64, List.getElem?_eq_getElem, toNat_pred, DtInst.cells, DtCmd.cells, DtId.cells, e2_id, aNews, aAppend, aBuildSlice, chunks, tkm]
                    repeat' first | (exfalso; omega) | (refine CKd_v (am2s_cons (am2_agg rfl) am2s_nil) (l8Copy _ (by assumption) (by assumption)) rfl ?_; simp (disch := omega) [wrap64, List.getElem?_eq_getElem, toNat_pred, DtInst.cells, DtCmd.cells, DtId.cells, e2_id, aNews, aAppend, aBuildSlice, chunks, tkm]) | (refine ⟨fun _ => ?_, fun _ => ?_⟩) | (refine ⟨by omega, ?_⟩) | (intro _)
                    all_goals (refine hK _ ?_; clear hK K)
                    all_goals
                      refine AW_ret (end_s ?_)
                      simp (disch := omega) [wrap64, List.getElem?_eq_getElem, toNat_pred, DtInst.cells, DtCmd.cells, DtId.cells, e2_id, aNews, aAppend, aBuildSlice, chunks, tkm]
                      all_goals first | (rw [instAt_found (by assumption) (hx.mpr (by assumption)) hpre]; simp; done) | (rw [instAt_none (fun j x h => hpre j x (by omega))]; simp [zeroInst, zeroCmd]; done)
                · try simp [decB_true, decB_false, eqB_true, eqB_false, cmpI_lt, cmpI_ge] at hc2
                  all_goals
                    refine AW_skip ?_
                    refine AW_id ?_
                    refine AW_re rfl rfl fun K hK => ?_
                    simp (disch := omega) [wrap64, List.getElem?_eq_getElem, toNat_pred, DtInst.cells, DtCmd.cells, DtId.cells, e2_id, aNews, aAppend, aBuildSlice, chunks, tkm]
                    repeat' first | (exfalso; omega) | (refine ⟨fun _ => ?_, fun _ => ?_⟩) | (refine ⟨by omega, ?_⟩) | (intro _)
                    all_goals (refine hK _ ?_; clear hK K)
                    all_goals
                      refine ⟨_, LeS.ko [(0, .sl 16 (l.map DtInst.cells)), (3, .ptr 64 0), (4, .ptr 80 0), (5, (.g (.int .i64 (((i + 1) : Nat)))))] [(64, .cells (DtId.cells id)), (80, .cells [.g (.int .i64 0), .g (.int .i64 0), .g (.int .i64 0), .g (.int .i64 0), .g (.int .i64 0), .g (.int .i64 0), .g (.int .i64 0), .g (.int .i64 0), .s [], .s [], .s [], .g (.int .i64 0), .g (.slice none 0 0), .g (.int .i64 0), .g (.slice none 0 0), .g (.bool false)])] (by simp [KpE, upd_app, lkE_app, lk_cons, DtId.cells, DtInst.cells]; try rfl) (by simp [KpO, upd_app, lk_cons, lk_nil, formOb_nn, DtId.cells, DtInst.cells]; try rfl) (by rfl) (by simp) (by rfl), _, ?_, i + 1, rfl, ?_, rfl⟩
                      · omega
                      · refine ⟨by omega, fun j x hj hxx => ?_⟩
                        by_cases hji : j = i
                        · subst hji; rw [hg] at hxx; cases hxx; rw [hx]; grind
                        · exact hpre j x (by omega) hxx
          · try simp [decB_true, decB_false, eqB_true, eqB_false, cmpI_lt, cmpI_ge] at hc1
            all_goals
              refine AW_exit ?_
              refine AW_id ?_
              refine AW_r rfl rfl fun K hK => ?_
              simp (disch := omega) [wrap64, List.getElem?_eq_getElem, toNat_pred, DtInst.cells, DtCmd.cells, DtId.cells, e2_id, aNews, aAppend, aBuildSlice, chunks, tkm]
              repeat' first | (exfalso; omega) | (refine ⟨fun _ => ?_, fun _ => ?_⟩) | (refine ⟨by omega, ?_⟩) | (intro _)
              all_goals (refine hK _ ?_; clear hK K)
              all_goals
                refine AW_ret (end_s ?_)
                simp (disch := omega) [wrap64, List.getElem?_eq_getElem, toNat_pred, DtInst.cells, DtCmd.cells, DtId.cells, e2_id, aNews, aAppend, aBuildSlice, chunks, tkm]
                all_goals first | (rw [instAt_found (by assumption) (hx.mpr (by assumption)) hpre]; simp; done) | (rw [instAt_none (fun j x h => hpre j x (by omega))]; simp [zeroInst, zeroCmd]; done)
end Go.Proofs.Ytopeonnaalpmjaa.Vs
