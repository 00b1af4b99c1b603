import Derived.Test.YtopeonnaalpmjaaGreatSE2
open Go Go.Proofs Go.Proofs.YtopeonnaalpmjaaGreat.Vs
namespace Go.Proofs.YtopeonnaalpmjaaGreat.Vs
set_option linter.unusedVariables false
set_option linter.unusedSimpArgs false
set_option linter.unusedSectionVars false
set_option linter.unnecessarySimpa false
set_option linter.all false
set_option linter.unusedSimpArgs false
set_option linter.unusedVariables false
set_option maxRecDepth 100000
theorem l9Node (a : Int) : PCall Tryz.prog 37 [(.g (.int .i64 (a)))] (.g (.bool (decide (0 ≤ a) && decide (a ≤ 2)))) := by
  refine gcall_of_walk Tryz.func37 (by rfl) (by rfl) (by rw [Tryz.ntmps37]; exact Nat.le_of_ble_eq_true rfl) rfl (by decide) ?_
  rw [Tryz.ntmps37]
  refine AW_k [(0, _)] ⟨rfl, trivial⟩ ?_
  refine AW_r rfl rfl fun K hK => ?_
  simp (disch := omega) [wrap64, List.getElem?_eq_getElem, toNat_pred]
  repeat' first | (exfalso; omega) | (refine ⟨fun _ => ?_, fun _ => ?_⟩) | (refine ⟨by omega, ?_⟩) | (intro _)
  all_goals (refine hK _ ?_; clear hK K)
  all_goals
    refine AW_r rfl rfl fun K hK => ?_
    simp (disch := omega) [wrap64, List.getElem?_eq_getElem, toNat_pred]
    repeat' first | (exfalso; omega) | (refine ⟨fun _ => ?_, fun _ => ?_⟩) | (refine ⟨by omega, ?_⟩) | (intro _)
    all_goals (refine hK _ ?_; clear hK K)
    all_goals
      refine AW_ret (end_s ?_)
      simp (disch := omega) [wrap64, List.getElem?_eq_getElem, toNat_pred]
      all_goals first | omega | (simp_all; done) | (rw [Bool.eq_iff_iff]; simp_all; omega)
theorem isRep (a : Int) : PCall Tryz.prog 52 [(.g (.int .i64 (a)))] (.g (.bool (decide (0 ≤ a) && decide (a ≤ 2)))) := by
  refine gcall_of_walk Tryz.func52 (by rfl) (by rfl) (by rw [Tryz.ntmps52]; exact Nat.le_of_ble_eq_true rfl) rfl (by decide) ?_
  rw [Tryz.ntmps52]
  refine AW_k [(0, _)] ⟨rfl, trivial⟩ ?_
  refine AW_r rfl rfl fun K hK => ?_
  simp (disch := omega) [wrap64, List.getElem?_eq_getElem, toNat_pred]
  repeat' first | (exfalso; omega) | (refine ⟨fun _ => ?_, fun _ => ?_⟩) | (refine ⟨by omega, ?_⟩) | (intro _)
  all_goals (refine hK _ ?_; clear hK K)
  all_goals
    refine AW_r rfl rfl fun K hK => ?_
    simp (disch := omega) [wrap64, List.getElem?_eq_getElem, toNat_pred]
    repeat' first | (exfalso; omega) | (refine CKd_v (am2s_cons am2_g (am2s_cons am2_g (am2s_cons am2_g am2s_nil))) (within _ _ _) rfl ?_; simp (disch := omega) [wrap64, List.getElem?_eq_getElem, toNat_pred]) | (refine ⟨fun _ => ?_, fun _ => ?_⟩) | (refine ⟨by omega, ?_⟩) | (intro _)
    all_goals (refine hK _ ?_; clear hK K)
    all_goals
      refine AW_ret (end_s ?_)
      simp (disch := omega) [wrap64, List.getElem?_eq_getElem, toNat_pred]
      all_goals first | omega | (simp_all; done) | (simp [List.take_of_length_le]; done) | ((try simp_all); (try simp (disch := omega) only [wrap64, Int.tdiv_eq_ediv_of_nonneg, Int.tmod_eq_emod_of_nonneg, and_true, true_and]); done) | ((try simp_all); (try simp (disch := omega) only [wrap64, Int.tdiv_eq_ediv_of_nonneg, Int.tmod_eq_emod_of_nonneg, and_true, true_and] at *); omega)
def FromP (l : List Int) : Prop := ∀ (i : Nat) f, l[i]? = some f → 0 ≤ f ∧ f ≤ 2 ∧ ∀ g, 0 < i → l[i - 1]? = some g → g < f
theorem from_len {l : List Int} (h : FromP l) : l.length ≤ 3 := by
  apply Classical.byContradiction
  intro hn
  have g : ∀ i (hi : i < l.length), l[i]? = some l[i] := fun i hi => List.getElem?_eq_getElem hi
  have h0 := h 0 _ (g 0 (by omega))
  have h1 := (h 1 _ (g 1 (by omega))).2.2 _ (by omega) (g 0 (by omega))
  have h2 := (h 2 _ (g 2 (by omega))).2.2 _ (by omega) (g 1 (by omega))
  have h3 := (h 3 _ (g 3 (by omega))).2.2 _ (by omega) (g 2 (by omega))
  have h4 := (h 3 _ (g 3 (by omega))).2.1
  omega
def LeadP (x : DtLead) : Prop := IdP x.fId ∧ 0 ≤ x.fBal ∧ x.fBal ≤ 600 ∧ 1 ≤ x.fPhase ∧ x.fPhase ≤ 3 ∧ 0 ≤ x.fSeq ∧ x.fSeq ≤ 60 ∧ IdsP x.fDeps ∧ ¬ x.fId ∈ x.fDeps ∧ FromP x.fFrom
theorem l9Lead (x : DtLead) (hd : x.fDeps.length ≤ 1048576) : PCall Tryz.prog 40 [.agg (DtLead.cells x)] (.g (.bool (decB (LeadP x)))) := by
  have hfl : FromP x.fFrom → x.fFrom.length ≤ 3 := from_len
  refine gcall_of_walk Tryz.func40 (by rfl) (by rfl) (by rw [Tryz.ntmps40]; exact Nat.le_of_ble_eq_true rfl) rfl (by decide) ?_
  rw [Tryz.ntmps40]
  refine AW_k [(0, _)] ⟨rfl, trivial⟩ ?_
  refine AW_r rfl rfl fun K hK => ?_
  simp (disch := omega) [wrap64, List.getElem?_eq_getElem, toNat_pred, DtLead.cells, DtId.cells, decB_true, decB_false]
  repeat' first | (exfalso; omega) | (refine ⟨fun _ => ?_, fun _ => ?_⟩) | (refine ⟨by omega, ?_⟩) | (intro _)
  all_goals (refine hK _ ?_; clear hK K)
  all_goals
    refine AW_seq ?_
    refine AW_r rfl rfl fun K hK => ?_
    simp (disch := omega) [wrap64, List.getElem?_eq_getElem, toNat_pred, DtLead.cells, DtId.cells, decB_true, decB_false]
    repeat' first | (exfalso; omega) | (refine CKd_v (am2s_cons (am2_agg rfl) am2s_nil) (l8Id _) rfl ?_; simp (disch := omega) [wrap64, List.getElem?_eq_getElem, toNat_pred, DtLead.cells, DtId.cells, decB_true, decB_false]) | (refine CKd_v (am2s_cons am2_g (am2s_cons am2_g (am2s_cons am2_g am2s_nil))) (l1In _ _ _) rfl ?_; simp (disch := omega) [wrap64, List.getElem?_eq_getElem, toNat_pred, DtLead.cells, DtId.cells, decB_true, decB_false]) | (refine CKd_v (am2s_cons am2_sl am2s_nil) (specIdsOk _ (by assumption)) rfl ?_; simp (disch := omega) [wrap64, List.getElem?_eq_getElem, toNat_pred, DtLead.cells, DtId.cells, decB_true, decB_false]) | (refine CKd_v (am2s_cons am2_sl (am2s_cons (am2_agg rfl) am2s_nil)) (l8Has _ _ (by assumption)) rfl ?_; simp (disch := omega) [wrap64, List.getElem?_eq_getElem, toNat_pred, DtLead.cells, DtId.cells, decB_true, decB_false]) | (refine ⟨fun _ => ?_, fun _ => ?_⟩) | (refine ⟨by omega, ?_⟩) | (intro _)
    all_goals (refine hK _ ?_; clear hK K)
    all_goals
      refine AW_cond rfl (fun hc1 => ?_) (fun hc1 => ?_)
      · try simp [decB_true, decB_false, eqB_true, eqB_false, cmpI_lt, cmpI_ge] at hc1
        all_goals
          refine AW_r rfl rfl fun K hK => ?_
          simp (disch := omega) [wrap64, List.getElem?_eq_getElem, toNat_pred, DtLead.cells, DtId.cells, decB_true, decB_false]
          repeat' first | (exfalso; omega) | (refine ⟨fun _ => ?_, fun _ => ?_⟩) | (refine ⟨by omega, ?_⟩) | (intro _)
          all_goals (refine hK _ ?_; clear hK K)
          all_goals
            refine AW_ret (end_s ?_)
            simp (disch := omega) [wrap64, List.getElem?_eq_getElem, toNat_pred, DtLead.cells, DtId.cells, decB_true, decB_false]
            all_goals first | grind [LeadP, FromP] | (refine decB_f fun h => ?_; grind [LeadP, FromP]) | (refine decB_t ?_; grind [LeadP, FromP])
      · try simp [decB_true, decB_false, eqB_true, eqB_false, cmpI_lt, cmpI_ge] at hc1
        all_goals
          refine AW_skip ?_
          refine AW_id ?_
          refine AW_seq ?_
          refine AW_r rfl rfl fun K hK => ?_
          simp (disch := omega) [wrap64, List.getElem?_eq_getElem, toNat_pred, DtLead.cells, DtId.cells, decB_true, decB_false]
          repeat' first | (exfalso; omega) | (refine ⟨fun _ => ?_, fun _ => ?_⟩) | (refine ⟨by omega, ?_⟩) | (intro _)
          all_goals (refine hK _ ?_; clear hK K)
          all_goals
            refine AW_block ?_
            refine AW_loopS (fun mM sS => ∃ (i : Nat), mM = x.fFrom.length - i ∧ (i ≤ x.fFrom.length ∧ ∀ (j : Nat) f, j < i → x.fFrom[j]? = some f → 0 ≤ f ∧ f ≤ 2 ∧ ∀ g, 0 < j → x.fFrom[j - 1]? = some g → g < f) ∧ sS = { env := lkE [(1, .ptr 32 0), (3, (.g (.int .i64 ((i : Nat)))))], ob := lk [(32, .cells (DtLead.cells x))] }) ?_ ?_
            · refine ⟨_, LeS.ko [(1, .ptr 32 0), (3, (.g (.int .i64 (((0) : Nat)))))] [(32, .cells (DtLead.cells x))] (by simp [KpE, upd_app, lkE_app, lk_cons, DtLead.cells, DtId.cells]; try rfl) (by simp [KpO, upd_app, lk_cons, lk_nil, formOb_nn, DtLead.cells, DtId.cells]; try rfl) (by rfl) (by simp) (by rfl), _, 0, rfl, ?_, rfl⟩
              · simp
            · rintro mM sS ⟨i, rfl, ⟨hi, hpre⟩, rfl⟩
              refine AW_seq ?_
              refine AW_r rfl rfl fun K hK => ?_
              simp (disch := omega) [wrap64, List.getElem?_eq_getElem, toNat_pred, DtLead.cells, DtId.cells, decB_true, decB_false, cI]
              repeat' first | (exfalso; omega) | (refine ⟨fun _ => ?_, fun _ => ?_⟩) | (refine ⟨by omega, ?_⟩) | (intro _)
              all_goals (refine hK _ ?_; clear hK K)
              all_goals
                refine AW_cond rfl (fun hc2 => ?_) (fun hc2 => ?_)
                · try simp [decB_true, decB_false, eqB_true, eqB_false, cmpI_lt, cmpI_ge] at hc2
                  all_goals
                    have hg : x.fFrom[i]? = some x.fFrom[i] := List.getElem?_eq_getElem (by omega)
                    have hg' : x.fFrom[i - 1]? = some x.fFrom[i - 1] := List.getElem?_eq_getElem (by omega)
                    rcases Nat.eq_zero_or_pos i with hi0 | hi0
                    all_goals
                      refine AW_skip ?_
                      refine AW_id ?_
                      refine AW_seq ?_
                      refine AW_block ?_
                      refine AW_q rfl mix (by kernel_rfl) rfl fun K hK => ?_
                      simp (disch := omega) [wrap64, List.getElem?_eq_getElem, toNat_pred, DtLead.cells, DtId.cells, decB_true, decB_false, cI]
                      repeat' first | (exfalso; omega) | (refine CKd_v (am2s_cons am2_g am2s_nil) (l9Node _) rfl ?_; simp (disch := omega) [wrap64, List.getElem?_eq_getElem, toNat_pred, DtLead.cells, DtId.cells, decB_true, decB_false, cI]) | (refine ⟨fun _ => ?_, fun _ => ?_⟩) | (refine ⟨by omega, ?_⟩) | (intro _)
                      all_goals (refine hK _ ?_; clear hK K)
                      all_goals
                        refine AW_cond rfl (fun hc3 => ?_) (fun hc3 => ?_)
                        · try simp [decB_true, decB_false, eqB_true, eqB_false, cmpI_lt, cmpI_ge] at hc3
                          all_goals
                            refine AW_r rfl rfl fun K hK => ?_
                            simp (disch := omega) [wrap64, List.getElem?_eq_getElem, toNat_pred, DtLead.cells, DtId.cells, decB_true, decB_false, cI]
                            repeat' first | (exfalso; omega) | (refine ⟨fun _ => ?_, fun _ => ?_⟩) | (refine ⟨by omega, ?_⟩) | (intro _)
                            all_goals (refine hK _ ?_; clear hK K)
                            all_goals
                              refine AW_ret (end_s ?_)
                              simp (disch := omega) [wrap64, List.getElem?_eq_getElem, toNat_pred, DtLead.cells, DtId.cells, decB_true, decB_false, cI]
                              all_goals first | grind [LeadP, FromP] | (refine decB_f fun h => ?_; grind [LeadP, FromP]) | (refine decB_t ?_; grind [LeadP, FromP])
                        · try simp [decB_true, decB_false, eqB_true, eqB_false, cmpI_lt, cmpI_ge] at hc3
                          all_goals
                            refine AW_skip ?_
                            refine AW_id ?_
                            refine AW_re rfl rfl fun K hK => ?_
                            simp (disch := omega) [wrap64, List.getElem?_eq_getElem, toNat_pred, DtLead.cells, DtId.cells, decB_true, decB_false, cI]
                            repeat' first | (exfalso; omega) | (refine ⟨fun _ => ?_, fun _ => ?_⟩) | (refine ⟨by omega, ?_⟩) | (intro _)
                            all_goals (refine hK _ ?_; clear hK K)
                            all_goals
                              refine ⟨_, LeS.ko [(1, .ptr 32 0), (3, (.g (.int .i64 (((i + 1) : Nat)))))] [(32, .cells (DtLead.cells x))] (by simp [KpE, upd_app, lkE_app, lk_cons, DtLead.cells, DtId.cells]; try rfl) (by simp [KpO, upd_app, lk_cons, lk_nil, formOb_nn, DtLead.cells, DtId.cells]; try rfl) (by rfl) (by simp) (by rfl), _, ?_, i + 1, rfl, ?_, rfl⟩
                              · omega
                              · refine ⟨by omega, ?_⟩; clear hg'; grind
                · try simp [decB_true, decB_false, eqB_true, eqB_false, cmpI_lt, cmpI_ge] at hc2
                  all_goals
                    refine AW_exit ?_
                    refine AW_id ?_
                    refine AW_r rfl rfl fun K hK => ?_
                    simp (disch := omega) [wrap64, List.getElem?_eq_getElem, toNat_pred, DtLead.cells, DtId.cells, decB_true, decB_false, cI]
                    repeat' first | (exfalso; omega) | (refine ⟨fun _ => ?_, fun _ => ?_⟩) | (refine ⟨by omega, ?_⟩) | (intro _)
                    all_goals (refine hK _ ?_; clear hK K)
                    all_goals
                      refine AW_ret (end_s ?_)
                      simp (disch := omega) [wrap64, List.getElem?_eq_getElem, toNat_pred, DtLead.cells, DtId.cells, decB_true, decB_false, cI]
                      all_goals first | grind [LeadP, FromP] | (refine decB_f fun h => ?_; grind [LeadP, FromP]) | (refine decB_t ?_; grind [LeadP, FromP])
theorem leadOk (x : DtLead) (hd : x.fDeps.length ≤ 1048576) (hf : x.fFrom.length ≤ 1048576) : PCall Tryz.prog 56 [.agg (DtLead.cells x)] (.g (.bool (decB (LeadP x)))) := by
  have hfl : FromP x.fFrom → x.fFrom.length ≤ 3 := from_len
  refine gcall_of_walk Tryz.func56 (by rfl) (by rfl) (by rw [Tryz.ntmps56]; exact Nat.le_of_ble_eq_true rfl) rfl (by decide) ?_
  rw [Tryz.ntmps56]
  refine AW_k [(0, _)] ⟨rfl, trivial⟩ ?_
  refine AW_r rfl rfl fun K hK => ?_
  simp (disch := omega) [wrap64, List.getElem?_eq_getElem, toNat_pred, DtLead.cells, DtId.cells, decB_true, decB_false]
  repeat' first | (exfalso; omega) | (refine ⟨fun _ => ?_, fun _ => ?_⟩) | (refine ⟨by omega, ?_⟩) | (intro _)
  all_goals (refine hK _ ?_; clear hK K)
  all_goals
    refine AW_seq ?_
    refine AW_r rfl rfl fun K hK => ?_
    simp (disch := omega) [wrap64, List.getElem?_eq_getElem, toNat_pred, DtLead.cells, DtId.cells, decB_true, decB_false]
    repeat' first | (exfalso; omega) | (refine ⟨fun _ => ?_, fun _ => ?_⟩) | (refine ⟨by omega, ?_⟩) | (intro _)
    all_goals (refine hK _ ?_; clear hK K)
    all_goals
      refine AW_block ?_
      refine AW_loopS (fun mM sS => ∃ (i : Nat), mM = x.fFrom.length - i ∧ (i ≤ x.fFrom.length ∧ ∀ (j : Nat) f, j < i → x.fFrom[j]? = some f → 0 ≤ f ∧ f ≤ 2 ∧ ∀ g, 0 < j → x.fFrom[j - 1]? = some g → g < f) ∧ sS = { env := lkE [(1, .ptr 32 0), (6, .sl 1 (x.fFrom.map cI)), (7, (.g (.int .i64 ((x.fFrom.length : Nat))))), (8, (.g (.int .i64 ((i : Nat)))))], ob := lk [(32, .cells (DtLead.cells x))] }) ?_ ?_
      · refine ⟨_, LeS.ko [(1, .ptr 32 0), (6, .sl 1 (x.fFrom.map cI)), (7, (.g (.int .i64 ((x.fFrom.length : Nat))))), (8, (.g (.int .i64 (((0) : Nat)))))] [(32, .cells (DtLead.cells x))] (by simp [KpE, upd_app, lkE_app, lk_cons, DtLead.cells, DtId.cells]; try rfl) (by simp [KpO, upd_app, lk_cons, lk_nil, formOb_nn, DtLead.cells, DtId.cells]; try rfl) (by rfl) (by simp) (by rfl), _, 0, rfl, ?_, rfl⟩
        · simp
      · rintro mM sS ⟨i, rfl, ⟨hi, hpre⟩, rfl⟩
        refine AW_r rfl rfl fun K hK => ?_
        simp (disch := omega) [wrap64, List.getElem?_eq_getElem, toNat_pred, DtLead.cells, DtId.cells, decB_true, decB_false, cI]
        repeat' first | (exfalso; omega) | (refine ⟨fun _ => ?_, fun _ => ?_⟩) | (refine ⟨by omega, ?_⟩) | (intro _)
        all_goals (refine hK _ ?_; clear hK K)
        all_goals
          refine AW_seq ?_
          refine AW_cond rfl (fun hc4 => ?_) (fun hc4 => ?_)
          · try simp [decB_true, decB_false, eqB_true, eqB_false, cmpI_lt, cmpI_ge] at hc4
            all_goals
              have hg : x.fFrom[i]? = some x.fFrom[i] := List.getElem?_eq_getElem (by omega)
              have hg' : x.fFrom[i - 1]? = some x.fFrom[i - 1] := List.getElem?_eq_getElem (by omega)
              rcases Nat.eq_zero_or_pos i with hi0 | hi0
              all_goals
                refine AW_skip ?_
                refine AW_id ?_
                refine AW_seq ?_
                refine AW_block ?_
                refine AW_r rfl rfl fun K hK => ?_
                simp (disch := omega) [wrap64, List.getElem?_eq_getElem, toNat_pred, DtLead.cells, DtId.cells, decB_true, decB_false, cI]
                repeat' first | (exfalso; omega) | (refine ⟨fun _ => ?_, fun _ => ?_⟩) | (refine ⟨by omega, ?_⟩) | (intro _)
                all_goals (refine hK _ ?_; clear hK K)
                all_goals
                  refine AW_r rfl rfl fun K hK => ?_
                  simp (disch := omega) [wrap64, List.getElem?_eq_getElem, toNat_pred, DtLead.cells, DtId.cells, decB_true, decB_false, cI]
                  repeat' first | (exfalso; omega) | (refine CKd_v (am2s_cons am2_g am2s_nil) (isRep _) rfl ?_; simp (disch := omega) [wrap64, List.getElem?_eq_getElem, toNat_pred, DtLead.cells, DtId.cells, decB_true, decB_false, cI]) | (refine ⟨fun _ => ?_, fun _ => ?_⟩) | (refine ⟨by omega, ?_⟩) | (intro _)
                  all_goals (refine hK _ ?_; clear hK K)
                  all_goals
                    refine AW_cond rfl (fun hc5 => ?_) (fun hc5 => ?_)
                    · try simp [decB_true, decB_false, eqB_true, eqB_false, cmpI_lt, cmpI_ge] at hc5
                      all_goals
                        refine AW_r rfl rfl fun K hK => ?_
                        simp (disch := omega) [wrap64, List.getElem?_eq_getElem, toNat_pred, DtLead.cells, DtId.cells, decB_true, decB_false, cI]
                        repeat' first | (exfalso; omega) | (refine ⟨fun _ => ?_, fun _ => ?_⟩) | (refine ⟨by omega, ?_⟩) | (intro _)
                        all_goals (refine hK _ ?_; clear hK K)
                        all_goals
                          refine AW_ret (end_s ?_)
                          simp (disch := omega) [wrap64, List.getElem?_eq_getElem, toNat_pred, DtLead.cells, DtId.cells, decB_true, decB_false, cI]
                          all_goals first | grind [LeadP, FromP] | (refine decB_f fun h => ?_; grind [LeadP, FromP]) | (refine decB_t ?_; grind [LeadP, FromP]) | (rw [Bool.eq_iff_iff, decB_true, decB_true]; grind [LeadP, FromP])
                    · try simp [decB_true, decB_false, eqB_true, eqB_false, cmpI_lt, cmpI_ge] at hc5
                      all_goals
                        refine AW_skip ?_
                        refine AW_id ?_
                        refine AW_re rfl rfl fun K hK => ?_
                        simp (disch := omega) [wrap64, List.getElem?_eq_getElem, toNat_pred, DtLead.cells, DtId.cells, decB_true, decB_false, cI]
                        repeat' first | (exfalso; omega) | (refine ⟨fun _ => ?_, fun _ => ?_⟩) | (refine ⟨by omega, ?_⟩) | (intro _)
                        all_goals (refine hK _ ?_; clear hK K)
                        all_goals
                          refine ⟨_, LeS.ko [(1, .ptr 32 0), (6, .sl 1 (x.fFrom.map cI)), (7, (.g (.int .i64 ((x.fFrom.length : Nat))))), (8, (.g (.int .i64 (((i + 1) : Nat)))))] [(32, .cells (DtLead.cells x))] (by simp [KpE, upd_app, lkE_app, lk_cons, DtLead.cells, DtId.cells]; try rfl) (by simp [KpO, upd_app, lk_cons, lk_nil, formOb_nn, DtLead.cells, DtId.cells]; try rfl) (by rfl) (by simp) (by rfl), _, ?_, i + 1, rfl, ?_, rfl⟩
                          · omega
                          · refine ⟨by omega, ?_⟩; clear hg'; grind
          · try simp [decB_true, decB_false, eqB_true, eqB_false, cmpI_lt, cmpI_ge] at hc4
            all_goals
              refine AW_exit ?_
              refine AW_id ?_
              refine AW_r rfl rfl fun K hK => ?_
              simp (disch := omega) [wrap64, List.getElem?_eq_getElem, toNat_pred, DtLead.cells, DtId.cells, decB_true, decB_false, cI]
              repeat' first | (exfalso; omega) | (refine CKd_v (am2s_cons (am2_agg rfl) am2s_nil) (idOk _) rfl ?_; simp (disch := omega) [wrap64, List.getElem?_eq_getElem, toNat_pred, DtLead.cells, DtId.cells, decB_true, decB_false, cI]) | (refine CKd_v (am2s_cons am2_g (am2s_cons am2_g (am2s_cons am2_g am2s_nil))) (within _ _ _) rfl ?_; simp (disch := omega) [wrap64, List.getElem?_eq_getElem, toNat_pred, DtLead.cells, DtId.cells, decB_true, decB_false, cI]) | (refine CKd_v (am2s_cons am2_sl (am2s_cons (am2_agg rfl) am2s_nil)) (areDeps _ _ (by assumption)) rfl ?_; simp (disch := omega) [wrap64, List.getElem?_eq_getElem, toNat_pred, DtLead.cells, DtId.cells, decB_true, decB_false, cI]) | (refine ⟨fun _ => ?_, fun _ => ?_⟩) | (refine ⟨by omega, ?_⟩) | (intro _)
              all_goals (refine hK _ ?_; clear hK K)
              all_goals
                refine AW_ret (end_s ?_)
                simp (disch := omega) [wrap64, List.getElem?_eq_getElem, toNat_pred, DtLead.cells, DtId.cells, decB_true, decB_false, cI]
                all_goals first | grind [LeadP, FromP] | (refine decB_f fun h => ?_; grind [LeadP, FromP]) | (refine decB_t ?_; grind [LeadP, FromP]) | (rw [Bool.eq_iff_iff, decB_true, decB_true]; grind [LeadP, FromP])
noncomputable def leadAt (l : List DtLead) (id : DtId) : Int := idxZ (fun x => eqB x.fId id) l
theorem l9At (n : DtENode) (id : DtId) (hn : n.fLeads.length ≤ 1048576) : PCall Tryz.prog 41 [.agg (DtENode.cells n), .agg (DtId.cells id)] (.g (.int .i64 (leadAt n.fLeads id))) := by
  refine gcall_of_walk Tryz.func41 (by rfl) (by rfl) (by rw [Tryz.ntmps41]; exact Nat.le_of_ble_eq_true rfl) rfl (by decide) ?_
  rw [Tryz.ntmps41]
  refine AW_k [(0, _), (1, _)] ⟨rfl, rfl, trivial⟩ ?_
  refine AW_r rfl rfl fun K hK => ?_
  simp (disch := omega) [wrap64, List.getElem?_eq_getElem, toNat_pred, DtENode.cells, DtLead.cells, DtId.cells, e2_id]
  repeat' first | (exfalso; omega) | (refine ⟨fun _ => ?_, fun _ => ?_⟩) | (refine ⟨by omega, ?_⟩) | (intro _)
  all_goals (refine hK _ ?_; clear hK K)
  all_goals
    refine AW_seq ?_
    refine AW_r rfl rfl fun K hK => ?_
    simp (disch := omega) [wrap64, List.getElem?_eq_getElem, toNat_pred, DtENode.cells, DtLead.cells, DtId.cells, e2_id]
    repeat' first | (exfalso; omega) | (refine ⟨fun _ => ?_, fun _ => ?_⟩) | (refine ⟨by omega, ?_⟩) | (intro _)
    all_goals (refine hK _ ?_; clear hK K)
    all_goals
      refine AW_block ?_
      refine AW_loopS (fun mM sS => ∃ (i : Nat), mM = n.fLeads.length - i ∧ (i ≤ n.fLeads.length ∧ ∀ (j : Nat) y, j < i → n.fLeads[j]? = some y → eqB y.fId id = false) ∧ sS = { env := lkE [(2, .ptr 48 0), (3, .ptr 64 0), (5, (.g (.int .i64 ((i : Nat)))))], ob := lk [(48, .cells (DtENode.cells n)), (64, .cells (DtId.cells id))] }) ?_ ?_
      · refine ⟨_, LeS.ko [(2, .ptr 48 0), (3, .ptr 64 0), (5, (.g (.int .i64 (((0) : Nat)))))] [(48, .cells (DtENode.cells n)), (64, .cells (DtId.cells id))] (by simp [KpE, upd_app, lkE_app, lk_cons, DtENode.cells, DtId.cells]; try rfl) (by simp [KpO, upd_app, lk_cons, lk_nil, formOb_nn, DtENode.cells, DtId.cells]; try rfl) (by rfl) (by simp) (by rfl), _, 0, rfl, ?_, rfl⟩
        · simp
      · rintro mM sS ⟨i, rfl, ⟨hi, hpre⟩, rfl⟩
        refine AW_seq ?_
        refine AW_r rfl rfl fun K hK => ?_
        simp (disch := omega) [wrap64, List.getElem?_eq_getElem, toNat_pred, DtENode.cells, DtLead.cells, DtId.cells, e2_id]
        repeat' first | (exfalso; omega) | (refine ⟨fun _ => ?_, fun _ => ?_⟩) | (refine ⟨by omega, ?_⟩) | (intro _)
        all_goals (refine hK _ ?_; clear hK K)
        all_goals
          refine AW_cond rfl (fun hc6 => ?_) (fun hc6 => ?_)
          · try simp [decB_true, decB_false, eqB_true, eqB_false, cmpI_lt, cmpI_ge] at hc6
            all_goals
              have hg : n.fLeads[i]? = some n.fLeads[i] := List.getElem?_eq_getElem (by omega)
              refine AW_skip ?_
              refine AW_id ?_
              refine AW_seq ?_
              refine AW_block ?_
              refine AW_q rfl mix (by kernel_rfl) rfl fun K hK => ?_
              simp (disch := omega) [wrap64, List.getElem?_eq_getElem, toNat_pred, DtENode.cells, DtLead.cells, DtId.cells, e2_id]
              repeat' first | (exfalso; omega) | (refine ⟨fun _ => ?_, fun _ => ?_⟩) | (refine ⟨by omega, ?_⟩) | (intro _)
              all_goals (refine hK _ ?_; clear hK K)
              all_goals
                refine AW_cond rfl (fun hc7 => ?_) (fun hc7 => ?_)
                · try simp [decB_true, decB_false, eqB_true, eqB_false, cmpI_lt, cmpI_ge] at hc7
                  all_goals
                    refine AW_r rfl rfl fun K hK => ?_
                    simp (disch := omega) [wrap64, List.getElem?_eq_getElem, toNat_pred, DtENode.cells, DtLead.cells, DtId.cells, e2_id]
                    repeat' first | (exfalso; omega) | (refine ⟨fun _ => ?_, fun _ => ?_⟩) | (refine ⟨by omega, ?_⟩) | (intro _)
                    all_goals (refine hK _ ?_; clear hK K)
                    all_goals
                      refine AW_ret (end_s ?_)
                      simp (disch := omega) [wrap64, List.getElem?_eq_getElem, toNat_pred, DtENode.cells, DtLead.cells, DtId.cells, e2_id]
                      all_goals first | (exact idxZ_found (by assumption) (by simp_all [eqB_true, id_ext]) hpre) | (exact idxZ_none (fun j x h => hpre j x (by omega)))
                · try simp [decB_true, decB_false, eqB_true, eqB_false, cmpI_lt, cmpI_ge] at hc7
                  all_goals
                    refine AW_skip ?_
                    refine AW_id ?_
                    refine AW_re rfl rfl fun K hK => ?_
                    simp (disch := omega) [wrap64, List.getElem?_eq_getElem, toNat_pred, DtENode.cells, DtLead.cells, DtId.cells, e2_id]
                    repeat' first | (exfalso; omega) | (refine ⟨fun _ => ?_, fun _ => ?_⟩) | (refine ⟨by omega, ?_⟩) | (intro _)
                    all_goals (refine hK _ ?_; clear hK K)
                    all_goals
                      refine ⟨_, LeS.ko [(2, .ptr 48 0), (3, .ptr 64 0), (5, (.g (.int .i64 (((i + 1) : Nat)))))] [(48, .cells (DtENode.cells n)), (64, .cells (DtId.cells id))] (by simp [KpE, upd_app, lkE_app, lk_cons, DtENode.cells, DtId.cells]; try rfl) (by simp [KpO, upd_app, lk_cons, lk_nil, formOb_nn, DtENode.cells, DtId.cells]; try rfl) (by rfl) (by simp) (by rfl), _, ?_, i + 1, rfl, ?_, rfl⟩
                      · omega
                      · refine ⟨by omega, ?_⟩; grind [eqB_false, id_ext]
          · try simp [decB_true, decB_false, eqB_true, eqB_false, cmpI_lt, cmpI_ge] at hc6
            all_goals
              refine AW_exit ?_
              refine AW_id ?_
              refine AW_r rfl rfl fun K hK => ?_
              simp (disch := omega) [wrap64, List.getElem?_eq_getElem, toNat_pred, DtENode.cells, DtLead.cells, DtId.cells, e2_id]
              repeat' first | (exfalso; omega) | (refine ⟨fun _ => ?_, fun _ => ?_⟩) | (refine ⟨by omega, ?_⟩) | (intro _)
              all_goals (refine hK _ ?_; clear hK K)
              all_goals
                refine AW_ret (end_s ?_)
                simp (disch := omega) [wrap64, List.getElem?_eq_getElem, toNat_pred, DtENode.cells, DtLead.cells, DtId.cells, e2_id]
                all_goals first | (exact idxZ_found (by assumption) (by simp_all [eqB_true, id_ext]) hpre) | (exact idxZ_none (fun j x h => hpre j x (by omega)))
theorem lead1 (p : DtLead) (id : DtId) : GCall Tryz.prog 87 [.agg (DtLead.cells p), .ptr 0 0] [DtId.cells id] [] (.g (.bool (eqB p.fId id))) [] := by
  refine gcall_of_walk Tryz.func87 (by rfl) (by rfl) (by rw [Tryz.ntmps87]; exact Nat.le_of_ble_eq_true rfl) rfl (by decide) ?_
  rw [Tryz.ntmps87]
  refine AW_k [(0, _), (1, _)] ⟨rfl, rfl, trivial⟩ ?_
  refine AW_r rfl rfl fun K hK => ?_
  simp [DtENode.cells, DtLead.cells, DtId.cells, e2_id]
  repeat' first | (refine ⟨fun _ => ?_, fun _ => ?_⟩) | (refine ⟨by omega, ?_⟩) | (intro _)
  all_goals (refine hK _ ?_; clear hK K)
  all_goals
    refine AW_r rfl rfl fun K hK => ?_
    simp [DtENode.cells, DtLead.cells, DtId.cells, e2_id]
    repeat' first | (refine ⟨fun _ => ?_, fun _ => ?_⟩) | (refine ⟨by omega, ?_⟩) | (intro _)
    all_goals (refine hK _ ?_; clear hK K)
    all_goals
      refine AW_ret (end_s ?_)
      simp [DtENode.cells, DtLead.cells, DtId.cells, e2_id]
      all_goals (rw [Bool.eq_iff_iff, eqB_true, id_ext]; simp)
theorem indexFuncLead {F : FuncId} {id : DtId} {p : DtLead → Bool} (xs : List DtLead) (hn : xs.length ≤ 1048576) (hf : ∀ x, GCall Tryz.prog F [.agg (DtLead.cells x), .ptr 0 0] [DtId.cells id] [] (.g (.bool (p x))) []) : GCall Tryz.prog 86 [.sl 8 (xs.map DtLead.cells), .fn F [] [.ptr 0 0]] [DtId.cells id] [] (.g (.int .i64 (idxZ p xs))) [] := by
  refine gcall_of_walk Tryz.func86 (by rfl) (by rfl) (by rw [Tryz.ntmps86]; exact Nat.le_of_ble_eq_true rfl) rfl (by decide) ?_
  rw [Tryz.ntmps86]
  refine AW_k [(0, _), (1, _)] ⟨rfl, rfl, trivial⟩ ?_
  refine AW_r rfl rfl fun K hK => ?_
  simp (disch := omega) [wrap64, List.getElem?_eq_getElem, toNat_pred, DtLead.cells, DtId.cells]
  repeat' first | (exfalso; omega) | (refine CKd_r1 0 (.inr rfl) (am1s_plain (DtId.cells id) rfl) (am2s_cons (am2_agg rfl) (am2s_cons am2_ptr0 am2s_nil)) (hf _) rfl ?_; simp (disch := omega) [wrap64, List.getElem?_eq_getElem, toNat_pred, DtLead.cells, DtId.cells]) | (refine ⟨fun _ => ?_, fun _ => ?_⟩) | (refine ⟨by omega, ?_⟩) | (intro _)
  all_goals (refine hK _ ?_; clear hK K)
  all_goals
    refine AW_seq ?_
    refine AW_r rfl rfl fun K hK => ?_
    simp (disch := omega) [wrap64, List.getElem?_eq_getElem, toNat_pred, DtLead.cells, DtId.cells]
    repeat' first | (exfalso; omega) | (refine CKd_r1 0 (.inr rfl) (am1s_plain (DtId.cells id) rfl) (am2s_cons (am2_agg rfl) (am2s_cons am2_ptr0 am2s_nil)) (hf _) rfl ?_; simp (disch := omega) [wrap64, List.getElem?_eq_getElem, toNat_pred, DtLead.cells, DtId.cells]) | (refine ⟨fun _ => ?_, fun _ => ?_⟩) | (refine ⟨by omega, ?_⟩) | (intro _)
    all_goals (refine hK _ ?_; clear hK K)
    all_goals
      refine AW_block ?_
      refine AW_loopS (fun mM sS => ∃ (i : Nat), mM = xs.length - i ∧ (i ≤ xs.length ∧ ∀ j x, j < i → xs[j]? = some x → p x = false) ∧ sS = { env := lkE [(0, .sl 8 (xs.map DtLead.cells)), (1, .fn F [] [.ptr 0 0]), (6, .sl 8 (xs.map DtLead.cells)), (7, (.g (.int .i64 ((xs.length : Nat))))), (8, (.g (.int .i64 ((i : Nat)))))], ob := formOb [DtId.cells id] [] }) ?_ ?_
      · refine ⟨_, LeS.kp [(0, .sl 8 (xs.map DtLead.cells)), (1, .fn F [] [.ptr 0 0]), (6, .sl 8 (xs.map DtLead.cells)), (7, (.g (.int .i64 ((xs.length : Nat))))), (8, (.g (.int .i64 (((0) : Nat)))))] (by simp [KpE, upd_app, lkE_app, lk_cons]; try rfl), _, 0, rfl, ?_, rfl⟩
        · simp
      · rintro mM sS ⟨i, rfl, ⟨hi, hpre⟩, rfl⟩
        refine AW_r rfl rfl fun K hK => ?_
        simp (disch := omega) [wrap64, List.getElem?_eq_getElem, toNat_pred, DtLead.cells, DtId.cells]
        repeat' first | (exfalso; omega) | (refine CKd_r1 0 (.inr rfl) (am1s_plain (DtId.cells id) rfl) (am2s_cons (am2_agg rfl) (am2s_cons am2_ptr0 am2s_nil)) (hf _) rfl ?_; simp (disch := omega) [wrap64, List.getElem?_eq_getElem, toNat_pred, DtLead.cells, DtId.cells]) | (refine ⟨fun _ => ?_, fun _ => ?_⟩) | (refine ⟨by omega, ?_⟩) | (intro _)
        all_goals (refine hK _ ?_; clear hK K)
        all_goals
          refine AW_seq ?_
          refine AW_cond rfl (fun hc8 => ?_) (fun hc8 => ?_)
          · try simp [decB_true, decB_false, eqB_true, eqB_false, cmpI_lt, cmpI_ge] at hc8
            all_goals
              have hg : xs[i]? = some (xs[i]) := List.getElem?_eq_getElem (by omega)
              refine AW_skip ?_
              refine AW_id ?_
              refine AW_seq ?_
              refine AW_block ?_
              refine AW_r rfl rfl fun K hK => ?_
              simp (disch := omega) [wrap64, List.getElem?_eq_getElem, toNat_pred, DtLead.cells, DtId.cells]
              repeat' first | (exfalso; omega) | (refine CKd_r1 0 (.inr rfl) (am1s_plain (DtId.cells id) rfl) (am2s_cons (am2_agg rfl) (am2s_cons am2_ptr0 am2s_nil)) (hf _) rfl ?_; simp (disch := omega) [wrap64, List.getElem?_eq_getElem, toNat_pred, DtLead.cells, DtId.cells]) | (refine ⟨fun _ => ?_, fun _ => ?_⟩) | (refine ⟨by omega, ?_⟩) | (intro _)
              all_goals (refine hK _ ?_; clear hK K)
              all_goals
                refine AW_r rfl rfl fun K hK => ?_
                simp (disch := omega) [wrap64, List.getElem?_eq_getElem, toNat_pred, DtLead.cells, DtId.cells]
                repeat' first | (exfalso; omega) | (refine CKd_r1 0 (.inr rfl) (am1s_plain (DtId.cells id) rfl) (am2s_cons (am2_agg rfl) (am2s_cons am2_ptr0 am2s_nil)) (hf _) rfl ?_; simp (disch := omega) [wrap64, List.getElem?_eq_getElem, toNat_pred, DtLead.cells, DtId.cells]) | (refine ⟨fun _ => ?_, fun _ => ?_⟩) | (refine ⟨by omega, ?_⟩) | (intro _)
                all_goals (refine hK _ ?_; clear hK K)
                all_goals
                  refine AW_cond rfl (fun hc9 => ?_) (fun hc9 => ?_)
                  · try simp [decB_true, decB_false, eqB_true, eqB_false, cmpI_lt, cmpI_ge] at hc9
                    all_goals
                      refine AW_r rfl rfl fun K hK => ?_
                      simp (disch := omega) [wrap64, List.getElem?_eq_getElem, toNat_pred, DtLead.cells, DtId.cells]
                      repeat' first | (exfalso; omega) | (refine CKd_r1 0 (.inr rfl) (am1s_plain (DtId.cells id) rfl) (am2s_cons (am2_agg rfl) (am2s_cons am2_ptr0 am2s_nil)) (hf _) rfl ?_; simp (disch := omega) [wrap64, List.getElem?_eq_getElem, toNat_pred, DtLead.cells, DtId.cells]) | (refine ⟨fun _ => ?_, fun _ => ?_⟩) | (refine ⟨by omega, ?_⟩) | (intro _)
                      all_goals (refine hK _ ?_; clear hK K)
                      all_goals
                        refine AW_ret (end_s ?_)
                        simp (disch := omega) [wrap64, List.getElem?_eq_getElem, toNat_pred, DtLead.cells, DtId.cells]
                        all_goals first | (exact idxZ_found (by assumption) (by assumption) hpre) | (exact idxZ_none (fun j x h => hpre j x (by omega)))
                  · try simp [decB_true, decB_false, eqB_true, eqB_false, cmpI_lt, cmpI_ge] at hc9
                    all_goals
                      refine AW_skip ?_
                      refine AW_id ?_
                      refine AW_re rfl rfl fun K hK => ?_
                      simp (disch := omega) [wrap64, List.getElem?_eq_getElem, toNat_pred, DtLead.cells, DtId.cells]
                      repeat' first | (exfalso; omega) | (refine CKd_r1 0 (.inr rfl) (am1s_plain (DtId.cells id) rfl) (am2s_cons (am2_agg rfl) (am2s_cons am2_ptr0 am2s_nil)) (hf _) rfl ?_; simp (disch := omega) [wrap64, List.getElem?_eq_getElem, toNat_pred, DtLead.cells, DtId.cells]) | (refine ⟨fun _ => ?_, fun _ => ?_⟩) | (refine ⟨by omega, ?_⟩) | (intro _)
                      all_goals (refine hK _ ?_; clear hK K)
                      all_goals
                        refine ⟨_, LeS.kp [(0, .sl 8 (xs.map DtLead.cells)), (1, .fn F [] [.ptr 0 0]), (6, .sl 8 (xs.map DtLead.cells)), (7, (.g (.int .i64 ((xs.length : Nat))))), (8, (.g (.int .i64 (((i + 1) : Nat)))))] (by simp [KpE, upd_app, lkE_app, lk_cons]; try rfl), _, ?_, i + 1, rfl, ?_, rfl⟩
                        · omega
                        · refine ⟨by omega, ?_⟩; grind
          · try simp [decB_true, decB_false, eqB_true, eqB_false, cmpI_lt, cmpI_ge] at hc8
            all_goals
              refine AW_exit ?_
              refine AW_id ?_
              refine AW_r rfl rfl fun K hK => ?_
              simp (disch := omega) [wrap64, List.getElem?_eq_getElem, toNat_pred, DtLead.cells, DtId.cells]
              repeat' first | (exfalso; omega) | (refine CKd_r1 0 (.inr rfl) (am1s_plain (DtId.cells id) rfl) (am2s_cons (am2_agg rfl) (am2s_cons am2_ptr0 am2s_nil)) (hf _) rfl ?_; simp (disch := omega) [wrap64, List.getElem?_eq_getElem, toNat_pred, DtLead.cells, DtId.cells]) | (refine ⟨fun _ => ?_, fun _ => ?_⟩) | (refine ⟨by omega, ?_⟩) | (intro _)
              all_goals (refine hK _ ?_; clear hK K)
              all_goals
                refine AW_ret (end_s ?_)
                simp (disch := omega) [wrap64, List.getElem?_eq_getElem, toNat_pred, DtLead.cells, DtId.cells]
                all_goals first | (exact idxZ_found (by assumption) (by assumption) hpre) | (exact idxZ_none (fun j x h => hpre j x (by omega)))
theorem lead (n : DtENode) (id : DtId) (hn : n.fLeads.length ≤ 1048576) : GCall Tryz.prog 57 [.ptr 0 0, .agg (DtId.cells id)] [DtENode.cells n] [] (.g (.int .i64 (leadAt n.fLeads id))) [] := by
  refine gcall_of_walk Tryz.func57 (by rfl) (by rfl) (by rw [Tryz.ntmps57]; exact Nat.le_of_ble_eq_true rfl) rfl (by decide) ?_
  rw [Tryz.ntmps57]
  refine AW_k [(0, _), (1, _)] ⟨rfl, rfl, trivial⟩ ?_
  refine AW_r rfl rfl fun K hK => ?_
  simp [DtENode.cells, DtLead.cells, DtId.cells]
  repeat' first | (refine ⟨fun _ => ?_, fun _ => ?_⟩) | (refine ⟨by omega, ?_⟩) | (intro _)
  all_goals (refine hK _ ?_; clear hK K)
  all_goals
    refine AW_r rfl rfl fun K hK => ?_
    simp [DtENode.cells, DtLead.cells, DtId.cells]
    repeat' first | (refine CKd_r1 64 (.inl rfl) (am1s_plain (DtId.cells id) rfl) (am2s_cons am2_sl (am2s_cons am2_fn0 am2s_nil)) (indexFuncLead _ hn (fun x => lead1 x id)) rfl ?_; simp [DtENode.cells, DtLead.cells, DtId.cells]) | (refine ⟨fun _ => ?_, fun _ => ?_⟩) | (refine ⟨by omega, ?_⟩) | (intro _)
    all_goals (refine hK _ ?_; clear hK K)
    all_goals
      refine AW_ret (end_s ?_)
      simp [DtENode.cells, DtLead.cells, DtId.cells, leadAt]
      all_goals first | omega | (simp_all; done) | (simp [List.take_of_length_le]; done) | ((try simp_all); (try simp (disch := omega) only [wrap64, Int.tdiv_eq_ediv_of_nonneg, Int.tmod_eq_emod_of_nonneg, and_true, true_and]); done) | ((try simp_all); (try simp (disch := omega) only [wrap64, Int.tdiv_eq_ediv_of_nonneg, Int.tmod_eq_emod_of_nonneg, and_true, true_and] at *); omega)
theorem unknown (n : DtENode) (id : DtId) : GCall Tryz.prog 55 [.ptr 0 0, .agg (DtId.cells id)] [DtENode.cells n] [] (.g (.bool (decide (id.fRep = n.fMe) && decide (n.fNext ≤ id.fSlot)))) [] := by
  refine gcall_of_walk Tryz.func55 (by rfl) (by rfl) (by rw [Tryz.ntmps55]; exact Nat.le_of_ble_eq_true rfl) rfl (by decide) ?_
  rw [Tryz.ntmps55]
  refine AW_k [(0, _), (1, _)] ⟨rfl, rfl, trivial⟩ ?_
  refine AW_r rfl rfl fun K hK => ?_
  simp [DtENode.cells, DtId.cells]
  repeat' first | (refine ⟨fun _ => ?_, fun _ => ?_⟩) | (refine ⟨by omega, ?_⟩) | (intro _)
  all_goals (refine hK _ ?_; clear hK K)
  all_goals
    refine AW_q rfl mix (by kernel_rfl) rfl fun K hK => ?_
    simp [DtENode.cells, DtId.cells]
    repeat' first | (refine ⟨fun _ => ?_, fun _ => ?_⟩) | (refine ⟨by omega, ?_⟩) | (intro _)
    all_goals (refine hK _ ?_; clear hK K)
    all_goals
      refine AW_ret (end_s ?_)
      simp [DtENode.cells, DtId.cells]
      all_goals first | (simp_all; done) | (rw [Bool.eq_iff_iff]; simp_all)
end Go.Proofs.YtopeonnaalpmjaaGreat.Vs
