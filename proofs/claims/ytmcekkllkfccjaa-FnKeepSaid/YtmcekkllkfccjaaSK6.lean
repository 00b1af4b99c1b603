import Derived.Test.YtmcekkllkfccjaaSDK
open Go Go.Proofs Go.Proofs.Ytmcekkllkfccjaa.Vs
namespace Go.Proofs.Ytmcekkllkfccjaa.Vs
set_option linter.unusedVariables false
set_option linter.unusedSimpArgs false
set_option linter.unusedSectionVars false
set_option linter.unnecessarySimpa false
set_option linter.all false
set_option linter.unusedSimpArgs false
set_option linter.unusedVariables false
set_option maxRecDepth 100000
theorem decB_iff {p : Prop} {b : Bool} (h : p ↔ b = true) : decB p = b := by
  cases b with
  | true => exact decB_t (h.2 rfl)
  | false => exact decB_f fun hp => by simpa using h.1 hp
def KIn (x : Int) : Prop := 0 ≤ x ∧ x ≤ 30
def KOk (l : List Int) (r : DtRule) : Prop := (∀ (i : Nat) t, l[i]? = some t → 0 ≤ t ∧ t ≤ 100000 ∧ ∀ p, 0 < i → l[i - 1]? = some p → p < t) ∧ l.length ≤ 30 ∧ KIn r.fLast ∧ KIn r.fDays ∧ KIn r.fPerDay
theorem specKeepOk (l : List Int) (r : DtRule) (hl : l.length ≤ 1048576) : PCall Try.prog 22 [.sl 1 (l.map cI), .agg (DtRule.cells r)] (.g (.bool (decB (KOk l r)))) := by
  refine gcall_of_walk Try.func22 (by rfl) (by rfl) (by rw [Try.ntmps22]; exact Nat.le_of_ble_eq_true rfl) rfl (by decide) ?_
  rw [Try.ntmps22]
  refine AW_k [(0, _), (1, _)] ⟨rfl, rfl, trivial⟩ ?_
  refine AW_r rfl rfl fun K hK => ?_
  simp (disch := omega) [wrap64, List.getElem?_eq_getElem, toNat_pred, cI, DtRule.cells]
  repeat' first | (exfalso; omega) | (refine ⟨fun _ => ?_, fun _ => ?_⟩) | (refine ⟨by omega, ?_⟩) | (intro _)
  all_goals (refine hK _ ?_; clear hK K)
  all_goals
    refine AW_seq ?_
    refine AW_r rfl rfl fun K hK => ?_
    simp (disch := omega) [wrap64, List.getElem?_eq_getElem, toNat_pred, cI, DtRule.cells]
    repeat' first | (exfalso; omega) | (refine CKd_v (am2s_cons am2_g (am2s_cons am2_g (am2s_cons am2_g am2s_nil))) (l1In _ _ _) rfl ?_; simp (disch := omega) [wrap64, List.getElem?_eq_getElem, toNat_pred, cI, DtRule.cells]) | (refine ⟨fun _ => ?_, fun _ => ?_⟩) | (refine ⟨by omega, ?_⟩) | (intro _)
    all_goals (refine hK _ ?_; clear hK K)
    all_goals
      refine AW_cond rfl (fun hc1 => ?_) (fun hc1 => ?_)
      · try simp at hc1
        all_goals
          refine AW_r rfl rfl fun K hK => ?_
          simp (disch := omega) [wrap64, List.getElem?_eq_getElem, toNat_pred, cI, DtRule.cells]
          repeat' first | (exfalso; omega) | (refine ⟨fun _ => ?_, fun _ => ?_⟩) | (refine ⟨by omega, ?_⟩) | (intro _)
          all_goals (refine hK _ ?_; clear hK K)
          all_goals
            refine AW_ret (end_s ?_)
            simp (disch := omega) [wrap64, List.getElem?_eq_getElem, toNat_pred, cI, DtRule.cells]
            all_goals first | (refine decB_f fun h => ?_; grind [KOk, KIn]) | (refine decB_t ?_; grind [KOk, KIn])
      · try simp at hc1
        all_goals
          refine AW_skip ?_
          refine AW_id ?_
          refine AW_seq ?_
          refine AW_r rfl rfl fun K hK => ?_
          simp (disch := omega) [wrap64, List.getElem?_eq_getElem, toNat_pred, cI, DtRule.cells]
          repeat' first | (exfalso; omega) | (refine ⟨fun _ => ?_, fun _ => ?_⟩) | (refine ⟨by omega, ?_⟩) | (intro _)
          all_goals (refine hK _ ?_; clear hK K)
          all_goals
            refine AW_block ?_
            refine AW_loopS (fun mM sS => ∃ (i : Nat), mM = l.length - i ∧ (i ≤ l.length ∧ l.length ≤ 30 ∧ KIn r.fLast ∧ KIn r.fDays ∧ KIn r.fPerDay ∧ ∀ (j : Nat) t, j < i → l[j]? = some t → 0 ≤ t ∧ t ≤ 100000 ∧ ∀ p, 0 < j → l[j - 1]? = some p → p < t) ∧ sS = { env := lkE [(0, .sl 1 (l.map cI)), (5, (.g (.int .i64 ((i : Nat)))))], ob := lk [] }) ?_ ?_
            · refine ⟨_, LeS.ko [(0, .sl 1 (l.map cI)), (5, (.g (.int .i64 (((0) : Nat)))))] [] (by simp [KpE, upd_app, lkE_app, lk_cons]; try rfl) (by simp [KpO, upd_app, lk_cons, lk_nil, formOb_nn]; try rfl) (by rfl) (by simp) (by rfl), _, 0, rfl, ?_, rfl⟩
              · unfold KIn; simp_all; try omega
            · rintro mM sS ⟨i, rfl, ⟨hi, h1, h2, h3, h4, hpre⟩, rfl⟩
              refine AW_seq ?_
              refine AW_r rfl rfl fun K hK => ?_
              simp (disch := omega) [wrap64, List.getElem?_eq_getElem, toNat_pred, cI, DtRule.cells]
              repeat' first | (exfalso; omega) | (refine ⟨fun _ => ?_, fun _ => ?_⟩) | (refine ⟨by omega, ?_⟩) | (intro _)
              all_goals (refine hK _ ?_; clear hK K)
              all_goals
                refine AW_cond rfl (fun hc2 => ?_) (fun hc2 => ?_)
                · try simp at hc2
                  all_goals
                    have hg : l[i]? = some (l[i]) := List.getElem?_eq_getElem (by omega)
                    refine AW_skip ?_
                    refine AW_id ?_
                    refine AW_seq ?_
                    refine AW_block ?_
                    refine AW_q rfl mix (by kernel_rfl) rfl fun K hK => ?_
                    simp (disch := omega) [wrap64, List.getElem?_eq_getElem, toNat_pred, cI, DtRule.cells]
                    repeat' first | (exfalso; omega) | (refine CKd_v (am2s_cons am2_g (am2s_cons am2_g (am2s_cons am2_g am2s_nil))) (l1In _ _ _) rfl ?_; simp (disch := omega) [wrap64, List.getElem?_eq_getElem, toNat_pred, cI, DtRule.cells]) | (refine ⟨fun _ => ?_, fun _ => ?_⟩) | (refine ⟨by omega, ?_⟩) | (intro _)
                    all_goals (refine hK _ ?_; clear hK K)
                    all_goals
                      refine AW_cond rfl (fun hc3 => ?_) (fun hc3 => ?_)
                      · try simp at hc3
                        all_goals
                          refine AW_r rfl rfl fun K hK => ?_
                          simp (disch := omega) [wrap64, List.getElem?_eq_getElem, toNat_pred, cI, DtRule.cells]
                          repeat' first | (exfalso; omega) | (refine ⟨fun _ => ?_, fun _ => ?_⟩) | (refine ⟨by omega, ?_⟩) | (intro _)
                          all_goals (refine hK _ ?_; clear hK K)
                          all_goals
                            refine AW_ret (end_s ?_)
                            simp (disch := omega) [wrap64, List.getElem?_eq_getElem, toNat_pred, cI, DtRule.cells]
                            all_goals first | (refine decB_f fun h => ?_; grind [KOk, KIn]) | (refine decB_t ?_; grind [KOk, KIn])
                      · try simp at hc3
                        all_goals
                          refine AW_skip ?_
                          refine AW_id ?_
                          refine AW_re rfl rfl fun K hK => ?_
                          simp (disch := omega) [wrap64, List.getElem?_eq_getElem, toNat_pred, cI, DtRule.cells]
                          repeat' first | (exfalso; omega) | (refine ⟨fun _ => ?_, fun _ => ?_⟩) | (refine ⟨by omega, ?_⟩) | (intro _)
                          all_goals (refine hK _ ?_; clear hK K)
                          all_goals
                            refine ⟨_, LeS.ko [(0, .sl 1 (l.map cI)), (5, (.g (.int .i64 (((i + 1) : Nat)))))] [] (by simp [KpE, upd_app, lkE_app, lk_cons]; try rfl) (by simp [KpO, upd_app, lk_cons, lk_nil, formOb_nn]; try rfl) (by rfl) (by simp) (by rfl), _, ?_, i + 1, rfl, ?_, rfl⟩
                            · omega
                            · refine ⟨by omega, h1, h2, h3, h4, ?_⟩; grind
                · try simp at hc2
                  all_goals
                    refine AW_exit ?_
                    refine AW_id ?_
                    refine AW_r rfl rfl fun K hK => ?_
                    simp (disch := omega) [wrap64, List.getElem?_eq_getElem, toNat_pred, cI, DtRule.cells]
                    repeat' first | (exfalso; omega) | (refine ⟨fun _ => ?_, fun _ => ?_⟩) | (refine ⟨by omega, ?_⟩) | (intro _)
                    all_goals (refine hK _ ?_; clear hK K)
                    all_goals
                      refine AW_ret (end_s ?_)
                      simp (disch := omega) [wrap64, List.getElem?_eq_getElem, toNat_pred, cI, DtRule.cells]
                      all_goals first | (refine decB_f fun h => ?_; grind [KOk, KIn]) | (refine decB_t ?_; grind [KOk, KIn])
theorem implKeepOk (l : List Int) (r : DtRule) (hl : l.length ≤ 1048576) : PCall Try.prog 23 [.sl 1 (l.map cI), .agg (DtRule.cells r)] (.g (.bool (decB (KOk l r)))) := by
  refine gcall_of_walk Try.func23 (by rfl) (by rfl) (by rw [Try.ntmps23]; exact Nat.le_of_ble_eq_true rfl) rfl (by decide) ?_
  rw [Try.ntmps23]
  refine AW_k [(0, _), (1, _)] ⟨rfl, rfl, trivial⟩ ?_
  refine AW_r rfl rfl fun K hK => ?_
  simp (disch := omega) [wrap64, List.getElem?_eq_getElem, toNat_pred, cI, DtRule.cells]
  repeat' first | (exfalso; omega) | (refine ⟨fun _ => ?_, fun _ => ?_⟩) | (refine ⟨by omega, ?_⟩) | (intro _)
  all_goals (refine hK _ ?_; clear hK K)
  all_goals
    refine AW_seq ?_
    refine AW_r rfl rfl fun K hK => ?_
    simp (disch := omega) [wrap64, List.getElem?_eq_getElem, toNat_pred, cI, DtRule.cells]
    repeat' first | (exfalso; omega) | (refine ⟨fun _ => ?_, fun _ => ?_⟩) | (refine ⟨by omega, ?_⟩) | (intro _)
    all_goals (refine hK _ ?_; clear hK K)
    all_goals
      refine AW_block ?_
      refine AW_loopS (fun mM sS => ∃ (i : Nat), mM = l.length - i ∧ (i ≤ l.length ∧ ∀ (j : Nat) t, j < i → l[j]? = some t → 0 ≤ t ∧ t ≤ 100000 ∧ ∀ p, 0 < j → l[j - 1]? = some p → p < t) ∧ sS = { env := lkE [(0, .sl 1 (l.map cI)), (3, .ptr 64 0), (7, .sl 1 (l.map cI)), (8, (.g (.int .i64 ((l.length : Nat))))), (9, (.g (.int .i64 ((i : Nat)))))], ob := lk [(64, .cells (DtRule.cells r))] }) ?_ ?_
      · refine ⟨_, LeS.ko [(0, .sl 1 (l.map cI)), (3, .ptr 64 0), (7, .sl 1 (l.map cI)), (8, (.g (.int .i64 ((l.length : Nat))))), (9, (.g (.int .i64 (((0) : Nat)))))] [(64, .cells (DtRule.cells r))] (by simp [KpE, upd_app, lkE_app, lk_cons]; try rfl) (by simp [KpO, upd_app, lk_cons, lk_nil, formOb_nn]; try rfl) (by rfl) (by simp) (by rfl), _, 0, rfl, ?_, rfl⟩
        · simp
      · rintro mM sS ⟨i, rfl, ⟨hi, hpre⟩, rfl⟩
        refine AW_r rfl rfl fun K hK => ?_
        simp (disch := omega) [wrap64, List.getElem?_eq_getElem, toNat_pred, cI, DtRule.cells]
        repeat' first | (exfalso; omega) | (refine ⟨fun _ => ?_, fun _ => ?_⟩) | (refine ⟨by omega, ?_⟩) | (intro _)
        all_goals (refine hK _ ?_; clear hK K)
        all_goals
          refine AW_seq ?_
          refine AW_cond rfl (fun hc4 => ?_) (fun hc4 => ?_)
          · try simp at hc4
            all_goals
              have hg : l[i]? = some (l[i]) := List.getElem?_eq_getElem (by omega)
              refine AW_skip ?_
              refine AW_id ?_
              refine AW_seq ?_
              refine AW_block ?_
              refine AW_r rfl rfl fun K hK => ?_
              simp (disch := omega) [wrap64, List.getElem?_eq_getElem, toNat_pred, cI, DtRule.cells]
              repeat' first | (exfalso; omega) | (refine ⟨fun _ => ?_, fun _ => ?_⟩) | (refine ⟨by omega, ?_⟩) | (intro _)
              all_goals (refine hK _ ?_; clear hK K)
              all_goals
                refine AW_r rfl rfl fun K hK => ?_
                simp (disch := omega) [wrap64, List.getElem?_eq_getElem, toNat_pred, cI, DtRule.cells]
                repeat' first | (exfalso; omega) | (refine CKd_v (am2s_cons am2_g (am2s_cons am2_g (am2s_cons am2_g am2s_nil))) (within _ _ _) rfl ?_; simp (disch := omega) [wrap64, List.getElem?_eq_getElem, toNat_pred, cI, DtRule.cells]) | (refine ⟨fun _ => ?_, fun _ => ?_⟩) | (refine ⟨by omega, ?_⟩) | (intro _)
                all_goals (refine hK _ ?_; clear hK K)
                all_goals
                  refine AW_cond rfl (fun hc5 => ?_) (fun hc5 => ?_)
                  · try simp at hc5
                    all_goals
                      refine AW_r rfl rfl fun K hK => ?_
                      simp (disch := omega) [wrap64, List.getElem?_eq_getElem, toNat_pred, cI, DtRule.cells]
                      repeat' first | (exfalso; omega) | (refine ⟨fun _ => ?_, fun _ => ?_⟩) | (refine ⟨by omega, ?_⟩) | (intro _)
                      all_goals (refine hK _ ?_; clear hK K)
                      all_goals
                        refine AW_ret (end_s ?_)
                        simp (disch := omega) [wrap64, List.getElem?_eq_getElem, toNat_pred, cI, DtRule.cells]
                        all_goals first | (refine decB_f fun h => ?_; grind [KOk, KIn]) | (refine decB_t ?_; grind [KOk, KIn]) | (refine decB_iff ?_; simp only [Bool.and_eq_true, decide_eq_true_eq]; grind [KOk, KIn])
                  · try simp at hc5
                    all_goals
                      refine AW_skip ?_
                      refine AW_id ?_
                      refine AW_re rfl rfl fun K hK => ?_
                      simp (disch := omega) [wrap64, List.getElem?_eq_getElem, toNat_pred, cI, DtRule.cells]
                      repeat' first | (exfalso; omega) | (refine ⟨fun _ => ?_, fun _ => ?_⟩) | (refine ⟨by omega, ?_⟩) | (intro _)
                      all_goals (refine hK _ ?_; clear hK K)
                      all_goals
                        refine ⟨_, LeS.ko [(0, .sl 1 (l.map cI)), (3, .ptr 64 0), (7, .sl 1 (l.map cI)), (8, (.g (.int .i64 ((l.length : Nat))))), (9, (.g (.int .i64 (((i + 1) : Nat)))))] [(64, .cells (DtRule.cells r))] (by simp [KpE, upd_app, lkE_app, lk_cons]; try rfl) (by simp [KpO, upd_app, lk_cons, lk_nil, formOb_nn]; try rfl) (by rfl) (by simp) (by rfl), _, ?_, i + 1, rfl, ?_, rfl⟩
                        · omega
                        · refine ⟨by omega, ?_⟩; grind
          · try simp at hc4
            all_goals
              refine AW_exit ?_
              refine AW_id ?_
              refine AW_r rfl rfl fun K hK => ?_
              simp (disch := omega) [wrap64, List.getElem?_eq_getElem, toNat_pred, cI, DtRule.cells]
              repeat' first | (exfalso; omega) | (refine CKd_v (am2s_cons am2_g (am2s_cons am2_g (am2s_cons am2_g am2s_nil))) (within _ _ _) rfl ?_; simp (disch := omega) [wrap64, List.getElem?_eq_getElem, toNat_pred, cI, DtRule.cells]) | (refine ⟨fun _ => ?_, fun _ => ?_⟩) | (refine ⟨by omega, ?_⟩) | (intro _)
              all_goals (refine hK _ ?_; clear hK K)
              all_goals
                refine AW_ret (end_s ?_)
                simp (disch := omega) [wrap64, List.getElem?_eq_getElem, toNat_pred, cI, DtRule.cells]
                all_goals first | (refine decB_f fun h => ?_; grind [KOk, KIn]) | (refine decB_t ?_; grind [KOk, KIn]) | (refine decB_iff ?_; simp only [Bool.and_eq_true, decide_eq_true_eq]; grind [KOk, KIn])
def kb (n : Int) (r : DtRule) (days ofd : Int) : Bool := decide (n ≤ r.fLast) || (decide (days ≤ r.fDays) && decide (ofd ≤ r.fPerDay))
def kp (l : List Int) (r : DtRule) : Nat → Int → Int → Int → List Bool → List Bool
  | 0, _, _, _, out => out
  | m + 1, day, days, ofd, out =>
    if (l.getD m 0) / 24 = day then kp l r m day days (ofd + 1) (out.set m (kb (l.length - m) r days (ofd + 1)))
    else kp l r m ((l.getD m 0) / 24) (days + 1) 1 (out.set m (kb (l.length - m) r (days + 1) 1))
noncomputable def keepL (l : List Int) (r : DtRule) : List Bool := bif decB (KOk l r) then kp l r l.length (-1) 0 0 (List.replicate l.length false) else []
def KI (l : List Int) (r : DtRule) (m : Nat) (day days ofd : Int) (out : List Bool) : Prop := m ≤ l.length ∧ out.length = l.length ∧ (0 ≤ days ∧ days ≤ l.length - m) ∧ (0 ≤ ofd ∧ ofd ≤ l.length - m) ∧ (-1 ≤ day ∧ day ≤ 100000) ∧ kp l r m day days ofd out = kp l r l.length (-1) 0 0 (List.replicate l.length false)
theorem KI_ne {l : List Int} {r : DtRule} {m : Nat} {day days ofd : Int} {out : List Bool} (h : KI l r m day days ofd out) (hm : 0 < m) (hml : m - 1 < l.length) (hb : 0 ≤ l[m - 1] ∧ l[m - 1] ≤ 100000) (hd : ¬ l[m - 1] / 24 = day) :
    KI l r (m - 1) (l[m - 1] / 24) (days + 1) 1 (out.set (m - 1) (kb (l.length - ((m : Int) - 1)) r (days + 1) 1)) := by
  obtain ⟨h1, h2, h3, h4, h5, h6⟩ := h
  refine ⟨by omega, by simp [h2], by omega, by omega, by omega, ?_⟩
  rw [← h6]
  obtain ⟨m, rfl⟩ : ∃ n, m = n + 1 := ⟨m - 1, by omega⟩
  simp only [Nat.add_sub_cancel] at hd hml ⊢
  conv => rhs; unfold kp
  have : l.getD m 0 = l[m] := by simp [List.getD, hml]
  rw [this, if_neg hd]
  congr 3
  omega
theorem KI_eq {l : List Int} {r : DtRule} {m : Nat} {day days ofd : Int} {out : List Bool} (h : KI l r m day days ofd out) (hm : 0 < m) (hml : m - 1 < l.length) (hb : 0 ≤ l[m - 1] ∧ l[m - 1] ≤ 100000) (hd : l[m - 1] / 24 = day) :
    KI l r (m - 1) day days (ofd + 1) (out.set (m - 1) (kb (l.length - ((m : Int) - 1)) r days (ofd + 1))) := by
  obtain ⟨h1, h2, h3, h4, h5, h6⟩ := h
  refine ⟨by omega, by simp [h2], by omega, by omega, by omega, ?_⟩
  rw [← h6]
  obtain ⟨m, rfl⟩ : ∃ n, m = n + 1 := ⟨m - 1, by omega⟩
  simp only [Nat.add_sub_cancel] at hd hml ⊢
  conv => rhs; unfold kp
  have : l.getD m 0 = l[m] := by simp [List.getD, hml]
  rw [this, if_pos hd]
  congr 3
  omega
end Go.Proofs.Ytmcekkllkfccjaa.Vs
