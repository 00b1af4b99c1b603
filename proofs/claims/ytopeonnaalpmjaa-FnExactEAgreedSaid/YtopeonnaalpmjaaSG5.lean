import Derived.Test.YtopeonnaalpmjaaSG4
import Derived.Test.YtopeonnaalpmjaaVsZK
open Go Go.Proofs Go.Proofs.Ytopeonnaalpmjaa.Vs
namespace Go.Proofs.Ytopeonnaalpmjaa.Vs
set_option linter.unusedVariables false
set_option linter.unusedSimpArgs false
set_option linter.unusedSectionVars false
set_option linter.unnecessarySimpa false
set_option linter.all false
set_option linter.unusedSimpArgs false
set_option linter.unusedVariables false
set_option maxRecDepth 100000
def AgreeQ (p q : DtInst) : Prop := p.fId = q.fId → SameI p q
theorem agreed_iff (x : DtENet) : AgreedP x ↔ NetP x ∧ PairsP AgreeQ (commL x.fNodes) := by
  unfold AgreedP PairsP AgreeQ
  constructor
  · rintro ⟨h1, h2⟩
    exact ⟨h1, fun i k p q _ hp hq => h2 p q (List.mem_of_getElem? hp) (List.mem_of_getElem? hq)⟩
  · rintro ⟨h1, h2⟩
    refine ⟨h1, fun p q hp hq he => ?_⟩
    obtain ⟨i, hi⟩ := List.getElem?_of_mem hp
    obtain ⟨j, hj⟩ := List.getElem?_of_mem hq
    rcases Nat.lt_trichotomy i j with hlt | rfl | hlt
    · have := h2 j i q p hlt hj hi he.symm
      exact ⟨this.1.symm, this.2.1.symm, this.2.2.symm⟩
    · rw [hi] at hj; cases hj; exact ⟨rfl, rfl, rfl⟩
    · exact h2 i j p q hlt hi hj he
theorem agreed_iff2 (x : DtENet) (hn : NetP x) : AgreedP x ↔ ∀ (a b : Nat) m n p, b < a → x.fNodes[a]? = some m → x.fNodes[b]? = some n → p ∈ m.fInsts → p.fStatus = 3 → (instAt n.fInsts p.fId).fStatus = 3 → SameI p (instAt n.fInsts p.fId) := by
  have hI : ∀ (a : Nat) n, x.fNodes[a]? = some n → InstsP n.fInsts := fun a n h => (hn.2.2.1 a n h).1.2.2.2.2.1
  constructor
  · intro h a b m n p hba hm hnn hp h3 h4
    rcases instAt_or n.fInsts p.fId with hh | hh
    · exact h.2 p _ (mem_commL.2 ⟨a, m, hm, hp, h3⟩) (mem_commL.2 ⟨b, n, hnn, hh.1, h4⟩) hh.2.symm
    · rw [hh] at h4; cases h4
  · intro h
    refine ⟨hn, fun p q hp hq he => ?_⟩
    obtain ⟨a, m, ha, hpm, hp3⟩ := mem_commL.1 hp
    obtain ⟨b, n, hb, hqn, hq3⟩ := mem_commL.1 hq
    rcases Nat.lt_trichotomy a b with hlt | rfl | hlt
    · have e := instAt_mem (hI a m ha) hpm
      rw [he] at e
      have := h b a n m q hlt hb ha hqn hq3 (by rw [e]; exact hp3)
      rw [e] at this
      exact ⟨this.1.symm, this.2.1.symm, this.2.2.symm⟩
    · rw [ha] at hb; cases hb
      have := insts_inj (hI a m ha) hpm hqn he
      subst this; exact ⟨rfl, rfl, rfl⟩
    · have e := instAt_mem (hI b n hb) hqn
      rw [← he] at e
      have := h a b m n p hlt ha hb hpm hp3 (by rw [e]; exact hq3)
      rwa [e] at this
theorem implEAgreed (x : DtENet) (hs : DtENet.sz x ≤ 1048576) : PCall Try.prog 18 [.agg (DtENet.cells x)] (.g (.bool (decB (AgreedP x)))) := by
  have ⟨hl1, hl2⟩ := commSm x hs
  have hL := propext (agreed_iff x)
  obtain ⟨l, hl⟩ : ∃ l, commL x.fNodes = l := ⟨_, rfl⟩
  rw [hl] at hl1 hl2 hL
  have h14 := committed x hs
  rw [hl] at h14
  refine gcall_of_walk Try.func18 (by rfl) (by rfl) (by rw [Try.ntmps18]; exact Nat.le_of_ble_eq_true rfl) rfl (by decide) ?_
  rw [Try.ntmps18]
  refine AW_k [(0, _)] ⟨rfl, trivial⟩ ?_
  refine AW_r rfl rfl fun K hK => ?_
  simp (disch := omega) [wrap64, List.getElem?_eq_getElem, toNat_pred, DtENet.cells, DtENode.cells, DtInst.cells, DtId.cells, e2_id, decB_true, decB_false]
  repeat' first | (exfalso; omega) | (refine ⟨fun _ => ?_, fun _ => ?_⟩) | (refine ⟨by omega, ?_⟩) | (intro _)
  all_goals (refine hK _ ?_; clear hK K)
  all_goals
    refine AW_seq ?_
    refine AW_r rfl rfl fun K hK => ?_
    simp (disch := omega) [wrap64, List.getElem?_eq_getElem, toNat_pred, DtENet.cells, DtENode.cells, DtInst.cells, DtId.cells, e2_id, decB_true, decB_false]
    repeat' first | (exfalso; omega) | (refine CKd_v (am2s_cons (am2_agg rfl) am2s_nil) (implENetOk _ (by assumption)) rfl ?_; simp (disch := omega) [wrap64, List.getElem?_eq_getElem, toNat_pred, DtENet.cells, DtENode.cells, DtInst.cells, DtId.cells, e2_id, decB_true, decB_false]) | (refine ⟨fun _ => ?_, fun _ => ?_⟩) | (refine ⟨by omega, ?_⟩) | (intro _)
    all_goals (refine hK _ ?_; clear hK K)
    all_goals
      refine AW_cond rfl (fun hc1 => ?_) (fun hc1 => ?_)
      · try simp [decB_true, decB_false, eqB_true, eqB_false, cmpI_lt, cmpI_ge] at hc1
        all_goals
          refine AW_r rfl rfl fun K hK => ?_
          simp (disch := omega) [wrap64, List.getElem?_eq_getElem, toNat_pred, DtENet.cells, DtENode.cells, DtInst.cells, DtId.cells, e2_id, decB_true, decB_false]
          repeat' first | (exfalso; omega) | (refine ⟨fun _ => ?_, fun _ => ?_⟩) | (refine ⟨by omega, ?_⟩) | (intro _)
          all_goals (refine hK _ ?_; clear hK K)
          all_goals
            refine AW_ret (end_s ?_)
            simp (disch := omega) [wrap64, List.getElem?_eq_getElem, toNat_pred, DtENet.cells, DtENode.cells, DtInst.cells, DtId.cells, e2_id, decB_true, decB_false]
            all_goals first | (rw [hL]; intro h; have hh := h.2 i k _ _ (by omega) hg hg2; clear hpre hpre2 hl2; grind [AgreeQ, SameI, eqB_true]; done) | (rw [hL]; grind; done) | (refine decB_f fun h => ?_; grind [AgreeQ, PairsP]) | (refine decB_t ?_; grind)
      · try simp [decB_true, decB_false, eqB_true, eqB_false, cmpI_lt, cmpI_ge] at hc1
        all_goals
          refine AW_skip ?_
          refine AW_id ?_
          refine AW_r rfl rfl fun K hK => ?_
          simp (disch := omega) [wrap64, List.getElem?_eq_getElem, toNat_pred, DtENet.cells, DtENode.cells, DtInst.cells, DtId.cells, e2_id, decB_true, decB_false]
          repeat' first | (exfalso; omega) | (refine CKd_v (am2s_cons (am2_agg rfl) am2s_nil) (h14) rfl ?_; simp (disch := omega) [wrap64, List.getElem?_eq_getElem, toNat_pred, DtENet.cells, DtENode.cells, DtInst.cells, DtId.cells, e2_id, decB_true, decB_false]) | (refine ⟨fun _ => ?_, fun _ => ?_⟩) | (refine ⟨by omega, ?_⟩) | (intro _)
          all_goals (refine hK _ ?_; clear hK K)
          all_goals
            refine AW_seq ?_
            refine AW_r rfl rfl fun K hK => ?_
            simp (disch := omega) [wrap64, List.getElem?_eq_getElem, toNat_pred, DtENet.cells, DtENode.cells, DtInst.cells, DtId.cells, e2_id, decB_true, decB_false]
            repeat' first | (exfalso; omega) | (refine ⟨fun _ => ?_, fun _ => ?_⟩) | (refine ⟨by omega, ?_⟩) | (intro _)
            all_goals (refine hK _ ?_; clear hK K)
            all_goals
              refine AW_block ?_
              refine AW_loopS (fun mM sS => ∃ (i : Nat), mM = l.length - i ∧ (i ≤ l.length ∧ ∀ (a b : Nat) p q, a < i → b < a → l[a]? = some p → l[b]? = some q → AgreeQ p q) ∧ sS = { env := lkE [(1, .ptr 32 0), (3, .sl 16 (l.map DtInst.cells)), (13, .sl 16 (l.map DtInst.cells)), (14, (.g (.int .i64 ((l.length : Nat))))), (15, (.g (.int .i64 ((i : Nat)))))], ob := lk [(32, .cells (DtENet.cells x))] }) ?_ ?_
              · refine ⟨_, LeS.ko [(1, .ptr 32 0), (3, .sl 16 (l.map DtInst.cells)), (13, .sl 16 (l.map DtInst.cells)), (14, (.g (.int .i64 ((l.length : Nat))))), (15, (.g (.int .i64 (((0) : Nat)))))] [(32, .cells (DtENet.cells x))] (by simp [KpE, upd_app, lkE_app, lk_cons, DtENet.cells, DtInst.cells]; try rfl) (by simp [KpO, upd_app, lk_cons, lk_nil, formOb_nn, DtENet.cells, DtInst.cells]; try rfl) (by rfl) (by simp) (by rfl), _, 0, rfl, ?_, rfl⟩
                · simp
              · rintro mM sS ⟨i, rfl, ⟨hi, hpre⟩, rfl⟩
                refine AW_r rfl rfl fun K hK => ?_
                simp (disch := omega) [wrap64, List.getElem?_eq_getElem, toNat_pred, DtENet.cells, DtENode.cells, DtInst.cells, DtId.cells, e2_id, decB_true, decB_false]
                repeat' first | (exfalso; omega) | (refine ⟨fun _ => ?_, fun _ => ?_⟩) | (refine ⟨by omega, ?_⟩) | (intro _)
                all_goals (refine hK _ ?_; clear hK K)
                all_goals
                  refine AW_seq ?_
                  refine AW_cond rfl (fun hc2 => ?_) (fun hc2 => ?_)
                  · try simp [decB_true, decB_false, eqB_true, eqB_false, cmpI_lt, cmpI_ge] at hc2
                    all_goals
                      have hg : l[i]? = some l[i] := List.getElem?_eq_getElem (by omega)
                      have hm1 := hl2 i (by omega)
                      refine AW_skip ?_
                      refine AW_id ?_
                      refine AW_seq ?_
                      refine AW_block ?_
                      refine AW_r rfl rfl fun K hK => ?_
                      simp (disch := omega) [wrap64, List.getElem?_eq_getElem, toNat_pred, DtENet.cells, DtENode.cells, DtInst.cells, DtId.cells, e2_id, decB_true, decB_false]
                      repeat' first | (exfalso; omega) | (refine ⟨fun _ => ?_, fun _ => ?_⟩) | (refine ⟨by omega, ?_⟩) | (intro _)
                      all_goals (refine hK _ ?_; clear hK K)
                      all_goals
                        refine AW_r rfl rfl fun K hK => ?_
                        simp (disch := omega) [wrap64, List.getElem?_eq_getElem, toNat_pred, DtENet.cells, DtENode.cells, DtInst.cells, DtId.cells, e2_id, decB_true, decB_false]
                        repeat' first | (exfalso; omega) | (refine ⟨fun _ => ?_, fun _ => ?_⟩) | (refine ⟨by omega, ?_⟩) | (intro _)
                        all_goals (refine hK _ ?_; clear hK K)
                        all_goals
                          refine AW_block ?_
                          refine AW_loopS (fun mM sS => ∃ (k : Nat), mM = i - k ∧ (k ≤ i ∧ ∀ (b : Nat) q, b < k → l[b]? = some q → AgreeQ l[i] q) ∧ sS = { env := lkE [(1, .ptr 32 0), (3, .sl 16 (l.map DtInst.cells)), (5, .ptr 96 0), (13, .sl 16 (l.map DtInst.cells)), (14, (.g (.int .i64 ((l.length : Nat))))), (15, (.g (.int .i64 ((i : Nat))))), (22, .sl 16 ((l.map DtInst.cells).take i)), (23, (.g (.int .i64 ((i : Nat))))), (24, (.g (.int .i64 ((k : Nat)))))], ob := lk [(32, .cells (DtENet.cells x)), (96, .cells (DtInst.cells l[i]))] }) ?_ ?_
                          · refine ⟨_, LeS.ko [(1, .ptr 32 0), (3, .sl 16 (l.map DtInst.cells)), (5, .ptr 96 0), (13, .sl 16 (l.map DtInst.cells)), (14, (.g (.int .i64 ((l.length : Nat))))), (15, (.g (.int .i64 ((i : Nat))))), (22, .sl 16 ((l.map DtInst.cells).take i)), (23, (.g (.int .i64 ((i : Nat))))), (24, (.g (.int .i64 (((0) : Nat)))))] [(32, .cells (DtENet.cells x)), (96, .cells (DtInst.cells l[i]))] (by simp [KpE, upd_app, lkE_app, lk_cons, DtENet.cells, DtInst.cells]; try rfl) (by simp [KpO, upd_app, lk_cons, lk_nil, formOb_nn, DtENet.cells, DtInst.cells]; try rfl) (by rfl) (by simp) (by rfl), _, 0, rfl, ?_, rfl⟩
                            · simp
                          · rintro mM sS ⟨k, rfl, ⟨hk, hpre2⟩, rfl⟩
                            refine AW_r rfl rfl fun K hK => ?_
                            simp (disch := omega) [wrap64, List.getElem?_eq_getElem, toNat_pred, DtENet.cells, DtENode.cells, DtInst.cells, DtId.cells, e2_id, decB_true, decB_false]
                            repeat' first | (exfalso; omega) | (refine ⟨fun _ => ?_, fun _ => ?_⟩) | (refine ⟨by omega, ?_⟩) | (intro _)
                            all_goals (refine hK _ ?_; clear hK K)
                            all_goals
                              refine AW_seq ?_
                              refine AW_cond rfl (fun hc3 => ?_) (fun hc3 => ?_)
                              · try simp [decB_true, decB_false, eqB_true, eqB_false, cmpI_lt, cmpI_ge] at hc3
                                all_goals
                                  have hg2 : l[k]? = some l[k] := List.getElem?_eq_getElem (by omega)
                                  have hm2 := hl2 k (by omega)
                                  have he := id_ext l[i].fId l[k].fId
                                  have hc1 := hm1.1
                                  have hc2 := hm1.2.1
                                  refine AW_skip ?_
                                  refine AW_id ?_
                                  refine AW_seq ?_
                                  refine AW_block ?_
                                  refine AW_r rfl rfl fun K hK => ?_
                                  simp (disch := omega) [wrap64, List.getElem?_eq_getElem, toNat_pred, DtENet.cells, DtENode.cells, DtInst.cells, DtId.cells, e2_id, decB_true, decB_false]
                                  repeat' first | (exfalso; omega) | (refine ⟨fun _ => ?_, fun _ => ?_⟩) | (refine ⟨by omega, ?_⟩) | (intro _)
                                  all_goals (refine hK _ ?_; clear hK K)
                                  all_goals
                                    refine AW_r rfl rfl fun K hK => ?_
                                    simp (disch := omega) [wrap64, List.getElem?_eq_getElem, toNat_pred, DtENet.cells, DtENode.cells, DtInst.cells, DtId.cells, e2_id, decB_true, decB_false]
                                    repeat' first | (exfalso; omega) | (refine CKd_v (am2s_cons (am2_agg rfl) (am2s_cons (am2_agg rfl) am2s_nil)) (implSameCmd _ _ (by assumption)) rfl ?_; simp (disch := omega) [wrap64, List.getElem?_eq_getElem, toNat_pred, DtENet.cells, DtENode.cells, DtInst.cells, DtId.cells, e2_id, decB_true, decB_false]) | (refine CKd_v (am2s_cons am2_sl (am2s_cons am2_sl am2s_nil)) (equalId _ _ (by assumption)) rfl ?_; simp (disch := omega) [wrap64, List.getElem?_eq_getElem, toNat_pred, DtENet.cells, DtENode.cells, DtInst.cells, DtId.cells, e2_id, decB_true, decB_false]) | (refine ⟨fun _ => ?_, fun _ => ?_⟩) | (refine ⟨by omega, ?_⟩) | (intro _)
                                    all_goals (refine hK _ ?_; clear hK K)
                                    all_goals
                                      refine AW_cond rfl (fun hc4 => ?_) (fun hc4 => ?_)
                                      · try simp [decB_true, decB_false, eqB_true, eqB_false, cmpI_lt, cmpI_ge] at hc4
                                        all_goals
                                          refine AW_r rfl rfl fun K hK => ?_
                                          simp (disch := omega) [wrap64, List.getElem?_eq_getElem, toNat_pred, DtENet.cells, DtENode.cells, DtInst.cells, DtId.cells, e2_id, decB_true, decB_false]
                                          repeat' first | (exfalso; omega) | (refine ⟨fun _ => ?_, fun _ => ?_⟩) | (refine ⟨by omega, ?_⟩) | (intro _)
                                          all_goals (refine hK _ ?_; clear hK K)
                                          all_goals
                                            refine AW_ret (end_s ?_)
                                            simp (disch := omega) [wrap64, List.getElem?_eq_getElem, toNat_pred, DtENet.cells, DtENode.cells, DtInst.cells, DtId.cells, e2_id, decB_true, decB_false]
                                            all_goals first | (rw [hL]; intro h; have hh := h.2 i k _ _ (by omega) hg hg2; clear hpre hpre2 hl2; grind [AgreeQ, SameI, eqB_true]; done) | (rw [hL]; grind; done) | (refine decB_f fun h => ?_; grind [AgreeQ, PairsP]) | (refine decB_t ?_; grind)
                                      · try simp [decB_true, decB_false, eqB_true, eqB_false, cmpI_lt, cmpI_ge] at hc4
                                        all_goals
                                          refine AW_skip ?_
                                          refine AW_id ?_
                                          refine AW_re rfl rfl fun K hK => ?_
                                          simp (disch := omega) [wrap64, List.getElem?_eq_getElem, toNat_pred, DtENet.cells, DtENode.cells, DtInst.cells, DtId.cells, e2_id, decB_true, decB_false]
                                          repeat' first | (exfalso; omega) | (refine ⟨fun _ => ?_, fun _ => ?_⟩) | (refine ⟨by omega, ?_⟩) | (intro _)
                                          all_goals (refine hK _ ?_; clear hK K)
                                          all_goals
                                            refine ⟨_, LeS.ko [(1, .ptr 32 0), (3, .sl 16 (l.map DtInst.cells)), (5, .ptr 96 0), (13, .sl 16 (l.map DtInst.cells)), (14, (.g (.int .i64 ((l.length : Nat))))), (15, (.g (.int .i64 ((i : Nat))))), (22, .sl 16 ((l.map DtInst.cells).take i)), (23, (.g (.int .i64 ((i : Nat))))), (24, (.g (.int .i64 (((k + 1) : Nat)))))] [(32, .cells (DtENet.cells x)), (96, .cells (DtInst.cells l[i]))] (by simp [KpE, upd_app, lkE_app, lk_cons, DtENet.cells, DtInst.cells]; try rfl) (by simp [KpO, upd_app, lk_cons, lk_nil, formOb_nn, DtENet.cells, DtInst.cells]; try rfl) (by rfl) (by simp) (by rfl), _, ?_, k + 1, rfl, ?_, rfl⟩
                                            · omega
                                            · refine ⟨by omega, fun b q hb hq => ?_⟩
                                              by_cases hbk : b = k
                                              · subst hbk; rw [hg2] at hq; cases hq; clear hpre hpre2 hL; grind [AgreeQ, SameI, eqB_true]
                                              · exact hpre2 b q (by omega) hq
                              · try simp [decB_true, decB_false, eqB_true, eqB_false, cmpI_lt, cmpI_ge] at hc3
                                all_goals
                                  have hall : ∀ (b : Nat) q, b < i → l[b]? = some q → AgreeQ l[i] q := fun b q hb hq => hpre2 b q (by omega) hq
                                  refine AW_exit ?_
                                  refine AW_id ?_
                                  refine AW_re rfl rfl fun K hK => ?_
                                  simp (disch := omega) [wrap64, List.getElem?_eq_getElem, toNat_pred, DtENet.cells, DtENode.cells, DtInst.cells, DtId.cells, e2_id, decB_true, decB_false]
                                  repeat' first | (exfalso; omega) | (refine ⟨fun _ => ?_, fun _ => ?_⟩) | (refine ⟨by omega, ?_⟩) | (intro _)
                                  all_goals (refine hK _ ?_; clear hK K)
                                  all_goals
                                    refine ⟨_, LeS.ko [(1, .ptr 32 0), (3, .sl 16 (l.map DtInst.cells)), (13, .sl 16 (l.map DtInst.cells)), (14, (.g (.int .i64 ((l.length : Nat))))), (15, (.g (.int .i64 (((i + 1) : Nat)))))] [(32, .cells (DtENet.cells x))] (by simp [KpE, upd_app, lkE_app, lk_cons, DtENet.cells, DtInst.cells]; try rfl) (by simp [KpO, upd_app, lk_cons, lk_nil, formOb_nn, DtENet.cells, DtInst.cells]; try rfl) (by rfl) (by simp) (by rfl), _, ?_, i + 1, rfl, ?_, rfl⟩
                                    · omega
                                    · refine ⟨by omega, fun a b u v ha hb hu hv => ?_⟩
                                      by_cases e : a = i
                                      · subst e; rw [hg] at hu; cases hu; exact hall b v hb hv
                                      · exact hpre a b u v (by omega) hb hu hv
                  · try simp [decB_true, decB_false, eqB_true, eqB_false, cmpI_lt, cmpI_ge] at hc2
                    all_goals
                      have hP : PairsP AgreeQ l := fun a b p q hb hp hq => hpre a b p q (by have := (List.getElem?_eq_some_iff.1 hp).1; omega) hb hp hq
                      refine AW_exit ?_
                      refine AW_id ?_
                      refine AW_r rfl rfl fun K hK => ?_
                      simp (disch := omega) [wrap64, List.getElem?_eq_getElem, toNat_pred, DtENet.cells, DtENode.cells, DtInst.cells, DtId.cells, e2_id, decB_true, decB_false]
                      repeat' first | (exfalso; omega) | (refine ⟨fun _ => ?_, fun _ => ?_⟩) | (refine ⟨by omega, ?_⟩) | (intro _)
                      all_goals (refine hK _ ?_; clear hK K)
                      all_goals
                        refine AW_ret (end_s ?_)
                        simp (disch := omega) [wrap64, List.getElem?_eq_getElem, toNat_pred, DtENet.cells, DtENode.cells, DtInst.cells, DtId.cells, e2_id, decB_true, decB_false]
                        all_goals first | (rw [hL]; intro h; have hh := h.2 i k _ _ (by omega) hg hg2; clear hpre hpre2 hl2; grind [AgreeQ, SameI, eqB_true]; done) | (rw [hL]; grind; done) | (refine decB_f fun h => ?_; grind [AgreeQ, PairsP]) | (refine decB_t ?_; grind)
theorem netSm (x : DtENet) (hs : DtENet.sz x ≤ 1048576) : ∀ a (h : a < x.fNodes.length), x.fNodes[a].fInsts.length ≤ 1048576 ∧ (∀ y ∈ x.fNodes[a].fInsts, InstSm y) ∧ ∀ id, InstSm (instAt x.fNodes[a].fInsts id) := by
  intro a h
  have h1 := netSz2 x hs a h
  have h2 : ∀ y ∈ x.fNodes[a].fInsts, InstSm y := by
    intro y hy
    have h3 := (nodeSz _ ((netSz x hs).2.2.1 a h)).1
    obtain ⟨j, hj⟩ := List.getElem?_of_mem hy
    have h4 := (instsSz _ h3).2 j (List.getElem?_eq_some_iff.1 hj).1
    rw [(List.getElem?_eq_some_iff.1 hj).2] at h4
    exact instSm _ h4
  refine ⟨h1, h2, fun id => ?_⟩
  unfold instAt
  cases hf : x.fNodes[a].fInsts.find? (fun x => eqB x.fId id) with
  | none => exact ⟨by simp [zeroInst, zeroCmd], by simp [zeroInst], by simp [zeroInst, zeroCmd, DtCmd.sz, szS, sumZ_nil]⟩
  | some y => exact h2 y (List.mem_of_find?_eq_some hf)
def AgreeN (n : DtENode) (p : DtInst) : Prop := p.fStatus = 3 → (instAt n.fInsts p.fId).fStatus = 3 → SameI p (instAt n.fInsts p.fId)
theorem specEAgreed (x : DtENet) (hs : DtENet.sz x ≤ 1048576) : PCall Try.prog 17 [.agg (DtENet.cells x)] (.g (.bool (decB (AgreedP x)))) := by
  have hl := netSm x hs
  have hN : AgreedP x → NetP x := fun h => h.1
  have hN3 : NetP x → x.fNodes.length = 3 := fun h => h.1
  have hL := agreed_iff2 x
  refine gcall_of_walk Try.func17 (by rfl) (by rfl) (by rw [Try.ntmps17]; exact Nat.le_of_ble_eq_true rfl) rfl (by decide) ?_
  rw [Try.ntmps17]
  refine AW_k [(0, _)] ⟨rfl, trivial⟩ ?_
  refine AW_r rfl rfl fun K hK => ?_
  simp (disch := omega) [wrap64, List.getElem?_eq_getElem, toNat_pred, DtENet.cells, DtENode.cells, DtInst.cells, DtId.cells, e2_id, decB_true, decB_false]
  repeat' first | (exfalso; omega) | (refine ⟨fun _ => ?_, fun _ => ?_⟩) | (refine ⟨by omega, ?_⟩) | (intro _)
  all_goals (refine hK _ ?_; clear hK K)
  all_goals
    refine AW_seq ?_
    refine AW_r rfl rfl fun K hK => ?_
    simp (disch := omega) [wrap64, List.getElem?_eq_getElem, toNat_pred, DtENet.cells, DtENode.cells, DtInst.cells, DtId.cells, e2_id, decB_true, decB_false]
    repeat' first | (exfalso; omega) | (refine CKd_v (am2s_cons (am2_agg rfl) am2s_nil) (specENetOk _ (by assumption)) rfl ?_; simp (disch := omega) [wrap64, List.getElem?_eq_getElem, toNat_pred, DtENet.cells, DtENode.cells, DtInst.cells, DtId.cells, e2_id, decB_true, decB_false]) | (refine ⟨fun _ => ?_, fun _ => ?_⟩) | (refine ⟨by omega, ?_⟩) | (intro _)
    all_goals (refine hK _ ?_; clear hK K)
    all_goals
      refine AW_cond rfl (fun hc5 => ?_) (fun hc5 => ?_)
      · try simp [decB_true, decB_false, eqB_true, eqB_false, cmpI_lt, cmpI_ge] at hc5
        all_goals
          refine AW_r rfl rfl fun K hK => ?_
          simp (disch := omega) [wrap64, List.getElem?_eq_getElem, toNat_pred, DtENet.cells, DtENode.cells, DtInst.cells, DtId.cells, e2_id, decB_true, decB_false]
          repeat' first | (exfalso; omega) | (refine ⟨fun _ => ?_, fun _ => ?_⟩) | (refine ⟨by omega, ?_⟩) | (intro _)
          all_goals (refine hK _ ?_; clear hK K)
          all_goals
            refine AW_ret (end_s ?_)
            simp (disch := omega) [wrap64, List.getElem?_eq_getElem, toNat_pred, DtENet.cells, DtENode.cells, DtInst.cells, DtId.cells, e2_id, decB_true, decB_false]
            all_goals first | assumption | (intro h; have hh := (hL (by assumption)).1 h a b _ _ _ (by omega) hg hg3 (List.mem_of_getElem? hg2); clear hpre hpre2 hpre3 hl hL; grind [AgreeN, SameI, eqB_true]; done) | (grind; done)
      · try simp [decB_true, decB_false, eqB_true, eqB_false, cmpI_lt, cmpI_ge] at hc5
        all_goals
          refine AW_skip ?_
          refine AW_id ?_
          refine AW_seq ?_
          refine AW_r rfl rfl fun K hK => ?_
          simp (disch := omega) [wrap64, List.getElem?_eq_getElem, toNat_pred, DtENet.cells, DtENode.cells, DtInst.cells, DtId.cells, e2_id, decB_true, decB_false]
          repeat' first | (exfalso; omega) | (refine ⟨fun _ => ?_, fun _ => ?_⟩) | (refine ⟨by omega, ?_⟩) | (intro _)
          all_goals (refine hK _ ?_; clear hK K)
          all_goals
            refine AW_block ?_
            refine AW_loopS (fun mM sS => ∃ (a : Nat), mM = 3 - a ∧ (a ≤ 3 ∧ ∀ (c b : Nat) m n p, c < a → b < c → x.fNodes[c]? = some m → x.fNodes[b]? = some n → p ∈ m.fInsts → AgreeN n p) ∧ sS = { env := lkE [(1, .ptr 32 0), (3, (.g (.int .i64 ((a : Nat)))))], ob := lk [(32, .cells (DtENet.cells x))] }) ?_ ?_
            · refine ⟨_, LeS.ko [(1, .ptr 32 0), (3, (.g (.int .i64 (((0) : Nat)))))] [(32, .cells (DtENet.cells x))] (by simp [KpE, upd_app, lkE_app, lk_cons, DtENet.cells]; try rfl) (by simp [KpO, upd_app, lk_cons, lk_nil, formOb_nn, DtENet.cells]; try rfl) (by rfl) (by simp) (by rfl), _, 0, rfl, ?_, rfl⟩
              · simp
            · rintro mM sS ⟨a, rfl, ⟨ha, hpre⟩, rfl⟩
              have hx3 : x.fNodes.length = 3 := hN3 (by assumption)
              refine AW_seq ?_
              refine AW_r rfl rfl fun K hK => ?_
              simp (disch := omega) [wrap64, List.getElem?_eq_getElem, toNat_pred, DtENet.cells, DtENode.cells, DtInst.cells, DtId.cells, e2_id, decB_true, decB_false]
              repeat' first | (exfalso; omega) | (refine ⟨fun _ => ?_, fun _ => ?_⟩) | (refine ⟨by omega, ?_⟩) | (intro _)
              all_goals (refine hK _ ?_; clear hK K)
              all_goals
                refine AW_cond rfl (fun hc6 => ?_) (fun hc6 => ?_)
                · try simp [decB_true, decB_false, eqB_true, eqB_false, cmpI_lt, cmpI_ge] at hc6
                  all_goals
                    have hg : x.fNodes[a]? = some x.fNodes[a] := List.getElem?_eq_getElem (by omega)
                    have hm1 := hl a (by omega)
                    refine AW_skip ?_
                    refine AW_id ?_
                    refine AW_seq ?_
                    refine AW_block ?_
                    refine AW_r rfl rfl fun K hK => ?_
                    simp (disch := omega) [wrap64, List.getElem?_eq_getElem, toNat_pred, DtENet.cells, DtENode.cells, DtInst.cells, DtId.cells, e2_id, decB_true, decB_false]
                    repeat' first | (exfalso; omega) | (refine ⟨fun _ => ?_, fun _ => ?_⟩) | (refine ⟨by omega, ?_⟩) | (intro _)
                    all_goals (refine hK _ ?_; clear hK K)
                    all_goals
                      refine AW_block ?_
                      refine AW_loopS (fun mM sS => ∃ (i : Nat), mM = (x.fNodes[a]).fInsts.length - i ∧ (i ≤ (x.fNodes[a]).fInsts.length ∧ ∀ (j b : Nat) n p, j < i → b < a → x.fNodes[b]? = some n → (x.fNodes[a]).fInsts[j]? = some p → AgreeN n p) ∧ sS = { env := lkE [(1, .ptr 32 0), (3, (.g (.int .i64 ((a : Nat))))), (4, (.g (.int .i64 ((i : Nat)))))], ob := lk [(32, .cells (DtENet.cells x))] }) ?_ ?_
                      · refine ⟨_, LeS.ko [(1, .ptr 32 0), (3, (.g (.int .i64 ((a : Nat))))), (4, (.g (.int .i64 (((0) : Nat)))))] [(32, .cells (DtENet.cells x))] (by simp [KpE, upd_app, lkE_app, lk_cons, DtENet.cells]; try rfl) (by simp [KpO, upd_app, lk_cons, lk_nil, formOb_nn, DtENet.cells]; try rfl) (by rfl) (by simp) (by rfl), _, 0, rfl, ?_, rfl⟩
                        · simp
                      · rintro mM sS ⟨i, rfl, ⟨hi, hpre2⟩, rfl⟩
                        refine AW_seq ?_
                        refine AW_r rfl rfl fun K hK => ?_
                        simp (disch := omega) [wrap64, List.getElem?_eq_getElem, toNat_pred, DtENet.cells, DtENode.cells, DtInst.cells, DtId.cells, e2_id, decB_true, decB_false]
                        repeat' first | (exfalso; omega) | (refine ⟨fun _ => ?_, fun _ => ?_⟩) | (refine ⟨by omega, ?_⟩) | (intro _)
                        all_goals (refine hK _ ?_; clear hK K)
                        all_goals
                          refine AW_cond rfl (fun hc7 => ?_) (fun hc7 => ?_)
                          · try simp [decB_true, decB_false, eqB_true, eqB_false, cmpI_lt, cmpI_ge] at hc7
                            all_goals
                              have hg2 : (x.fNodes[a]).fInsts[i]? = some (x.fNodes[a]).fInsts[i] := List.getElem?_eq_getElem (by omega)
                              have hm2 := hm1.2.1 _ (List.getElem_mem (n := i) (h := by omega))
                              refine AW_skip ?_
                              refine AW_id ?_
                              refine AW_seq ?_
                              refine AW_block ?_
                              refine AW_r rfl rfl fun K hK => ?_
                              simp (disch := omega) [wrap64, List.getElem?_eq_getElem, toNat_pred, DtENet.cells, DtENode.cells, DtInst.cells, DtId.cells, e2_id, decB_true, decB_false]
                              repeat' first | (exfalso; omega) | (refine ⟨fun _ => ?_, fun _ => ?_⟩) | (refine ⟨by omega, ?_⟩) | (intro _)
                              all_goals (refine hK _ ?_; clear hK K)
                              all_goals
                                refine AW_r rfl rfl fun K hK => ?_
                                simp (disch := omega) [wrap64, List.getElem?_eq_getElem, toNat_pred, DtENet.cells, DtENode.cells, DtInst.cells, DtId.cells, e2_id, decB_true, decB_false]
                                repeat' first | (exfalso; omega) | (refine ⟨fun _ => ?_, fun _ => ?_⟩) | (refine ⟨by omega, ?_⟩) | (intro _)
                                all_goals (refine hK _ ?_; clear hK K)
                                all_goals
                                  refine AW_block ?_
                                  refine AW_loopS (fun mM sS => ∃ (b : Nat), mM = a - b ∧ (b ≤ a ∧ ∀ (c : Nat) n, c < b → x.fNodes[c]? = some n → AgreeN n (x.fNodes[a]).fInsts[i]) ∧ sS = { env := lkE [(1, .ptr 32 0), (3, (.g (.int .i64 ((a : Nat))))), (4, (.g (.int .i64 ((i : Nat))))), (5, .ptr 96 0), (6, (.g (.int .i64 ((b : Nat)))))], ob := lk [(32, .cells (DtENet.cells x)), (96, .cells (DtInst.cells (x.fNodes[a]).fInsts[i]))] }) ?_ ?_
                                  · refine ⟨_, LeS.ko [(1, .ptr 32 0), (3, (.g (.int .i64 ((a : Nat))))), (4, (.g (.int .i64 ((i : Nat))))), (5, .ptr 96 0), (6, (.g (.int .i64 (((0) : Nat)))))] [(32, .cells (DtENet.cells x)), (96, .cells (DtInst.cells (x.fNodes[a]).fInsts[i]))] (by simp [KpE, upd_app, lkE_app, lk_cons, DtENet.cells, DtInst.cells]; try rfl) (by simp [KpO, upd_app, lk_cons, lk_nil, formOb_nn, DtENet.cells, DtInst.cells]; try rfl) (by rfl) (by simp) (by rfl), _, 0, rfl, ?_, rfl⟩
                                    · simp
                                  · rintro mM sS ⟨b, rfl, ⟨hb, hpre3⟩, rfl⟩
                                    refine AW_seq ?_
                                    refine AW_r rfl rfl fun K hK => ?_
                                    simp (disch := omega) [wrap64, List.getElem?_eq_getElem, toNat_pred, DtENet.cells, DtENode.cells, DtInst.cells, DtId.cells, e2_id, decB_true, decB_false]
                                    repeat' first | (exfalso; omega) | (refine ⟨fun _ => ?_, fun _ => ?_⟩) | (refine ⟨by omega, ?_⟩) | (intro _)
                                    all_goals (refine hK _ ?_; clear hK K)
                                    all_goals
                                      refine AW_cond rfl (fun hc8 => ?_) (fun hc8 => ?_)
                                      · try simp [decB_true, decB_false, eqB_true, eqB_false, cmpI_lt, cmpI_ge] at hc8
                                        all_goals
                                          have hg3 : x.fNodes[b]? = some x.fNodes[b] := List.getElem?_eq_getElem (by omega)
                                          have hm3 := hl b (by omega)
                                          have hk1 := hm3.1
                                          have hk2 := hm3.2.1
                                          have hk3 := hm2.1
                                          have hk4 := hm2.2.1
                                          refine AW_skip ?_
                                          refine AW_id ?_
                                          refine AW_seq ?_
                                          refine AW_block ?_
                                          refine AW_w (ns := [128]) 9 (by decide) rfl rfl rfl mix (by kernel_rfl) (by kernel_rfl) rfl fun K hK => ⟨by simp (disch := omega) [wrap64, List.getElem?_eq_getElem, toNat_pred, DtENet.cells, DtENode.cells, DtInst.cells, DtId.cells, e2_id, decB_true, decB_false], ?_⟩
                                          simp (disch := omega) [wrap64, List.getElem?_eq_getElem, toNat_pred, DtENet.cells, DtENode.cells, DtInst.cells, DtId.cells, e2_id, decB_true, decB_false]
                                          repeat' first | (exfalso; omega) | (refine CKd_v (am2s_cons am2_sl (am2s_cons (am2_agg rfl) am2s_nil)) (specInstAt _ _ (by assumption) (by assumption)) rfl ?_; simp (disch := omega) [wrap64, List.getElem?_eq_getElem, toNat_pred, DtENet.cells, DtENode.cells, DtInst.cells, DtId.cells, e2_id, decB_true, decB_false]) | (refine ⟨fun _ => ?_, fun _ => ?_⟩) | (refine ⟨by omega, ?_⟩) | (intro _)
                                          all_goals (refine hK _ ?_; clear hK K)
                                          all_goals
                                            refine AW_r rfl rfl fun K hK => ?_
                                            simp (disch := omega) [wrap64, List.getElem?_eq_getElem, toNat_pred, DtENet.cells, DtENode.cells, DtInst.cells, DtId.cells, e2_id, decB_true, decB_false]
                                            repeat' first | (exfalso; omega) | (refine CKd_v (am2s_cons (am2_agg rfl) (am2s_cons (am2_agg rfl) am2s_nil)) (specSameCmd _ _ (by assumption)) rfl ?_; simp (disch := omega) [wrap64, List.getElem?_eq_getElem, toNat_pred, DtENet.cells, DtENode.cells, DtInst.cells, DtId.cells, e2_id, decB_true, decB_false]) | (refine CKd_v (am2s_cons am2_sl (am2s_cons am2_sl am2s_nil)) (l9Alike _ _ (by assumption)) rfl ?_; simp (disch := omega) [wrap64, List.getElem?_eq_getElem, toNat_pred, DtENet.cells, DtENode.cells, DtInst.cells, DtId.cells, e2_id, decB_true, decB_false]) | (refine ⟨fun _ => ?_, fun _ => ?_⟩) | (refine ⟨by omega, ?_⟩) | (intro _)
                                            all_goals (refine hK _ ?_; clear hK K)
                                            all_goals
                                              refine AW_cond rfl (fun hc9 => ?_) (fun hc9 => ?_)
                                              · try simp [decB_true, decB_false, eqB_true, eqB_false, cmpI_lt, cmpI_ge] at hc9
                                                all_goals
                                                  refine AW_r rfl rfl fun K hK => ?_
                                                  simp (disch := omega) [wrap64, List.getElem?_eq_getElem, toNat_pred, DtENet.cells, DtENode.cells, DtInst.cells, DtId.cells, e2_id, decB_true, decB_false]
                                                  repeat' first | (exfalso; omega) | (refine ⟨fun _ => ?_, fun _ => ?_⟩) | (refine ⟨by omega, ?_⟩) | (intro _)
                                                  all_goals (refine hK _ ?_; clear hK K)
                                                  all_goals
                                                    refine AW_ret (end_s ?_)
                                                    simp (disch := omega) [wrap64, List.getElem?_eq_getElem, toNat_pred, DtENet.cells, DtENode.cells, DtInst.cells, DtId.cells, e2_id, decB_true, decB_false]
                                                    all_goals first | assumption | (intro h; have hh := (hL (by assumption)).1 h a b _ _ _ (by omega) hg hg3 (List.mem_of_getElem? hg2); clear hpre hpre2 hpre3 hl hL; grind [AgreeN, SameI, eqB_true]; done) | (grind; done)
                                              · try simp [decB_true, decB_false, eqB_true, eqB_false, cmpI_lt, cmpI_ge] at hc9
                                                all_goals
                                                  refine AW_skip ?_
                                                  refine AW_id ?_
                                                  refine AW_re rfl rfl fun K hK => ?_
                                                  simp (disch := omega) [wrap64, List.getElem?_eq_getElem, toNat_pred, DtENet.cells, DtENode.cells, DtInst.cells, DtId.cells, e2_id, decB_true, decB_false]
                                                  repeat' first | (exfalso; omega) | (refine ⟨fun _ => ?_, fun _ => ?_⟩) | (refine ⟨by omega, ?_⟩) | (intro _)
                                                  all_goals (refine hK _ ?_; clear hK K)
                                                  all_goals
                                                    refine ⟨_, LeS.ko [(1, .ptr 32 0), (3, (.g (.int .i64 ((a : Nat))))), (4, (.g (.int .i64 ((i : Nat))))), (5, .ptr 96 0), (6, (.g (.int .i64 (((b + 1) : Nat)))))] [(32, .cells (DtENet.cells x)), (96, .cells (DtInst.cells (x.fNodes[a]).fInsts[i]))] (by simp [KpE, upd_app, lkE_app, lk_cons, DtENet.cells, DtInst.cells]; try rfl) (by simp [KpO, upd_app, lk_cons, lk_nil, formOb_nn, DtENet.cells, DtInst.cells]; try rfl) (by rfl) (by simp) (by rfl), _, ?_, b + 1, rfl, ?_, rfl⟩
                                                    · omega
                                                    · refine ⟨by omega, fun c n hc hn => ?_⟩
                                                      by_cases e : c = b
                                                      · subst e; rw [hg3] at hn; cases hn; clear hpre hpre2 hpre3; grind [AgreeN, SameI, eqB_true]
                                                      · exact hpre3 c n (by omega) hn
                                      · try simp [decB_true, decB_false, eqB_true, eqB_false, cmpI_lt, cmpI_ge] at hc8
                                        all_goals
                                          have hall : ∀ (c : Nat) n, c < a → x.fNodes[c]? = some n → AgreeN n (x.fNodes[a]).fInsts[i] := fun c n hc hn => hpre3 c n (by omega) hn
                                          refine AW_exit ?_
                                          refine AW_id ?_
                                          refine AW_re rfl rfl fun K hK => ?_
                                          simp (disch := omega) [wrap64, List.getElem?_eq_getElem, toNat_pred, DtENet.cells, DtENode.cells, DtInst.cells, DtId.cells, e2_id, decB_true, decB_false]
                                          repeat' first | (exfalso; omega) | (refine ⟨fun _ => ?_, fun _ => ?_⟩) | (refine ⟨by omega, ?_⟩) | (intro _)
                                          all_goals (refine hK _ ?_; clear hK K)
                                          all_goals
                                            refine ⟨_, LeS.ko [(1, .ptr 32 0), (3, (.g (.int .i64 ((a : Nat))))), (4, (.g (.int .i64 (((i + 1) : Nat)))))] [(32, .cells (DtENet.cells x))] (by simp [KpE, upd_app, lkE_app, lk_cons, DtENet.cells]; try rfl) (by simp [KpO, upd_app, lk_cons, lk_nil, formOb_nn, DtENet.cells]; try rfl) (by rfl) (by simp) (by rfl), _, ?_, i + 1, rfl, ?_, rfl⟩
                                            · omega
                                            · refine ⟨by omega, fun j b n p hj hb hn hp => ?_⟩
                                              by_cases e : j = i
                                              · subst e; rw [hg2] at hp; cases hp; exact hall b n hb hn
                                              · exact hpre2 j b n p (by omega) hb hn hp
                          · try simp [decB_true, decB_false, eqB_true, eqB_false, cmpI_lt, cmpI_ge] at hc7
                            all_goals
                              have hall2 : ∀ (b : Nat) n p, b < a → x.fNodes[b]? = some n → p ∈ (x.fNodes[a]).fInsts → AgreeN n p := by
                                intro b n p hb hn hp
                                obtain ⟨j, hj⟩ := List.getElem?_of_mem hp
                                exact hpre2 j b n p (by have := (List.getElem?_eq_some_iff.1 hj).1; omega) hb hn hj
                              refine AW_exit ?_
                              refine AW_id ?_
                              refine AW_re rfl rfl fun K hK => ?_
                              simp (disch := omega) [wrap64, List.getElem?_eq_getElem, toNat_pred, DtENet.cells, DtENode.cells, DtInst.cells, DtId.cells, e2_id, decB_true, decB_false]
                              repeat' first | (exfalso; omega) | (refine ⟨fun _ => ?_, fun _ => ?_⟩) | (refine ⟨by omega, ?_⟩) | (intro _)
                              all_goals (refine hK _ ?_; clear hK K)
                              all_goals
                                refine ⟨_, LeS.ko [(1, .ptr 32 0), (3, (.g (.int .i64 (((a + 1) : Nat)))))] [(32, .cells (DtENet.cells x))] (by simp [KpE, upd_app, lkE_app, lk_cons, DtENet.cells]; try rfl) (by simp [KpO, upd_app, lk_cons, lk_nil, formOb_nn, DtENet.cells]; try rfl) (by rfl) (by simp) (by rfl), _, ?_, a + 1, rfl, ?_, rfl⟩
                                · omega
                                · refine ⟨by omega, fun c b m n p hc hb hm hn hp => ?_⟩
                                  by_cases e : c = a
                                  · subst e; rw [hg] at hm; cases hm; exact hall2 b n p hb hn hp
                                  · exact hpre c b m n p (by omega) hb hm hn hp
                · try simp [decB_true, decB_false, eqB_true, eqB_false, cmpI_lt, cmpI_ge] at hc6
                  all_goals
                    have hP : AgreedP x := (agreed_iff2 x (by assumption)).2 fun c b m n p hb hm hn hp => hpre c b m n p (by have := (List.getElem?_eq_some_iff.1 hm).1; omega) hb hm hn hp
                    refine AW_exit ?_
                    refine AW_id ?_
                    refine AW_r rfl rfl fun K hK => ?_
                    simp (disch := omega) [wrap64, List.getElem?_eq_getElem, toNat_pred, DtENet.cells, DtENode.cells, DtInst.cells, DtId.cells, e2_id, decB_true, decB_false]
                    repeat' first | (exfalso; omega) | (refine ⟨fun _ => ?_, fun _ => ?_⟩) | (refine ⟨by omega, ?_⟩) | (intro _)
                    all_goals (refine hK _ ?_; clear hK K)
                    all_goals
                      refine AW_ret (end_s ?_)
                      simp (disch := omega) [wrap64, List.getElem?_eq_getElem, toNat_pred, DtENet.cells, DtENode.cells, DtInst.cells, DtId.cells, e2_id, decB_true, decB_false]
                      all_goals first | assumption | (intro h; have hh := (hL (by assumption)).1 h a b _ _ _ (by omega) hg hg3 (List.mem_of_getElem? hg2); clear hpre hpre2 hpre3 hl hL; grind [AgreeN, SameI, eqB_true]; done) | (grind; done)
theorem lawEAgreed (u : DtENet) (hw : DtENet.wf u) : PCall Try.prog 5 [.agg (DtENet.cells u)] (.g (.bool (true))) := by
  have hq := DtENet.sz_nonneg u
  by_cases h : (1048576 : Int) - DtENet.sz u < 0
  · have e : szR 1048576 (DtENet.sz u) = -1 := by unfold szR; rw [if_pos h]
    refine gcall_of_walk Try.func5 (by rfl) (by rfl) (by rw [Try.ntmps5]; exact Nat.le_of_ble_eq_true rfl) rfl (by decide) ?_
    rw [Try.ntmps5]
    refine AW_k [(0, _)] ⟨rfl, trivial⟩ ?_
    refine AW_r rfl rfl fun K hK => ?_
    simp (disch := omega) [wrap64, List.getElem?_eq_getElem, toNat_pred, e, DtENet.cells]
    repeat' first | (exfalso; omega) | (refine ⟨fun _ => ?_, fun _ => ?_⟩) | (refine ⟨by omega, ?_⟩) | (intro _)
    all_goals (refine hK _ ?_; clear hK K)
    all_goals
      refine AW_r rfl rfl fun K hK => ?_
      simp (disch := omega) [wrap64, List.getElem?_eq_getElem, toNat_pred, e, DtENet.cells]
      repeat' first | (exfalso; omega) | (refine ⟨fun _ => ?_, fun _ => ?_⟩) | (refine ⟨by omega, ?_⟩) | (intro _)
      all_goals (refine hK _ ?_; clear hK K)
      all_goals
        refine AW_r rfl rfl fun K hK => ?_
        simp (disch := omega) [wrap64, List.getElem?_eq_getElem, toNat_pred, e, DtENet.cells]
        repeat' first | (exfalso; omega) | (refine CKd_v (am2s_cons (am2_agg rfl) (am2s_cons am2_g am2s_nil)) (szENet _ _ (by omega) hw) rfl ?_; simp (disch := omega) [wrap64, List.getElem?_eq_getElem, toNat_pred, e, DtENet.cells]) | (refine ⟨fun _ => ?_, fun _ => ?_⟩) | (refine ⟨by omega, ?_⟩) | (intro _)
        all_goals (refine hK _ ?_; clear hK K)
        all_goals
          refine AW_seq ?_
          refine AW_r rfl rfl fun K hK => ?_
          simp (disch := omega) [wrap64, List.getElem?_eq_getElem, toNat_pred, e, DtENet.cells]
          repeat' first | (exfalso; omega) | (refine ⟨fun _ => ?_, fun _ => ?_⟩) | (refine ⟨by omega, ?_⟩) | (intro _)
          all_goals (refine hK _ ?_; clear hK K)
          all_goals
            refine AW_cond rfl (fun hc10 => ?_) (fun hc10 => ?_)
            · try simp [decB_true, decB_false, eqB_true, eqB_false, cmpI_lt, cmpI_ge] at hc10
              all_goals
                refine AW_r rfl rfl fun K hK => ?_
                simp (disch := omega) [wrap64, List.getElem?_eq_getElem, toNat_pred, e, DtENet.cells]
                repeat' first | (exfalso; omega) | (refine ⟨fun _ => ?_, fun _ => ?_⟩) | (refine ⟨by omega, ?_⟩) | (intro _)
                all_goals (refine hK _ ?_; clear hK K)
                all_goals
                  refine AW_ret (end_s ?_)
                  simp (disch := omega) [wrap64, List.getElem?_eq_getElem, toNat_pred, e, DtENet.cells]
                  all_goals first | omega | (simp_all; done) | (simp [List.take_of_length_le]; done) | ((try simp_all); (try simp (disch := omega) only [wrap64, Int.tdiv_eq_ediv_of_nonneg, Int.tmod_eq_emod_of_nonneg, and_true, true_and]); done) | ((try simp_all); (try simp (disch := omega) only [wrap64, Int.tdiv_eq_ediv_of_nonneg, Int.tmod_eq_emod_of_nonneg, and_true, true_and] at *); omega)
            · try simp [decB_true, decB_false, eqB_true, eqB_false, cmpI_lt, cmpI_ge] at hc10
              all_goals
                refine AW_skip ?_
                refine AW_id ?_
                refine AW_r rfl rfl fun K hK => ?_
                simp (disch := omega) [wrap64, List.getElem?_eq_getElem, toNat_pred, e, DtENet.cells]
                repeat' first | (exfalso; omega) | (refine ⟨fun _ => ?_, fun _ => ?_⟩) | (refine ⟨by omega, ?_⟩) | (intro _)
                all_goals (refine hK _ ?_; clear hK K)
                all_goals
                  refine AW_r rfl rfl fun K hK => ?_
                  simp (disch := omega) [wrap64, List.getElem?_eq_getElem, toNat_pred, e, DtENet.cells]
                  repeat' first | (exfalso; omega) | (refine ⟨fun _ => ?_, fun _ => ?_⟩) | (refine ⟨by omega, ?_⟩) | (intro _)
                  all_goals (refine hK _ ?_; clear hK K)
                  all_goals
                    refine AW_r rfl rfl fun K hK => ?_
                    simp (disch := omega) [wrap64, List.getElem?_eq_getElem, toNat_pred, e, DtENet.cells]
                    repeat' first | (exfalso; omega) | (refine ⟨fun _ => ?_, fun _ => ?_⟩) | (refine ⟨by omega, ?_⟩) | (intro _)
                    all_goals (refine hK _ ?_; clear hK K)
                    all_goals
                      refine AW_seq ?_
                      refine AW_r rfl rfl fun K hK => ?_
                      simp (disch := omega) [wrap64, List.getElem?_eq_getElem, toNat_pred, e, DtENet.cells]
                      repeat' first | (exfalso; omega) | (refine ⟨fun _ => ?_, fun _ => ?_⟩) | (refine ⟨by omega, ?_⟩) | (intro _)
                      all_goals (refine hK _ ?_; clear hK K)
                      all_goals
                        refine AW_cond rfl (fun hc11 => ?_) (fun hc11 => ?_)
                        · try simp [decB_true, decB_false, eqB_true, eqB_false, cmpI_lt, cmpI_ge] at hc11
                          all_goals
                            refine AW_r rfl rfl fun K hK => ?_
                            simp (disch := omega) [wrap64, List.getElem?_eq_getElem, toNat_pred, e, DtENet.cells]
                            repeat' first | (exfalso; omega) | (refine ⟨fun _ => ?_, fun _ => ?_⟩) | (refine ⟨by omega, ?_⟩) | (intro _)
                            all_goals (refine hK _ ?_; clear hK K)
                            all_goals
                              refine AW_ret (end_s ?_)
                              simp (disch := omega) [wrap64, List.getElem?_eq_getElem, toNat_pred, e, DtENet.cells]
                              all_goals first | omega | (simp_all; done) | (simp [List.take_of_length_le]; done) | ((try simp_all); (try simp (disch := omega) only [wrap64, Int.tdiv_eq_ediv_of_nonneg, Int.tmod_eq_emod_of_nonneg, and_true, true_and]); done) | ((try simp_all); (try simp (disch := omega) only [wrap64, Int.tdiv_eq_ediv_of_nonneg, Int.tmod_eq_emod_of_nonneg, and_true, true_and] at *); omega)
                        · try simp [decB_true, decB_false, eqB_true, eqB_false, cmpI_lt, cmpI_ge] at hc11
                          all_goals
                            refine AW_skip ?_
                            refine AW_id ?_
                            refine AW_seq ?_
                            refine AW_q rfl mix (by kernel_rfl) rfl fun K hK => ?_
                            simp (disch := omega) [wrap64, List.getElem?_eq_getElem, toNat_pred, e, DtENet.cells]
                            repeat' first | (exfalso; omega) | (refine ⟨fun _ => ?_, fun _ => ?_⟩) | (refine ⟨by omega, ?_⟩) | (intro _)
                            all_goals (refine hK _ ?_; clear hK K)
                            all_goals
                              refine AW_cond rfl (fun hc12 => ?_) (fun hc12 => ?_)
                              · try simp [decB_true, decB_false, eqB_true, eqB_false, cmpI_lt, cmpI_ge] at hc12
                                all_goals
                                  refine AW_r rfl rfl fun K hK => ?_
                                  simp (disch := omega) [wrap64, List.getElem?_eq_getElem, toNat_pred, e, DtENet.cells]
                                  repeat' first | (exfalso; omega) | (refine ⟨fun _ => ?_, fun _ => ?_⟩) | (refine ⟨by omega, ?_⟩) | (intro _)
                                  all_goals (refine hK _ ?_; clear hK K)
                                  all_goals
                                    refine AW_ret (end_s ?_)
                                    simp (disch := omega) [wrap64, List.getElem?_eq_getElem, toNat_pred, e, DtENet.cells]
                                    all_goals first | omega | (simp_all; done) | (simp [List.take_of_length_le]; done) | ((try simp_all); (try simp (disch := omega) only [wrap64, Int.tdiv_eq_ediv_of_nonneg, Int.tmod_eq_emod_of_nonneg, and_true, true_and]); done) | ((try simp_all); (try simp (disch := omega) only [wrap64, Int.tdiv_eq_ediv_of_nonneg, Int.tmod_eq_emod_of_nonneg, and_true, true_and] at *); omega)
                              · try simp [decB_true, decB_false, eqB_true, eqB_false, cmpI_lt, cmpI_ge] at hc12
                                all_goals
                                  refine AW_skip ?_
                                  refine AW_id ?_
                                  refine AW_r rfl rfl fun K hK => ?_
                                  simp (disch := omega) [wrap64, List.getElem?_eq_getElem, toNat_pred, e, DtENet.cells]
                                  repeat' first | (exfalso; omega) | (refine ⟨fun _ => ?_, fun _ => ?_⟩) | (refine ⟨by omega, ?_⟩) | (intro _)
                                  all_goals (refine hK _ ?_; clear hK K)
                                  all_goals
                                    refine AW_ret (end_s ?_)
                                    simp (disch := omega) [wrap64, List.getElem?_eq_getElem, toNat_pred, e, DtENet.cells]
                                    all_goals first | omega | (simp_all; done) | (simp [List.take_of_length_le]; done) | ((try simp_all); (try simp (disch := omega) only [wrap64, Int.tdiv_eq_ediv_of_nonneg, Int.tmod_eq_emod_of_nonneg, and_true, true_and]); done) | ((try simp_all); (try simp (disch := omega) only [wrap64, Int.tdiv_eq_ediv_of_nonneg, Int.tmod_eq_emod_of_nonneg, and_true, true_and] at *); omega)
  · have e : szR 1048576 (DtENet.sz u) = 1048576 - DtENet.sz u := by unfold szR; rw [if_neg h]
    have e2 : (0 : Int) ≤ 1048576 - DtENet.sz u := by omega
    refine gcall_of_walk Try.func5 (by rfl) (by rfl) (by rw [Try.ntmps5]; exact Nat.le_of_ble_eq_true rfl) rfl (by decide) ?_
    rw [Try.ntmps5]
    refine AW_k [(0, _)] ⟨rfl, trivial⟩ ?_
    refine AW_r rfl rfl fun K hK => ?_
    simp (disch := omega) [wrap64, List.getElem?_eq_getElem, toNat_pred, e, e2, eqB_self, DtENet.cells]
    repeat' first | (exfalso; omega) | (refine ⟨fun _ => ?_, fun _ => ?_⟩) | (refine ⟨by omega, ?_⟩) | (intro _)
    all_goals (refine hK _ ?_; clear hK K)
    all_goals
      refine AW_r rfl rfl fun K hK => ?_
      simp (disch := omega) [wrap64, List.getElem?_eq_getElem, toNat_pred, e, e2, eqB_self, DtENet.cells]
      repeat' first | (exfalso; omega) | (refine ⟨fun _ => ?_, fun _ => ?_⟩) | (refine ⟨by omega, ?_⟩) | (intro _)
      all_goals (refine hK _ ?_; clear hK K)
      all_goals
        refine AW_r rfl rfl fun K hK => ?_
        simp (disch := omega) [wrap64, List.getElem?_eq_getElem, toNat_pred, e, e2, eqB_self, DtENet.cells]
        repeat' first | (exfalso; omega) | (refine CKd_v (am2s_cons (am2_agg rfl) (am2s_cons am2_g am2s_nil)) (szENet _ _ (by omega) hw) rfl ?_; simp (disch := omega) [wrap64, List.getElem?_eq_getElem, toNat_pred, e, e2, eqB_self, DtENet.cells]) | (refine ⟨fun _ => ?_, fun _ => ?_⟩) | (refine ⟨by omega, ?_⟩) | (intro _)
        all_goals (refine hK _ ?_; clear hK K)
        all_goals
          refine AW_seq ?_
          refine AW_r rfl rfl fun K hK => ?_
          simp (disch := omega) [wrap64, List.getElem?_eq_getElem, toNat_pred, e, e2, eqB_self, DtENet.cells]
          repeat' first | (exfalso; omega) | (refine ⟨fun _ => ?_, fun _ => ?_⟩) | (refine ⟨by omega, ?_⟩) | (intro _)
          all_goals (refine hK _ ?_; clear hK K)
          all_goals
            refine AW_cond rfl (fun hc13 => ?_) (fun hc13 => ?_)
            · try simp [decB_true, decB_false, eqB_true, eqB_false, cmpI_lt, cmpI_ge] at hc13
              all_goals
                refine AW_r rfl rfl fun K hK => ?_
                simp (disch := omega) [wrap64, List.getElem?_eq_getElem, toNat_pred, e, e2, eqB_self, DtENet.cells]
                repeat' first | (exfalso; omega) | (refine ⟨fun _ => ?_, fun _ => ?_⟩) | (refine ⟨by omega, ?_⟩) | (intro _)
                all_goals (refine hK _ ?_; clear hK K)
                all_goals
                  refine AW_ret (end_s ?_)
                  simp (disch := omega) [wrap64, List.getElem?_eq_getElem, toNat_pred, e, e2, eqB_self, DtENet.cells]
                  all_goals first | omega | (simp_all; done) | (simp [List.take_of_length_le]; done) | ((try simp_all); (try simp (disch := omega) only [wrap64, Int.tdiv_eq_ediv_of_nonneg, Int.tmod_eq_emod_of_nonneg, and_true, true_and]); done) | ((try simp_all); (try simp (disch := omega) only [wrap64, Int.tdiv_eq_ediv_of_nonneg, Int.tmod_eq_emod_of_nonneg, and_true, true_and] at *); omega)
            · try simp [decB_true, decB_false, eqB_true, eqB_false, cmpI_lt, cmpI_ge] at hc13
              all_goals
                refine AW_skip ?_
                refine AW_id ?_
                refine AW_r rfl rfl fun K hK => ?_
                simp (disch := omega) [wrap64, List.getElem?_eq_getElem, toNat_pred, e, e2, eqB_self, DtENet.cells]
                repeat' first | (exfalso; omega) | (refine CKd_v (am2s_cons (am2_agg rfl) am2s_nil) (toENet _ (by omega)) rfl ?_; simp (disch := omega) [wrap64, List.getElem?_eq_getElem, toNat_pred, e, e2, eqB_self, DtENet.cells]) | (refine CKd_v (am2s_cons (am2_agg rfl) am2s_nil) (specEAgreed _ (by omega)) rfl ?_; simp (disch := omega) [wrap64, List.getElem?_eq_getElem, toNat_pred, e, e2, eqB_self, DtENet.cells]) | (refine ⟨fun _ => ?_, fun _ => ?_⟩) | (refine ⟨by omega, ?_⟩) | (intro _)
                all_goals (refine hK _ ?_; clear hK K)
                all_goals
                  refine AW_r rfl rfl fun K hK => ?_
                  simp (disch := omega) [wrap64, List.getElem?_eq_getElem, toNat_pred, e, e2, eqB_self, DtENet.cells]
                  repeat' first | (exfalso; omega) | (refine CKd_v (am2s_cons (am2_agg rfl) am2s_nil) (toENet _ (by omega)) rfl ?_; simp (disch := omega) [wrap64, List.getElem?_eq_getElem, toNat_pred, e, e2, eqB_self, DtENet.cells]) | (refine ⟨fun _ => ?_, fun _ => ?_⟩) | (refine ⟨by omega, ?_⟩) | (intro _)
                  all_goals (refine hK _ ?_; clear hK K)
                  all_goals
                    refine AW_r rfl rfl fun K hK => ?_
                    simp (disch := omega) [wrap64, List.getElem?_eq_getElem, toNat_pred, e, e2, eqB_self, DtENet.cells]
                    repeat' first | (exfalso; omega) | (refine CKd_v (am2s_cons (am2_agg rfl) am2s_nil) (implEAgreed _ (by omega)) rfl ?_; simp (disch := omega) [wrap64, List.getElem?_eq_getElem, toNat_pred, e, e2, eqB_self, DtENet.cells]) | (refine ⟨fun _ => ?_, fun _ => ?_⟩) | (refine ⟨by omega, ?_⟩) | (intro _)
                    all_goals (refine hK _ ?_; clear hK K)
                    all_goals
                      refine AW_seq ?_
                      refine AW_r rfl rfl fun K hK => ?_
                      simp (disch := omega) [wrap64, List.getElem?_eq_getElem, toNat_pred, e, e2, eqB_self, DtENet.cells]
                      repeat' first | (exfalso; omega) | (refine ⟨fun _ => ?_, fun _ => ?_⟩) | (refine ⟨by omega, ?_⟩) | (intro _)
                      all_goals (refine hK _ ?_; clear hK K)
                      all_goals
                        refine AW_cond rfl (fun hc14 => ?_) (fun hc14 => ?_)
                        · try simp [decB_true, decB_false, eqB_true, eqB_false, cmpI_lt, cmpI_ge] at hc14
                          all_goals
                            refine AW_r rfl rfl fun K hK => ?_
                            simp (disch := omega) [wrap64, List.getElem?_eq_getElem, toNat_pred, e, e2, eqB_self, DtENet.cells]
                            repeat' first | (exfalso; omega) | (refine ⟨fun _ => ?_, fun _ => ?_⟩) | (refine ⟨by omega, ?_⟩) | (intro _)
                            all_goals (refine hK _ ?_; clear hK K)
                            all_goals
                              refine AW_ret (end_s ?_)
                              simp (disch := omega) [wrap64, List.getElem?_eq_getElem, toNat_pred, e, e2, eqB_self, DtENet.cells]
                              all_goals first | omega | (simp_all; done) | (simp [List.take_of_length_le]; done) | ((try simp_all); (try simp (disch := omega) only [wrap64, Int.tdiv_eq_ediv_of_nonneg, Int.tmod_eq_emod_of_nonneg, and_true, true_and]); done) | ((try simp_all); (try simp (disch := omega) only [wrap64, Int.tdiv_eq_ediv_of_nonneg, Int.tmod_eq_emod_of_nonneg, and_true, true_and] at *); omega)
                        · try simp [decB_true, decB_false, eqB_true, eqB_false, cmpI_lt, cmpI_ge] at hc14
                          all_goals
                            refine AW_skip ?_
                            refine AW_id ?_
                            refine AW_seq ?_
                            refine AW_q rfl mix (by kernel_rfl) rfl fun K hK => ?_
                            simp (disch := omega) [wrap64, List.getElem?_eq_getElem, toNat_pred, e, e2, eqB_self, DtENet.cells]
                            repeat' first | (exfalso; omega) | (refine CKd_v (am2s_cons (am2_agg rfl) am2s_nil) (toENet _ (by omega)) rfl ?_; simp (disch := omega) [wrap64, List.getElem?_eq_getElem, toNat_pred, e, e2, eqB_self, DtENet.cells]) | (refine CKd_v (am2s_cons (am2_agg rfl) (am2s_cons (am2_agg rfl) am2s_nil)) (eqENet _ _ (by omega)) rfl ?_; simp (disch := omega) [wrap64, List.getElem?_eq_getElem, toNat_pred, e, e2, eqB_self, DtENet.cells]) | (refine ⟨fun _ => ?_, fun _ => ?_⟩) | (refine ⟨by omega, ?_⟩) | (intro _)
                            all_goals (refine hK _ ?_; clear hK K)
                            all_goals
                              refine AW_cond rfl (fun hc15 => ?_) (fun hc15 => ?_)
                              · try simp [decB_true, decB_false, eqB_true, eqB_false, cmpI_lt, cmpI_ge] at hc15
                                all_goals
                                  refine AW_r rfl rfl fun K hK => ?_
                                  simp (disch := omega) [wrap64, List.getElem?_eq_getElem, toNat_pred, e, e2, eqB_self, DtENet.cells]
                                  repeat' first | (exfalso; omega) | (refine ⟨fun _ => ?_, fun _ => ?_⟩) | (refine ⟨by omega, ?_⟩) | (intro _)
                                  all_goals (refine hK _ ?_; clear hK K)
                                  all_goals
                                    refine AW_ret (end_s ?_)
                                    simp (disch := omega) [wrap64, List.getElem?_eq_getElem, toNat_pred, e, e2, eqB_self, DtENet.cells]
                                    all_goals first | omega | (simp_all; done) | (simp [List.take_of_length_le]; done) | ((try simp_all); (try simp (disch := omega) only [wrap64, Int.tdiv_eq_ediv_of_nonneg, Int.tmod_eq_emod_of_nonneg, and_true, true_and]); done) | ((try simp_all); (try simp (disch := omega) only [wrap64, Int.tdiv_eq_ediv_of_nonneg, Int.tmod_eq_emod_of_nonneg, and_true, true_and] at *); omega)
                              · try simp [decB_true, decB_false, eqB_true, eqB_false, cmpI_lt, cmpI_ge] at hc15
                                all_goals
                                  refine AW_skip ?_
                                  refine AW_id ?_
                                  refine AW_r rfl rfl fun K hK => ?_
                                  simp (disch := omega) [wrap64, List.getElem?_eq_getElem, toNat_pred, e, e2, eqB_self, DtENet.cells]
                                  repeat' first | (exfalso; omega) | (refine ⟨fun _ => ?_, fun _ => ?_⟩) | (refine ⟨by omega, ?_⟩) | (intro _)
                                  all_goals (refine hK _ ?_; clear hK K)
                                  all_goals
                                    refine AW_ret (end_s ?_)
                                    simp (disch := omega) [wrap64, List.getElem?_eq_getElem, toNat_pred, e, e2, eqB_self, DtENet.cells]
                                    all_goals first | omega | (simp_all; done) | (simp [List.take_of_length_le]; done) | ((try simp_all); (try simp (disch := omega) only [wrap64, Int.tdiv_eq_ediv_of_nonneg, Int.tmod_eq_emod_of_nonneg, and_true, true_and]); done) | ((try simp_all); (try simp (disch := omega) only [wrap64, Int.tdiv_eq_ediv_of_nonneg, Int.tmod_eq_emod_of_nonneg, and_true, true_and] at *); omega)
end Go.Proofs.Ytopeonnaalpmjaa.Vs
