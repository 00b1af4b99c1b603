import Derived.Test.YtpaccfeiaekacaaSM2
open Go Go.Proofs Go.Proofs.Ytpaccfeiaekacaa.Vs
namespace Go.Proofs.Ytpaccfeiaekacaa.Vs
set_option linter.unusedVariables false
set_option linter.unusedSimpArgs false
set_option linter.unusedSectionVars false
set_option linter.unnecessarySimpa false
set_option linter.all false
set_option linter.unusedSimpArgs false
set_option linter.unusedVariables false
set_option maxRecDepth 100000
/-- Decimal digits. -/
def dg (n : Nat) (out : List UInt8) : List UInt8 := if n = 0 then out else dg (n / 10) (strN [IntKind.u8.wrap (48 + (n : Int) % 10)] ++ out)
termination_by n
decreasing_by omega
def mT (k : Int) : List UInt8 := if k ≤ 0 then [109, 48] else 109 :: dg k.toNat []
theorem markText (k : Int) (hk : k ≤ 4294967296) : PCall Try.prog 40 [(.g (.int .i64 (k)))] (.s (mT k)) := by
  refine gcall_of_walk Try.func40 (by rfl) (by rfl) (by rw [Try.ntmps40]; exact Nat.le_of_ble_eq_true rfl) rfl (by decide) ?_
  rw [Try.ntmps40]
  refine AW_k [(0, _)] ⟨rfl, trivial⟩ ?_
  refine AW_r rfl rfl fun K hK => ?_
  simp (disch := omega) [wrap64, List.getElem?_eq_getElem, toNat_pred, Int.tdiv_eq_ediv_of_nonneg, Int.tmod_eq_emod_of_nonneg, numsOf]
  repeat' first | (exfalso; omega) | (refine ⟨by simp [strN]; omega, ?_⟩; try simp (disch := omega) [wrap64, List.getElem?_eq_getElem, toNat_pred, Int.tdiv_eq_ediv_of_nonneg, Int.tmod_eq_emod_of_nonneg, numsOf]) | (refine ⟨fun _ => ?_, fun _ => ?_⟩) | (refine ⟨by omega, ?_⟩) | (intro _)
  all_goals (refine hK _ ?_; clear hK K)
  all_goals
    refine AW_seq ?_
    refine AW_r rfl rfl fun K hK => ?_
    simp (disch := omega) [wrap64, List.getElem?_eq_getElem, toNat_pred, Int.tdiv_eq_ediv_of_nonneg, Int.tmod_eq_emod_of_nonneg, numsOf]
    repeat' first | (exfalso; omega) | (refine ⟨by simp [strN]; omega, ?_⟩; try simp (disch := omega) [wrap64, List.getElem?_eq_getElem, toNat_pred, Int.tdiv_eq_ediv_of_nonneg, Int.tmod_eq_emod_of_nonneg, numsOf]) | (refine ⟨fun _ => ?_, fun _ => ?_⟩) | (refine ⟨by omega, ?_⟩) | (intro _)
    all_goals (refine hK _ ?_; clear hK K)
    all_goals
      refine AW_cond rfl (fun hc1 => ?_) (fun hc1 => ?_)
      · try simp at hc1
        all_goals
          refine AW_r rfl rfl fun K hK => ?_
          simp (disch := omega) [wrap64, List.getElem?_eq_getElem, toNat_pred, Int.tdiv_eq_ediv_of_nonneg, Int.tmod_eq_emod_of_nonneg, numsOf]
          repeat' first | (exfalso; omega) | (refine ⟨by simp [strN]; omega, ?_⟩; try simp (disch := omega) [wrap64, List.getElem?_eq_getElem, toNat_pred, Int.tdiv_eq_ediv_of_nonneg, Int.tmod_eq_emod_of_nonneg, numsOf]) | (refine ⟨fun _ => ?_, fun _ => ?_⟩) | (refine ⟨by omega, ?_⟩) | (intro _)
          all_goals (refine hK _ ?_; clear hK K)
          all_goals
            refine AW_ret (end_s ?_)
            simp (disch := omega) [wrap64, List.getElem?_eq_getElem, toNat_pred, Int.tdiv_eq_ediv_of_nonneg, Int.tmod_eq_emod_of_nonneg, numsOf]
            all_goals first | (unfold mT; rw [if_pos (by omega)]; done) | (subst hc2; unfold mT; rw [if_neg (by omega), ← hd]; unfold dg; simp; done)
      · try simp at hc1
        all_goals
          refine AW_skip ?_
          refine AW_id ?_
          refine AW_r rfl rfl fun K hK => ?_
          simp (disch := omega) [wrap64, List.getElem?_eq_getElem, toNat_pred, Int.tdiv_eq_ediv_of_nonneg, Int.tmod_eq_emod_of_nonneg, numsOf]
          repeat' first | (exfalso; omega) | (refine ⟨by simp [strN]; omega, ?_⟩; try simp (disch := omega) [wrap64, List.getElem?_eq_getElem, toNat_pred, Int.tdiv_eq_ediv_of_nonneg, Int.tmod_eq_emod_of_nonneg, numsOf]) | (refine ⟨fun _ => ?_, fun _ => ?_⟩) | (refine ⟨by omega, ?_⟩) | (intro _)
          all_goals (refine hK _ ?_; clear hK K)
          all_goals
            refine AW_seq ?_
            refine AW_block ?_
            refine AW_loopS (fun mM sS => ∃ (n : Nat) (out : List UInt8), mM = n + 1 ∧ (n + out.length ≤ k.toNat ∧ dg n out = dg k.toNat []) ∧ sS = { env := lkE [(0, (.g (.int .i64 ((n : Nat))))), (3, .s out)], ob := lk [] }) ?_ ?_
            · refine ⟨_, LeS.ko [(0, (.g (.int .i64 (((k.toNat) : Nat))))), (3, .s ([]))] [] (by simp [KpE, upd_app, lkE_app, lk_cons]; try (first | rfl | (omega; done))) (by simp [KpO, upd_app, lk_cons, lk_nil, formOb_nn]; try rfl) (by rfl) (by simp) (by rfl), _, k.toNat, [], rfl, ?_, rfl⟩
              · simp
            · rintro mM sS ⟨n, out, rfl, ⟨hi, hd⟩, rfl⟩
              refine AW_seq ?_
              refine AW_r rfl rfl fun K hK => ?_
              simp (disch := omega) [wrap64, List.getElem?_eq_getElem, toNat_pred, Int.tdiv_eq_ediv_of_nonneg, Int.tmod_eq_emod_of_nonneg, numsOf]
              repeat' first | (exfalso; omega) | (refine ⟨by simp [strN]; omega, ?_⟩; try simp (disch := omega) [wrap64, List.getElem?_eq_getElem, toNat_pred, Int.tdiv_eq_ediv_of_nonneg, Int.tmod_eq_emod_of_nonneg, numsOf]) | (refine ⟨fun _ => ?_, fun _ => ?_⟩) | (refine ⟨by omega, ?_⟩) | (intro _)
              all_goals (refine hK _ ?_; clear hK K)
              all_goals
                refine AW_cond rfl (fun hc2 => ?_) (fun hc2 => ?_)
                · try simp at hc2
                  all_goals
                    refine AW_skip ?_
                    refine AW_id ?_
                    refine AW_block ?_
                    refine AW_r rfl rfl fun K hK => ?_
                    simp (disch := omega) [wrap64, List.getElem?_eq_getElem, toNat_pred, Int.tdiv_eq_ediv_of_nonneg, Int.tmod_eq_emod_of_nonneg, numsOf]
                    repeat' first | (exfalso; omega) | (refine ⟨by simp [strN]; omega, ?_⟩; try simp (disch := omega) [wrap64, List.getElem?_eq_getElem, toNat_pred, Int.tdiv_eq_ediv_of_nonneg, Int.tmod_eq_emod_of_nonneg, numsOf]) | (refine ⟨fun _ => ?_, fun _ => ?_⟩) | (refine ⟨by omega, ?_⟩) | (intro _)
                    all_goals (refine hK _ ?_; clear hK K)
                    all_goals
                      refine AW_re rfl rfl fun K hK => ?_
                      simp (disch := omega) [wrap64, List.getElem?_eq_getElem, toNat_pred, Int.tdiv_eq_ediv_of_nonneg, Int.tmod_eq_emod_of_nonneg, numsOf]
                      repeat' first | (exfalso; omega) | (refine ⟨by simp [strN]; omega, ?_⟩; try simp (disch := omega) [wrap64, List.getElem?_eq_getElem, toNat_pred, Int.tdiv_eq_ediv_of_nonneg, Int.tmod_eq_emod_of_nonneg, numsOf]) | (refine ⟨fun _ => ?_, fun _ => ?_⟩) | (refine ⟨by omega, ?_⟩) | (intro _)
                      all_goals (refine hK _ ?_; clear hK K)
                      all_goals
                        refine ⟨_, LeS.ko [(0, (.g (.int .i64 (((n / 10) : Nat))))), (3, .s (strN [IntKind.u8.wrap (48 + (n : Int) % 10)] ++ out))] [] (by simp [KpE, upd_app, lkE_app, lk_cons]; try (first | rfl | (omega; done))) (by simp [KpO, upd_app, lk_cons, lk_nil, formOb_nn]; try rfl) (by rfl) (by simp) (by rfl), _, ?_, n / 10, strN [IntKind.u8.wrap (48 + (n : Int) % 10)] ++ out, rfl, ?_, rfl⟩
                        · omega
                        · refine ⟨by simp [strN]; omega, ?_⟩; rw [← hd]; conv => rhs; unfold dg; rw [if_neg (by omega)]
                · try simp at hc2
                  all_goals
                    refine AW_exit ?_
                    refine AW_id ?_
                    refine AW_r rfl rfl fun K hK => ?_
                    simp (disch := omega) [wrap64, List.getElem?_eq_getElem, toNat_pred, Int.tdiv_eq_ediv_of_nonneg, Int.tmod_eq_emod_of_nonneg, numsOf]
                    repeat' first | (exfalso; omega) | (refine ⟨by simp [strN]; omega, ?_⟩; try simp (disch := omega) [wrap64, List.getElem?_eq_getElem, toNat_pred, Int.tdiv_eq_ediv_of_nonneg, Int.tmod_eq_emod_of_nonneg, numsOf]) | (refine ⟨fun _ => ?_, fun _ => ?_⟩) | (refine ⟨by omega, ?_⟩) | (intro _)
                    all_goals (refine hK _ ?_; clear hK K)
                    all_goals
                      refine AW_ret (end_s ?_)
                      simp (disch := omega) [wrap64, List.getElem?_eq_getElem, toNat_pred, Int.tdiv_eq_ediv_of_nonneg, Int.tmod_eq_emod_of_nonneg, numsOf]
                      all_goals first | (unfold mT; rw [if_pos (by omega)]; done) | (subst hc2; unfold mT; rw [if_neg (by omega), ← hd]; unfold dg; simp; done)
theorem mkR_setS (k : Int) (l : List (List UInt8)) (i : Nat) (h : i < l.length) : ((mkR mT k l i).map cS).set i [.s (mT (k + (i : Nat)))] = (mkR mT k l (i + 1)).map cS := by
  rw [← mkR_set mT k l i h, List.map_set]; rfl
theorem markStringS (l : List (List UInt8)) (k : Int) (hl : l.length ≤ 1048576) (hk : 0 ≤ k ∧ k ≤ 1073741824) : XCall Try.prog 23 [.arr 8 0 l.length, (.g (.int .i64 (k)))] [.own 1 (l.map cS)] (.g (.int .i64 (k + (l.length : Nat)))) [.own 1 ((mkL mT k l.length).map cS)] [] := by
  refine xcall_of_walk Try.func23 (by rfl) (by rfl) (by rw [Try.ntmps23]; exact Nat.le_of_ble_eq_true rfl) rfl (by simp) rfl rfl ?_
  rw [Try.ntmps23]
  refine AW_x1 (.win 1 (l.map cS)) (by simp [cvO]) ?_
  refine AW_k [(0, _), (1, _)] ⟨rfl, rfl, trivial⟩ ?_
  refine AW_x rfl rfl fun K hK => ?_
  simp (disch := omega) [wrap64, List.getElem?_eq_getElem, toNat_pred, cS, mkR_n]
  repeat' first | (exfalso; omega) | (refine ⟨fun _ => ?_, fun _ => ?_⟩) | (refine ⟨by omega, ?_⟩) | (intro _)
  all_goals (refine hK _ ?_; clear hK K)
  all_goals
    refine AW_seq ?_
    refine AW_x rfl rfl fun K hK => ?_
    simp (disch := omega) [wrap64, List.getElem?_eq_getElem, toNat_pred, cS, mkR_n]
    repeat' first | (exfalso; omega) | (refine ⟨fun _ => ?_, fun _ => ?_⟩) | (refine ⟨by omega, ?_⟩) | (intro _)
    all_goals (refine hK _ ?_; clear hK K)
    all_goals
      refine AW_block ?_
      refine AW_loopS (fun mM sS => ∃ (i : Nat), mM = l.length - i ∧ (i ≤ l.length) ∧ sS = { env := lkE [(0, .arr 8 0 l.length), (1, (.g (.int .i64 (k + (i : Nat))))), (5, (.g (.int .i64 ((i : Nat)))))], ob := lk [(8, .win 1 ((mkR mT k l i).map cS))] }) ?_ ?_
      · refine ⟨_, LeS.kx [(8, 8)] [(0, .arr 8 0 l.length), (1, (.g (.int .i64 (k + ((0) : Nat))))), (5, (.g (.int .i64 (((0) : Nat)))))] [(8, .win 1 ((mkR mT k l (0)).map cS))] (by simp [KpR, renV2, renV, upd_app, lkE_app, lk_cons, lk_nil, mkR_0]; try (first | rfl | (omega; done))) (by simp [KpOX, renO, plO, cvO, renV, pl1, lk_cons, lk_nil, upd_app, mkR_0]; try (first | rfl | (simp [mkR_setS k l i (by omega)]; done))) (by rfl) (by simp) (by simp) (by rfl) (by simp [formsX, List.range_succ, lk_cons, lk_nil]), _, 0, rfl, ?_, rfl⟩
        · simp
      · rintro mM sS ⟨i, rfl, hi, rfl⟩
        have hln : (mkR mT k l i).length = l.length := mkR_len _ _ _ _ hi
        refine AW_seq ?_
        refine AW_x rfl rfl fun K hK => ?_
        simp (disch := omega) [wrap64, List.getElem?_eq_getElem, toNat_pred, cS, mkR_n]
        repeat' first | (exfalso; omega) | (refine ⟨fun _ => ?_, fun _ => ?_⟩) | (refine ⟨by omega, ?_⟩) | (intro _)
        all_goals (refine hK _ ?_; clear hK K)
        all_goals
          refine AW_cond rfl (fun hc3 => ?_) (fun hc3 => ?_)
          · try simp at hc3
            all_goals
              have hg : (mkR mT k l i)[i]? = some (l[i]) := mkR_get _ _ _ _ (by omega)
              refine AW_skip ?_
              refine AW_id ?_
              refine AW_seq ?_
              refine AW_block ?_
              refine AW_x rfl rfl fun K hK => ?_
              simp (disch := omega) [wrap64, List.getElem?_eq_getElem, toNat_pred, cS, mkR_n]
              repeat' first | (exfalso; omega) | (refine XKd_v (am2s_cons am2_g am2s_nil) (markText _ (by omega)) rfl ?_; simp (disch := omega) [wrap64, List.getElem?_eq_getElem, toNat_pred, cS, mkR_n]) | (refine XKd_p (markText _ (by omega)) (by rfl) (by simp (disch := omega) [wrap64, List.getElem?_eq_getElem, toNat_pred, cS, mkR_n, take_map_n]) ?_; simp (disch := omega) [wrap64, List.getElem?_eq_getElem, toNat_pred, cS, mkR_n]) | (refine ⟨fun _ => ?_, fun _ => ?_⟩) | (refine ⟨by omega, ?_⟩) | (intro _)
              all_goals (refine hK _ ?_; clear hK K)
              all_goals
                refine AW_xe rfl rfl fun K hK => ?_
                simp (disch := omega) [wrap64, List.getElem?_eq_getElem, toNat_pred, cS, mkR_n]
                repeat' first | (exfalso; omega) | (refine ⟨fun _ => ?_, fun _ => ?_⟩) | (refine ⟨by omega, ?_⟩) | (intro _)
                all_goals (refine hK _ ?_; clear hK K)
                all_goals
                  refine AW_id ?_
                  refine AW_xe rfl rfl fun K hK => ?_
                  simp (disch := omega) [wrap64, List.getElem?_eq_getElem, toNat_pred, cS, mkR_n]
                  repeat' first | (exfalso; omega) | (refine ⟨fun _ => ?_, fun _ => ?_⟩) | (refine ⟨by omega, ?_⟩) | (intro _)
                  all_goals (refine hK _ ?_; clear hK K)
                  all_goals
                    refine ⟨_, LeS.kx [(8, 8)] [(0, .arr 8 0 l.length), (1, (.g (.int .i64 (k + ((i + 1) : Nat))))), (5, (.g (.int .i64 (((i + 1) : Nat)))))] [(8, .win 1 ((mkR mT k l (i + 1)).map cS))] (by simp [KpR, renV2, renV, upd_app, lkE_app, lk_cons, lk_nil, mkR_0]; try (first | rfl | (omega; done))) (by simp [KpOX, renO, plO, cvO, renV, pl1, lk_cons, lk_nil, upd_app, mkR_0]; try (first | rfl | (simp [mkR_setS k l i (by omega)]; done))) (by rfl) (by simp) (by simp) (by rfl) (by simp [formsX, List.range_succ, lk_cons, lk_nil]), _, ?_, i + 1, rfl, ?_, rfl⟩
                    · omega
                    · omega
          · try simp at hc3
            all_goals
              refine AW_exit ?_
              refine AW_id ?_
              refine AW_x rfl rfl fun K hK => ?_
              simp (disch := omega) [wrap64, List.getElem?_eq_getElem, toNat_pred, cS, mkR_n]
              repeat' first | (exfalso; omega) | (refine ⟨fun _ => ?_, fun _ => ?_⟩) | (refine ⟨by omega, ?_⟩) | (intro _)
              all_goals (refine hK _ ?_; clear hK K)
              all_goals
                refine AW_ret (end_x [] [] (by simp [List.range_succ, lk_cons, lk_nil, upd_app]) (by simp) ?_)
                simp (disch := omega) [wrap64, List.getElem?_eq_getElem, toNat_pred, cS, mkR_n]
                all_goals omega
theorem heldStringS (n : Nat) (k : Int) (hl : n ≤ 1048576) (hk : 0 ≤ k ∧ k ≤ 1073741824) : PCall Try.prog 24 [.sl 1 ((mkL mT k n).map cS), (.g (.int .i64 (k)))] (.g (.int .i64 (k + (n : Nat)))) := by
  refine gcall_of_walk Try.func24 (by rfl) (by rfl) (by rw [Try.ntmps24]; exact Nat.le_of_ble_eq_true rfl) rfl (by decide) ?_
  rw [Try.ntmps24]
  refine AW_k [(0, _), (1, _)] ⟨rfl, rfl, trivial⟩ ?_
  refine AW_r rfl rfl fun K hK => ?_
  simp (disch := omega) [wrap64, List.getElem?_eq_getElem, toNat_pred, cS, mkL_el]
  repeat' first | (exfalso; omega) | (refine ⟨fun _ => ?_, fun _ => ?_⟩) | (refine ⟨by omega, ?_⟩) | (intro _)
  all_goals (refine hK _ ?_; clear hK K)
  all_goals
    refine AW_seq ?_
    refine AW_r rfl rfl fun K hK => ?_
    simp (disch := omega) [wrap64, List.getElem?_eq_getElem, toNat_pred, cS, mkL_el]
    repeat' first | (exfalso; omega) | (refine ⟨fun _ => ?_, fun _ => ?_⟩) | (refine ⟨by omega, ?_⟩) | (intro _)
    all_goals (refine hK _ ?_; clear hK K)
    all_goals
      refine AW_block ?_
      refine AW_loopS (fun mM sS => ∃ (i : Nat), mM = n - i ∧ (i ≤ n) ∧ sS = { env := lkE [(0, .sl 1 ((mkL mT k n).map cS)), (1, (.g (.int .i64 (k + (i : Nat))))), (5, (.g (.int .i64 ((i : Nat)))))], ob := formOb [] [] }) ?_ ?_
      · refine ⟨_, LeS.kp [(0, .sl 1 ((mkL mT k n).map cS)), (1, (.g (.int .i64 (k + ((0) : Nat))))), (5, (.g (.int .i64 (((0) : Nat)))))] (by simp [KpE, upd_app, lkE_app, lk_cons]; try (first | rfl | (omega; done))), _, 0, rfl, ?_, rfl⟩
        · simp
      · rintro mM sS ⟨i, rfl, hi, rfl⟩
        have hln : (mkL mT k n).length = n := mkL_len _ _ _
        refine AW_seq ?_
        refine AW_r rfl rfl fun K hK => ?_
        simp (disch := omega) [wrap64, List.getElem?_eq_getElem, toNat_pred, cS, mkL_el]
        repeat' first | (exfalso; omega) | (refine ⟨fun _ => ?_, fun _ => ?_⟩) | (refine ⟨by omega, ?_⟩) | (intro _)
        all_goals (refine hK _ ?_; clear hK K)
        all_goals
          refine AW_cond rfl (fun hc4 => ?_) (fun hc4 => ?_)
          · try simp at hc4
            all_goals
              refine AW_skip ?_
              refine AW_id ?_
              refine AW_seq ?_
              refine AW_block ?_
              refine AW_seq ?_
              refine AW_q rfl mix (by kernel_rfl) rfl fun K hK => ?_
              simp (disch := omega) [wrap64, List.getElem?_eq_getElem, toNat_pred, cS, mkL_el]
              repeat' first | (exfalso; omega) | (refine CKd_v (am2s_cons am2_g am2s_nil) (markText _ (by omega)) rfl ?_; simp (disch := omega) [wrap64, List.getElem?_eq_getElem, toNat_pred, cS, mkL_el]) | (refine ⟨fun _ => ?_, fun _ => ?_⟩) | (refine ⟨by omega, ?_⟩) | (intro _)
              all_goals (refine hK _ ?_; clear hK K)
              all_goals
                refine AW_cond rfl (fun hc5 => ?_) (fun hc5 => ?_)
                · try simp at hc5
                  all_goals
                    refine AW_r rfl rfl fun K hK => ?_
                    simp (disch := omega) [wrap64, List.getElem?_eq_getElem, toNat_pred, cS, mkL_el]
                    repeat' first | (exfalso; omega) | (refine ⟨fun _ => ?_, fun _ => ?_⟩) | (refine ⟨by omega, ?_⟩) | (intro _)
                    all_goals (refine hK _ ?_; clear hK K)
                    all_goals
                      refine AW_ret (end_s ?_)
                      simp (disch := omega) [wrap64, List.getElem?_eq_getElem, toNat_pred, cS, mkL_el]
                      all_goals omega
                · try simp at hc5
                  all_goals
                    refine AW_skip ?_
                    refine AW_id ?_
                    refine AW_re rfl rfl fun K hK => ?_
                    simp (disch := omega) [wrap64, List.getElem?_eq_getElem, toNat_pred, cS, mkL_el]
                    repeat' first | (exfalso; omega) | (refine ⟨fun _ => ?_, fun _ => ?_⟩) | (refine ⟨by omega, ?_⟩) | (intro _)
                    all_goals (refine hK _ ?_; clear hK K)
                    all_goals
                      refine AW_id ?_
                      refine AW_re rfl rfl fun K hK => ?_
                      simp (disch := omega) [wrap64, List.getElem?_eq_getElem, toNat_pred, cS, mkL_el]
                      repeat' first | (exfalso; omega) | (refine ⟨fun _ => ?_, fun _ => ?_⟩) | (refine ⟨by omega, ?_⟩) | (intro _)
                      all_goals (refine hK _ ?_; clear hK K)
                      all_goals
                        refine ⟨_, LeS.kp [(0, .sl 1 ((mkL mT k n).map cS)), (1, (.g (.int .i64 (k + ((i + 1) : Nat))))), (5, (.g (.int .i64 (((i + 1) : Nat)))))] (by simp [KpE, upd_app, lkE_app, lk_cons]; try (first | rfl | (omega; done))), _, ?_, i + 1, rfl, ?_, rfl⟩
                        · omega
                        · omega
          · try simp at hc4
            all_goals
              refine AW_exit ?_
              refine AW_id ?_
              refine AW_r rfl rfl fun K hK => ?_
              simp (disch := omega) [wrap64, List.getElem?_eq_getElem, toNat_pred, cS, mkL_el]
              repeat' first | (exfalso; omega) | (refine ⟨fun _ => ?_, fun _ => ?_⟩) | (refine ⟨by omega, ?_⟩) | (intro _)
              all_goals (refine hK _ ?_; clear hK K)
              all_goals
                refine AW_ret (end_s ?_)
                simp (disch := omega) [wrap64, List.getElem?_eq_getElem, toNat_pred, cS, mkL_el]
                all_goals omega
end Go.Proofs.Ytpaccfeiaekacaa.Vs
