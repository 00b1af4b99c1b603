import Derived.Test.YtmcekkllkfccjaaSK7
open Go Go.Proofs Go.Proofs.Ytmcekkllkfccjaa.Vs
namespace Go.Proofs.Ytmcekkllkfccjaa.Vs
set_option linter.unusedVariables false
set_option linter.unusedSimpArgs false
set_option linter.unusedSectionVars false
set_option linter.unnecessarySimpa false
set_option linter.all false
set_option linter.unusedSimpArgs false
set_option linter.unusedVariables false
set_option maxRecDepth 100000
theorem kp_len (l : List Int) (r : DtRule) : ∀ (m : Nat) (day days ofd : Int) (out : List Bool), (kp l r m day days ofd out).length = out.length
  | 0, _, _, _, _ => rfl
  | m + 1, day, days, ofd, out => by
    unfold kp
    split <;> rw [kp_len l r m] <;> simp
theorem keepL_len (l : List Int) (r : DtRule) : (keepL l r).length ≤ l.length := by
  cases h : decB (KOk l r) with
  | true => rw [keepL_t h, kp_len]; simp
  | false => rw [keepL_f h]; simp
theorem implKeepP (l : List Int) (r : DtRule) (hl : l.length ≤ 1048576) : PCall Try.prog 20 [.sl 1 (l.map cI), .agg (DtRule.cells r)] (.sl 1 ((keepL l r).map cB)) :=
  pcall_row (implKeep l r hl) (by simp)
/-- What is kept of the first i. -/
def kt (ks : List Bool) (l : List Int) (i : Nat) : List Int := ((l.zip ks).take i).filterMap fun p => bif p.2 then some p.1 else none
theorem kt_0 (ks : List Bool) (l : List Int) : kt ks l 0 = [] := by simp [kt]
theorem kt_len (ks : List Bool) (l : List Int) (i : Nat) : (kt ks l i).length ≤ i := by
  unfold kt
  exact Nat.le_trans (List.length_filterMap_le _ _) (List.length_take_le _ _)
theorem kt_s (ks : List Bool) (l : List Int) (i : Nat) (h : i < l.length) (h' : i < ks.length) : kt ks l (i + 1) = if ks[i] = true then kt ks l i ++ [l[i]] else kt ks l i := by
  unfold kt
  have : (l.zip ks)[i]? = some (l[i], ks[i]) := by rw [List.getElem?_eq_getElem (by simp; omega), List.getElem_zip]
  rw [List.take_add_one, this, List.filterMap_append]
  cases ks[i] <;> simp
theorem kt_t (ks : List Bool) (l : List Int) (i : Nat) (h : i < l.length) (h' : i < ks.length) (hk : ks[i] = true) : kt ks l (i + 1) = kt ks l i ++ [l[i]] := by rw [kt_s _ _ _ h h', if_pos hk]
theorem kt_f (ks : List Bool) (l : List Int) (i : Nat) (h : i < l.length) (h' : i < ks.length) (hk : ks[i] = false) : kt ks l (i + 1) = kt ks l i := by rw [kt_s _ _ _ h h', if_neg (by simp [hk])]
noncomputable def keptL (l : List Int) (r : DtRule) : List Int := kt (keepL l r) l (keepL l r).length
theorem keptL_len (l : List Int) (r : DtRule) : (keptL l r).length ≤ l.length := Nat.le_trans (kt_len _ _ _) (keepL_len l r)
theorem implKept (l : List Int) (r : DtRule) (hl : l.length ≤ 1048576) : XCall Try.prog 21 [.sl 1 (l.map cI), .agg (DtRule.cells r)] [] (.arr 16 0 (keptL l r).length) [] [.own 1 ((keptL l r).map cI)] := by
  have hkl := keepL_len l r
  refine xcall_of_walk Try.func21 (by rfl) (by rfl) (by rw [Try.ntmps21]; exact Nat.le_of_ble_eq_true rfl) rfl (by simp) rfl rfl ?_
  rw [Try.ntmps21]
  refine AW_x0   ?_
  refine AW_k [(0, _), (1, _)] ⟨rfl, rfl, trivial⟩ ?_
  refine AW_x rfl rfl fun K hK => ?_
  simp (disch := omega) [wrap64, List.getElem?_eq_getElem, toNat_pred, cI, cB, DtRule.cells, take_map_n]
  repeat' first | (exfalso; omega) | (refine ⟨fun _ => ?_, fun _ => ?_⟩) | (refine ⟨by omega, ?_⟩) | (intro _)
  all_goals (refine hK _ ?_; clear hK K)
  all_goals
    refine AW_x rfl rfl fun K hK => ?_
    simp (disch := omega) [wrap64, List.getElem?_eq_getElem, toNat_pred, cI, cB, DtRule.cells, take_map_n]
    repeat' first | (exfalso; omega) | (refine ⟨fun _ => ?_, fun _ => ?_⟩) | (refine ⟨by omega, ?_⟩) | (intro _)
    all_goals (refine hK _ ?_; clear hK K)
    all_goals
      refine AW_seq ?_
      refine AW_x rfl rfl fun K hK => ?_
      simp (disch := omega) [wrap64, List.getElem?_eq_getElem, toNat_pred, cI, cB, DtRule.cells, take_map_n]
      repeat' first | (exfalso; omega) | (refine XKd_v (am2s_cons am2_sl (am2s_cons (am2_agg rfl) am2s_nil)) (implKeepP l r (by omega)) rfl ?_; simp (disch := omega) [wrap64, List.getElem?_eq_getElem, toNat_pred, cI, cB, DtRule.cells, take_map_n]) | (refine XKd_p (implKeepP l r (by omega)) (by rfl) ?_ ?_; (focus (simp (disch := omega) [wrap64, List.getElem?_eq_getElem, toNat_pred, cI, cB, DtRule.cells, take_map_n, take_map_n]; done)); simp (disch := omega) [wrap64, List.getElem?_eq_getElem, toNat_pred, cI, cB, DtRule.cells, take_map_n]) | (refine ⟨fun _ => ?_, fun _ => ?_⟩) | (refine ⟨by omega, ?_⟩) | (intro _)
      all_goals (refine hK _ ?_; clear hK K)
      all_goals
        refine AW_block ?_
        refine AW_loopS (fun mM sS => ∃ (i : Nat), mM = (keepL l r).length - i ∧ (i ≤ (keepL l r).length) ∧ sS = { env := lkE [(0, .sl 1 (l.map cI)), (5, .arr 144 0 (kt (keepL l r) l i).length), (11, .sl 1 ((keepL l r).map cB)), (12, (.g (.int .i64 (((keepL l r).length : Nat))))), (13, (.g (.int .i64 ((i : Nat)))))], ob := lk [(144, .flat 1 ((kt (keepL l r) l i).map cI))] }) ?_ ?_
        · refine ⟨_, LeS.kx [(144, 144)] [(0, .sl 1 (l.map cI)), (5, .arr 144 0 (kt (keepL l r) l (0)).length), (11, .sl 1 ((keepL l r).map cB)), (12, (.g (.int .i64 (((keepL l r).length : Nat))))), (13, (.g (.int .i64 (((0) : Nat)))))] [(144, .flat 1 ((kt (keepL l r) l (0)).map cI))] (by simp [KpR, renV2, renV, upd_app, lkE_app, lk_cons, lk_nil, kt_0, cI, take_map_n]; try (first | rfl | (rw [hs]; simp_all; done))) (by simp [KpOX, renO, plO, cvO, renV, pl1, lk_cons, lk_nil, upd_app, kt_0, cI, take_map_n]; try (first | rfl | (rw [hs, List.take_of_length_le (by simp)]; simp_all [cI]; done) | (rw [hs]; simp_all [cI]; done))) (by rfl) (by simp) (by simp) (by rfl) (by simp [formsX, List.range_succ, lk_cons, lk_nil]), _, 0, rfl, ?_, rfl⟩
          · simp
        · rintro mM sS ⟨i, rfl, hi, rfl⟩
          have hkn := kt_len (keepL l r) l i
          have hkl := keepL_len l r
          refine AW_x rfl rfl fun K hK => ?_
          simp (disch := omega) [wrap64, List.getElem?_eq_getElem, toNat_pred, cI, cB, DtRule.cells, take_map_n]
          repeat' first | (exfalso; omega) | (refine ⟨fun _ => ?_, fun _ => ?_⟩) | (refine ⟨by omega, ?_⟩) | (intro _)
          all_goals (refine hK _ ?_; clear hK K)
          all_goals
            refine AW_seq ?_
            refine AW_cond rfl (fun hc3 => ?_) (fun hc3 => ?_)
            · try simp at hc3
              all_goals
                have hs := kt_s (keepL l r) l i (by omega) (by omega)
                refine AW_skip ?_
                refine AW_id ?_
                refine AW_seq ?_
                refine AW_block ?_
                refine AW_x rfl rfl fun K hK => ?_
                simp (disch := omega) [wrap64, List.getElem?_eq_getElem, toNat_pred, cI, cB, DtRule.cells, take_map_n]
                repeat' first | (exfalso; omega) | (refine ⟨fun _ => ?_, fun _ => ?_⟩) | (refine ⟨by omega, ?_⟩) | (intro _)
                all_goals (refine hK _ ?_; clear hK K)
                all_goals
                  refine AW_x rfl rfl fun K hK => ?_
                  simp (disch := omega) [wrap64, List.getElem?_eq_getElem, toNat_pred, cI, cB, DtRule.cells, take_map_n]
                  repeat' first | (exfalso; omega) | (refine ⟨fun _ => ?_, fun _ => ?_⟩) | (refine ⟨by omega, ?_⟩) | (intro _)
                  all_goals (refine hK _ ?_; clear hK K)
                  all_goals
                    refine AW_cond rfl (fun hc4 => ?_) (fun hc4 => ?_)
                    · try simp at hc4
                      all_goals
                        refine AW_xe rfl rfl fun K hK => ?_
                        simp (disch := omega) [wrap64, List.getElem?_eq_getElem, toNat_pred, cI, cB, DtRule.cells, take_map_n]
                        repeat' first | (exfalso; omega) | (refine ⟨fun _ => ?_, fun _ => ?_⟩) | (refine ⟨by omega, ?_⟩) | (intro _)
                        all_goals (refine hK _ ?_; clear hK K)
                        all_goals
                          refine AW_id ?_
                          refine AW_xe rfl rfl fun K hK => ?_
                          simp (disch := omega) [wrap64, List.getElem?_eq_getElem, toNat_pred, cI, cB, DtRule.cells, take_map_n]
                          repeat' first | (exfalso; omega) | (refine ⟨fun _ => ?_, fun _ => ?_⟩) | (refine ⟨by omega, ?_⟩) | (intro _)
                          all_goals (refine hK _ ?_; clear hK K)
                          all_goals
                            refine ⟨_, LeS.kx [(144, 416)] [(0, .sl 1 (l.map cI)), (5, .arr 144 0 (kt (keepL l r) l (i + 1)).length), (11, .sl 1 ((keepL l r).map cB)), (12, (.g (.int .i64 (((keepL l r).length : Nat))))), (13, (.g (.int .i64 (((i + 1) : Nat)))))] [(144, .flat 1 ((kt (keepL l r) l (i + 1)).map cI))] (by simp [KpR, renV2, renV, upd_app, lkE_app, lk_cons, lk_nil, kt_0, cI, take_map_n]; try (first | rfl | (rw [hs]; simp_all; done))) (by simp [KpOX, renO, plO, cvO, renV, pl1, lk_cons, lk_nil, upd_app, kt_0, cI, take_map_n]; try (first | rfl | (rw [hs, List.take_of_length_le (by simp)]; simp_all [cI]; done) | (rw [hs]; simp_all [cI]; done))) (by rfl) (by simp) (by simp) (by rfl) (by simp [formsX, List.range_succ, lk_cons, lk_nil]), _, ?_, i + 1, rfl, ?_, rfl⟩
                            · omega
                            · omega
                    · try simp at hc4
                      all_goals
                        refine AW_skip ?_
                        refine AW_id ?_
                        refine AW_xe rfl rfl fun K hK => ?_
                        simp (disch := omega) [wrap64, List.getElem?_eq_getElem, toNat_pred, cI, cB, DtRule.cells, take_map_n]
                        repeat' first | (exfalso; omega) | (refine ⟨fun _ => ?_, fun _ => ?_⟩) | (refine ⟨by omega, ?_⟩) | (intro _)
                        all_goals (refine hK _ ?_; clear hK K)
                        all_goals
                          refine ⟨_, LeS.kx [(144, 144)] [(0, .sl 1 (l.map cI)), (5, .arr 144 0 (kt (keepL l r) l (i + 1)).length), (11, .sl 1 ((keepL l r).map cB)), (12, (.g (.int .i64 (((keepL l r).length : Nat))))), (13, (.g (.int .i64 (((i + 1) : Nat)))))] [(144, .flat 1 ((kt (keepL l r) l (i + 1)).map cI))] (by simp [KpR, renV2, renV, upd_app, lkE_app, lk_cons, lk_nil, kt_0, cI, take_map_n]; try (first | rfl | (rw [hs]; simp_all; done))) (by simp [KpOX, renO, plO, cvO, renV, pl1, lk_cons, lk_nil, upd_app, kt_0, cI, take_map_n]; try (first | rfl | (rw [hs, List.take_of_length_le (by simp)]; simp_all [cI]; done) | (rw [hs]; simp_all [cI]; done))) (by rfl) (by simp) (by simp) (by rfl) (by simp [formsX, List.range_succ, lk_cons, lk_nil]), _, ?_, i + 1, rfl, ?_, rfl⟩
                          · omega
                          · omega
            · try simp at hc3
              all_goals
                refine AW_exit ?_
                refine AW_id ?_
                refine AW_x rfl rfl fun K hK => ?_
                simp (disch := omega) [wrap64, List.getElem?_eq_getElem, toNat_pred, cI, cB, DtRule.cells, take_map_n]
                repeat' first | (exfalso; omega) | (refine ⟨fun _ => ?_, fun _ => ?_⟩) | (refine ⟨by omega, ?_⟩) | (intro _)
                all_goals (refine hK _ ?_; clear hK K)
                all_goals
                  refine AW_ret (end_x [144] [] (by simp [List.range_succ, lk_cons, lk_nil, upd_app]) (by simp) ?_)
                  simp (disch := omega) [wrap64, List.getElem?_eq_getElem, toNat_pred, cI, cB, DtRule.cells, take_map_n]
                  all_goals (have e : i = (keepL l r).length := by omega); subst e; first | (simp [keptL]; done) | (rw [List.take_of_length_le (by simp)]; rfl)
end Go.Proofs.Ytmcekkllkfccjaa.Vs
