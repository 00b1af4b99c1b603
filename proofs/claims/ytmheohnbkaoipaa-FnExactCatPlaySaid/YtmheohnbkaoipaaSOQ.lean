import Derived.Test.YtmheohnbkaoipaaSN1
import Derived.Test.YtmheohnbkaoipaaSDQ
open Go Go.Proofs Go.Proofs.Ytmheohnbkaoipaa.Vs
namespace Go.Proofs.Ytmheohnbkaoipaa.Vs
set_option linter.all false
set_option linter.unusedSimpArgs false
set_option linter.unusedVariables false
set_option maxRecDepth 100000
theorem row_congr {l : List (List AV)} {i : Nat} {a b : List AV} (h : a = b) : l.set i a = l.set i b := by rw [h]
theorem len_szS {α : Type} {f : α → Int} (hf : ∀ x, 0 ≤ f x) (l : List α) : (l.length : Int) ≤ szS f l := by have := sumZ_nonneg hf l; unfold szS; omega
theorem cnt_sz {α : Type} {cnt sz : α → Int} (h : ∀ u, cnt u ≤ 16 * (1 + sz u)) : ∀ us : List α, cntS cnt us ≤ 16 * szS sz us
  | [] => by simp [cntS_nil, szS, sumZ_nil]
  | u :: us => by
    have h1 := cnt_sz h us
    have h2 := h u
    simp only [szS, sumZ_cons, cntS_cons, List.length_cons] at h1 ⊢
    omega
def mkCmd (k : Int) (u : DtCmd) : DtCmd := { fKind := k, fClient := k + 1, fNo := k + 1 + 1, fSet := mT (k + 1 + 1 + 1), fName := mT (k + 1 + 1 + 1 + 1), fTag := mT (k + 1 + 1 + 1 + 1 + 1), fN := k + 1 + 1 + 1 + 1 + 1 + 1, fChunks := mkL mT (k + 1 + 1 + 1 + 1 + 1 + 1 + 1) u.fChunks.length }
def cntCmd (u : DtCmd) : Int := 1 + 1 + 1 + 1 + 1 + 1 + 1 + (u.fChunks.length : Nat)
theorem cntCmd_nn (u : DtCmd) : 0 ≤ cntCmd u := by
  unfold cntCmd
  omega
theorem cntCmd_sz (u : DtCmd) : cntCmd u ≤ 16 * (1 + DtCmd.sz u) := by
  have := len_szS lenZ_nonneg u.fChunks
  unfold cntCmd
  simp only [DtCmd.sz]
  omega
theorem markCmdS (us : List DtCmd) (k : Int) (hs : szS DtCmd.sz us ≤ 1048576) (hk : 0 ≤ k ∧ k + cntS cntCmd us ≤ 1073741824) : XCall Try.prog 25 [.arr 8 0 us.length, (.g (.int .i64 (k)))] [.own 8 (us.map DtCmd.cells)] (.g (.int .i64 (k + cntS cntCmd us))) [.own 8 ((mkS mkCmd cntCmd k us).map DtCmd.cells)] [] := by
  have hL : us.length ≤ 1048576 := by have := len_szS DtCmd.sz_nonneg us; omega
  refine xcall_of_walk Try.func25 (by rfl) (by rfl) (by rw [Try.ntmps25]; exact Nat.le_of_ble_eq_true rfl) rfl (by simp) rfl rfl ?_
  rw [Try.ntmps25]
  refine AW_x1 (.own 8 (us.map DtCmd.cells)) (by simp [cvO] <;> assumption) ?_
  refine AW_k [(0, _), (1, _)] ⟨rfl, rfl, trivial⟩ ?_
  refine AW_x rfl rfl fun K hK => ?_
  simp (disch := omega) [wrap64, gE, tP, DtCmd.cells, mkSR_el, mset_get]
  repeat' first | (refine ⟨by omega, ?_⟩) | (intro _)
  refine hK _ ?_; clear hK K
  refine AW_seq ?_
  refine AW_x rfl rfl fun K hK => ?_
  simp (disch := omega) [wrap64, gE, tP, DtCmd.cells, mkSR_el, mset_get]
  repeat' first | (refine ⟨by omega, ?_⟩) | (intro _)
  refine hK _ ?_; clear hK K
  refine AW_block ?_
  refine AW_loopS (fun mM sS => ∃ (i : Nat), mM = us.length - i ∧ (i ≤ us.length) ∧ sS = { env := lkE [(0, .arr 8 0 us.length), (1, (.g (.int .i64 (k + cntS cntCmd (us.take i))))), (5, (.g (.int .i64 ((i : Nat)))))], ob := lk [(8, .own 8 ((mkSR mkCmd cntCmd k us i).map DtCmd.cells))] }) ?_ ?_
  · refine ⟨_, LeS.kx [(8, 8)] [(0, .arr 8 0 us.length), (1, (.g (.int .i64 (k + cntS cntCmd (us.take (0)))))), (5, (.g (.int .i64 (((0) : Nat)))))] [(8, .own 8 ((mkSR mkCmd cntCmd k us (0)).map DtCmd.cells))] (by simp [KpR, renV2, renV, upd_app, lkE_app, lk_cons, lk_nil, mkSR_0, cntS_nil]; try (first | rfl | (omega; done))) (by simp [KpOX, renO, plO, cvO, renV, pl1, lk_cons, lk_nil, upd_app, mkSR_0, cntS_nil]; try (first | rfl | (rw [← mkSR_set mkCmd cntCmd k us i (by omega), List.map_set]; refine row_congr ?_; simp only [DtCmd.cells, mkCmd]; repeat' (first | rfl | (omega; done) | congr 1)))) (by rfl) (by simp) (by simp) (by rfl) (by simp [formsX, List.range_succ, lk_cons, lk_nil]), _, 0, rfl, ?_, rfl⟩
    · simp
  · rintro mM sS ⟨i, rfl, hi, rfl⟩
    have hln : (mkSR mkCmd cntCmd k us i).length = us.length := mkSR_len _ _ _ _ _ hi
    refine AW_seq ?_
    refine AW_x rfl rfl fun K hK => ?_
    simp (disch := omega) [wrap64, gE, tP, DtCmd.cells, mkSR_el, mset_get]
    repeat' first | (refine ⟨by omega, ?_⟩) | (intro _)
    refine hK _ ?_; clear hK K
    refine AW_cond rfl (fun hc1 => ?_) (fun hc1 => ?_)
    · try simp at hc1
      all_goals
       have hcl := cntS_le cntCmd_nn us i (by omega)
       have hcu : cntCmd us[i] = 1 + 1 + 1 + 1 + 1 + 1 + 1 + (us[i].fChunks.length : Nat) := rfl
       have hcs := cntS_succ cntCmd us i (by omega)
       have hzn1 := len_szS lenZ_nonneg us[i].fChunks
       have hsE : DtCmd.sz us[i] ≤ 1048576 := by have := sumZ_mem_le DtCmd.sz_nonneg us us[i] (List.getElem_mem _); simp only [szS] at hs; omega
       simp only [DtCmd.sz] at hsE
       refine AW_skip ?_
       refine AW_id ?_
       refine AW_seq ?_
       refine AW_block ?_
       refine AW_x rfl rfl fun K hK => ?_
       simp (disch := omega) [wrap64, gE, tP, DtCmd.cells, mkSR_el, mset_get]
       repeat' first | (exfalso; omega) | (refine ⟨fun _ => ?_, fun _ => ?_⟩) | (refine ⟨by omega, ?_⟩) | (intro _)
       all_goals (refine hK _ ?_; clear hK K)
       all_goals
        refine AW_x rfl rfl fun K hK => ?_
        simp (disch := omega) [wrap64, gE, tP, DtCmd.cells, mkSR_el, mset_get]
        repeat' first | (refine ⟨by omega, ?_⟩) | (intro _)
        refine hK _ ?_; clear hK K
        refine AW_x rfl rfl fun K hK => ?_
        simp (disch := omega) [wrap64, gE, tP, DtCmd.cells, mkSR_el, mset_get]
        repeat' first | (refine ⟨by omega, ?_⟩) | (intro _)
        refine hK _ ?_; clear hK K
        refine AW_x rfl rfl fun K hK => ?_
        simp (disch := omega) [wrap64, gE, tP, DtCmd.cells, mkSR_el, mset_get]
        repeat' first | (refine ⟨by omega, ?_⟩) | (intro _)
        refine hK _ ?_; clear hK K
        refine AW_x rfl rfl fun K hK => ?_
        simp (disch := omega) [wrap64, gE, tP, DtCmd.cells, mkSR_el, mset_get]
        repeat' first | (refine ⟨by omega, ?_⟩) | (intro _)
        refine hK _ ?_; clear hK K
        refine AW_x rfl rfl fun K hK => ?_
        simp (disch := omega) [wrap64, gE, tP, DtCmd.cells, mkSR_el, mset_get]
        repeat' first | (refine ⟨by omega, ?_⟩) | (intro _)
        refine hK _ ?_; clear hK K
        refine AW_x rfl rfl fun K hK => ?_
        simp (disch := omega) [wrap64, gE, tP, DtCmd.cells, mkSR_el, mset_get]
        repeat' first | (exfalso; omega) | (refine XKd_v (am2s_cons am2_g am2s_nil) (markText _ (by omega)) rfl ?_; simp (disch := omega) [wrap64, gE, tP, DtCmd.cells, mkSR_el, mset_get]) | (refine XKd_p (markText _ (by omega)) (by rfl) ?_ ?_; (focus (simp (disch := omega) [wrap64, gE, tP, DtCmd.cells, mkSR_el, mset_get, take_map_n]; done)); simp (disch := omega) [wrap64, gE, tP, DtCmd.cells, mkSR_el, mset_get]) | (refine ⟨by omega, ?_⟩) | (intro _)
        refine hK _ ?_; clear hK K
        refine AW_x rfl rfl fun K hK => ?_
        simp (disch := omega) [wrap64, gE, tP, DtCmd.cells, mkSR_el, mset_get]
        repeat' first | (refine ⟨by omega, ?_⟩) | (intro _)
        refine hK _ ?_; clear hK K
        refine AW_x rfl rfl fun K hK => ?_
        simp (disch := omega) [wrap64, gE, tP, DtCmd.cells, mkSR_el, mset_get]
        repeat' first | (exfalso; omega) | (refine XKd_v (am2s_cons am2_g am2s_nil) (markText _ (by omega)) rfl ?_; simp (disch := omega) [wrap64, gE, tP, DtCmd.cells, mkSR_el, mset_get]) | (refine XKd_p (markText _ (by omega)) (by rfl) ?_ ?_; (focus (simp (disch := omega) [wrap64, gE, tP, DtCmd.cells, mkSR_el, mset_get, take_map_n]; done)); simp (disch := omega) [wrap64, gE, tP, DtCmd.cells, mkSR_el, mset_get]) | (refine ⟨by omega, ?_⟩) | (intro _)
        refine hK _ ?_; clear hK K
        refine AW_x rfl rfl fun K hK => ?_
        simp (disch := omega) [wrap64, gE, tP, DtCmd.cells, mkSR_el, mset_get]
        repeat' first | (refine ⟨by omega, ?_⟩) | (intro _)
        refine hK _ ?_; clear hK K
        refine AW_x rfl rfl fun K hK => ?_
        simp (disch := omega) [wrap64, gE, tP, DtCmd.cells, mkSR_el, mset_get]
        repeat' first | (exfalso; omega) | (refine XKd_v (am2s_cons am2_g am2s_nil) (markText _ (by omega)) rfl ?_; simp (disch := omega) [wrap64, gE, tP, DtCmd.cells, mkSR_el, mset_get]) | (refine XKd_p (markText _ (by omega)) (by rfl) ?_ ?_; (focus (simp (disch := omega) [wrap64, gE, tP, DtCmd.cells, mkSR_el, mset_get, take_map_n]; done)); simp (disch := omega) [wrap64, gE, tP, DtCmd.cells, mkSR_el, mset_get]) | (refine ⟨by omega, ?_⟩) | (intro _)
        refine hK _ ?_; clear hK K
        refine AW_x rfl rfl fun K hK => ?_
        simp (disch := omega) [wrap64, gE, tP, DtCmd.cells, mkSR_el, mset_get]
        repeat' first | (refine ⟨by omega, ?_⟩) | (intro _)
        refine hK _ ?_; clear hK K
        refine AW_x rfl rfl fun K hK => ?_
        simp (disch := omega) [wrap64, gE, tP, DtCmd.cells, mkSR_el, mset_get]
        repeat' first | (refine ⟨by omega, ?_⟩) | (intro _)
        refine hK _ ?_; clear hK K
        refine AW_x rfl rfl fun K hK => ?_
        simp (disch := omega) [wrap64, gE, tP, DtCmd.cells, mkSR_el, mset_get]
        repeat' first | (refine ⟨by omega, ?_⟩) | (intro _)
        refine hK _ ?_; clear hK K
        refine AW_xe rfl rfl fun K hK => ?_
        simp (disch := omega) [wrap64, gE, tP, DtCmd.cells, mkSR_el, mset_get]
        repeat' first | (exfalso; omega) | (refine XKd_n (n := 8) (i := i) (f0 := 7) (markStringS us[i].fChunks _ (by omega) (by omega)) ?_ ?_ ?_ ?_ rfl ?_ rfl ?_ ?_; (focus (simp; done)); (focus rfl); (focus rfl); (focus (simp [mkL_len, mkS_len]; done)); (focus (simp; done)); (focus first | exact ⟨_, mset_get _ _ _ _ (by omega), rfl⟩ | exact ⟨_, by rw [List.getElem?_map, mkSR_get _ _ _ _ _ (by omega)]; rfl, rfl⟩); simp (disch := omega) [wrap64, gE, tP, DtCmd.cells, mkSR_el, mset_get]) | (refine ⟨by omega, ?_⟩) | (intro _)
        refine hK _ ?_; clear hK K
        refine AW_id ?_
        refine AW_xe rfl rfl fun K hK => ?_
        simp (disch := omega) [wrap64, gE, tP, DtCmd.cells, mkSR_el, mset_get]
        repeat' first | (refine ⟨by omega, ?_⟩) | (intro _)
        refine hK _ ?_; clear hK K
        refine ⟨_, LeS.kx [(8, 8)] [(0, .arr 8 0 us.length), (1, (.g (.int .i64 (k + cntS cntCmd (us.take (i + 1)))))), (5, (.g (.int .i64 (((i + 1) : Nat)))))] [(8, .own 8 ((mkSR mkCmd cntCmd k us (i + 1)).map DtCmd.cells))] (by simp [KpR, renV2, renV, upd_app, lkE_app, lk_cons, lk_nil, mkSR_0, cntS_nil]; try (first | rfl | (omega; done))) (by simp [KpOX, renO, plO, cvO, renV, pl1, lk_cons, lk_nil, upd_app, mkSR_0, cntS_nil]; try (first | rfl | (rw [← mkSR_set mkCmd cntCmd k us i (by omega), List.map_set]; refine row_congr ?_; simp only [DtCmd.cells, mkCmd]; repeat' (first | rfl | (omega; done) | congr 1)))) (by rfl) (by simp) (by simp) (by rfl) (by simp [formsX, List.range_succ, lk_cons, lk_nil]), _, ?_, i + 1, rfl, ?_, rfl⟩
        · omega
        · omega
    try simp at hc1
    refine AW_exit ?_
    refine AW_id ?_
    refine AW_x rfl rfl fun K hK => ?_
    simp (disch := omega) [wrap64, gE, tP, DtCmd.cells, mkSR_el, mset_get]
    repeat' first | (exfalso; omega) | (refine ⟨fun _ => ?_, fun _ => ?_⟩) | (refine ⟨by omega, ?_⟩) | (intro _)
    all_goals (refine hK _ ?_; clear hK K)
    all_goals
     refine AW_ret (end_x [] [] (by simp [List.range_succ, lk_cons, lk_nil, upd_app]) (by simp) ?_)
     simp (disch := omega) [wrap64, gE, tP, DtCmd.cells, mkSR_el, mset_get]
     all_goals ((have e : i = us.length := by omega); subst e; rw [mkSR_n _ _ _ _ _ (by omega), List.take_of_length_le (by omega)]; exact ⟨rfl, rfl⟩)
theorem toCmdX (u : DtCmd) (hs : DtCmd.sz u ≤ 1048576) : XCall Try.prog 12 [.agg (DtCmd.cells u)] [] (.agg [.g (.int .i64 u.fKind), .g (.int .i64 u.fClient), .g (.int .i64 u.fNo), .s u.fSet, .s u.fName, .s u.fTag, .g (.int .i64 u.fN), .arr 16 0 u.fChunks.length]) [] [.own 1 (u.fChunks.map cS)] := by
  simp only [DtCmd.sz] at hs
  have hz1 := len_szS lenZ_nonneg u.fChunks
  refine xcall_of_walk Try.func12 (by rfl) (by rfl) (by rw [Try.ntmps12]; exact Nat.le_of_ble_eq_true rfl) rfl (by simp) rfl rfl ?_
  rw [Try.ntmps12]
  refine AW_x0   ?_
  refine AW_k [(0, _)] ⟨rfl, trivial⟩ ?_
  refine AW_x rfl rfl fun K hK => ?_
  simp (disch := omega) [wrap64, gE, tP, DtCmd.cells]
  repeat' first | (refine ⟨by omega, ?_⟩) | (intro _)
  refine hK _ ?_; clear hK K
  refine AW_x rfl rfl fun K hK => ?_
  simp (disch := omega) [wrap64, gE, tP, DtCmd.cells]
  repeat' first | (refine ⟨by omega, ?_⟩) | (intro _)
  refine hK _ ?_; clear hK K
  refine AW_x rfl rfl fun K hK => ?_
  simp (disch := omega) [wrap64, gE, tP, DtCmd.cells]
  repeat' first | (refine ⟨by omega, ?_⟩) | (intro _)
  refine hK _ ?_; clear hK K
  refine AW_x rfl rfl fun K hK => ?_
  simp (disch := omega) [wrap64, gE, tP, DtCmd.cells]
  repeat' first | (refine ⟨by omega, ?_⟩) | (intro _)
  refine hK _ ?_; clear hK K
  refine AW_x rfl rfl fun K hK => ?_
  simp (disch := omega) [wrap64, gE, tP, DtCmd.cells]
  repeat' first | (refine ⟨by omega, ?_⟩) | (intro _)
  refine hK _ ?_; clear hK K
  refine AW_x rfl rfl fun K hK => ?_
  simp (disch := omega) [wrap64, gE, tP, DtCmd.cells]
  repeat' first | (refine ⟨by omega, ?_⟩) | (intro _)
  refine hK _ ?_; clear hK K
  refine AW_x rfl rfl fun K hK => ?_
  simp (disch := omega) [wrap64, gE, tP, DtCmd.cells]
  repeat' first | (refine ⟨by omega, ?_⟩) | (intro _)
  refine hK _ ?_; clear hK K
  refine AW_x rfl rfl fun K hK => ?_
  simp (disch := omega) [wrap64, gE, tP, DtCmd.cells]
  repeat' first | (refine ⟨by omega, ?_⟩) | (intro _)
  refine hK _ ?_; clear hK K
  refine AW_x rfl rfl fun K hK => ?_
  simp (disch := omega) [wrap64, gE, tP, DtCmd.cells]
  repeat' first | (refine ⟨by omega, ?_⟩) | (intro _)
  refine hK _ ?_; clear hK K
  refine AW_x rfl rfl fun K hK => ?_
  simp (disch := omega) [wrap64, gE, tP, DtCmd.cells]
  repeat' first | (exfalso; omega) | (refine XKd_x [] true [] (toStringSX u.fChunks (by omega)) ?_ ?_ ?_; (focus (simp [List.range_succ, nmC]; done)); (focus (simp (disch := omega) [wrap64, gE, tP, DtCmd.cells, take_map_n]; done)); simp (disch := omega) [wrap64, gE, tP, DtCmd.cells]) | (refine ⟨by omega, ?_⟩) | (intro _)
  refine hK _ ?_; clear hK K
  refine AW_x rfl rfl fun K hK => ?_
  simp (disch := omega) [wrap64, gE, tP, DtCmd.cells]
  repeat' first | (refine ⟨by omega, ?_⟩) | (intro _)
  refine hK _ ?_; clear hK K
  refine AW_ret (end_x [448] [] (by simp [List.range_succ, lk_cons, lk_nil, upd_app]) (by simp) ?_)
  simp (disch := omega) [wrap64, gE, tP, DtCmd.cells]
  all_goals skip
theorem toCmdSX (us : List DtCmd) (hs : szS DtCmd.sz us ≤ 1048576) : XCall Try.prog 21 [.sl 8 (us.map DtCmd.cells)] [] (.arr 16 0 us.length) [] [.own 8 (us.map DtCmd.cells)] := by
  have hL : us.length ≤ 1048576 := by have := len_szS DtCmd.sz_nonneg us; omega
  refine xcall_of_walk Try.func21 (by rfl) (by rfl) (by rw [Try.ntmps21]; exact Nat.le_of_ble_eq_true rfl) rfl (by simp) rfl rfl ?_
  rw [Try.ntmps21]
  refine AW_x0   ?_
  refine AW_k [(0, _)] ⟨rfl, trivial⟩ ?_
  refine AW_x rfl rfl fun K hK => ?_
  simp (disch := omega) [wrap64, gE, tP, DtCmd.cells, cpS_el, mset_get, List.range_succ]
  repeat' first | (refine ⟨by omega, ?_⟩) | (intro _)
  refine hK _ ?_; clear hK K
  refine AW_x rfl rfl fun K hK => ?_
  simp (disch := omega) [wrap64, gE, tP, DtCmd.cells, cpS_el, mset_get, List.range_succ]
  repeat' first | (refine ⟨by omega, ?_⟩) | (intro _)
  refine hK _ ?_; clear hK K
  refine AW_seq ?_
  refine AW_x rfl rfl fun K hK => ?_
  simp (disch := omega) [wrap64, gE, tP, DtCmd.cells, cpS_el, mset_get, List.range_succ]
  repeat' first | (refine ⟨by omega, ?_⟩) | (intro _)
  refine hK _ ?_; clear hK K
  refine AW_block ?_
  refine AW_loopS (fun mM sS => ∃ (i : Nat), mM = us.length - i ∧ (i ≤ us.length) ∧ sS = { env := lkE [(0, .sl 8 (us.map DtCmd.cells)), (3, .arr 128 0 us.length), (4, (.g (.int .i64 ((i : Nat)))))], ob := lk [(128, .own 8 (cpS [.g (.int .i64 0), .g (.int .i64 0), .g (.int .i64 0), .s [], .s [], .s [], .g (.int .i64 0), .g (.slice none 0 0)] DtCmd.cells us i))] }) ?_ ?_
  · refine ⟨_, LeS.kx [(128, 128)] [(0, .sl 8 (us.map DtCmd.cells)), (3, .arr 128 0 us.length), (4, (.g (.int .i64 (((0) : Nat)))))] [(128, .own 8 (cpS [.g (.int .i64 0), .g (.int .i64 0), .g (.int .i64 0), .s [], .s [], .s [], .g (.int .i64 0), .g (.slice none 0 0)] DtCmd.cells us (0)))] (by simp [KpR, renV2, renV, upd_app, lkE_app, lk_cons, lk_nil, cpS_0, scR_rep]; try (first | rfl | (omega; done))) (by simp [KpOX, renO, plO, cvO, renV, pl1, lk_cons, lk_nil, upd_app, cpS_0, scR_rep]; try (first | rfl | (rw [← cpS_set _ _ _ i (by omega)]; simp [DtCmd.cells]; done))) (by rfl) (by simp) (by simp) (by rfl) (by simp [formsX, List.range_succ, lk_cons, lk_nil]), _, 0, rfl, ?_, rfl⟩
    · simp
  · rintro mM sS ⟨i, rfl, hi, rfl⟩
    have hln : (cpS [.g (.int .i64 0), .g (.int .i64 0), .g (.int .i64 0), .s [], .s [], .s [], .g (.int .i64 0), .g (.slice none 0 0)] DtCmd.cells us i).length = us.length := cpS_len _ _ _ _ hi
    refine AW_seq ?_
    refine AW_x rfl rfl fun K hK => ?_
    simp (disch := omega) [wrap64, gE, tP, DtCmd.cells, cpS_el, mset_get, List.range_succ]
    repeat' first | (refine ⟨by omega, ?_⟩) | (intro _)
    refine hK _ ?_; clear hK K
    refine AW_cond rfl (fun hc2 => ?_) (fun hc2 => ?_)
    · try simp at hc2
      all_goals
       have hsE : DtCmd.sz us[i] ≤ 1048576 := by have := sumZ_mem_le DtCmd.sz_nonneg us us[i] (List.getElem_mem _); simp only [szS] at hs; omega
       refine AW_skip ?_
       refine AW_id ?_
       refine AW_seq ?_
       refine AW_block ?_
       refine AW_xe rfl rfl fun K hK => ?_
       simp (disch := omega) [wrap64, gE, tP, DtCmd.cells, cpS_el, mset_get, List.range_succ]
       repeat' first | (exfalso; omega) | (refine XKd_x [] true [] (toCmdX us[i] (by omega)) ?_ ?_ ?_; (focus (simp [List.range_succ, nmC]; done)); (focus (simp (disch := omega) [wrap64, gE, tP, DtCmd.cells, cpS_el, mset_get, List.range_succ, take_map_n]; done)); simp (disch := omega) [wrap64, gE, tP, DtCmd.cells, cpS_el, mset_get, List.range_succ]) | (refine ⟨fun _ => ?_, fun _ => ?_⟩) | (refine ⟨by omega, ?_⟩) | (intro _)
       all_goals (refine hK _ ?_; clear hK K)
       all_goals
        refine AW_id ?_
        refine AW_xe rfl rfl fun K hK => ?_
        simp (disch := omega) [wrap64, gE, tP, DtCmd.cells, cpS_el, mset_get, List.range_succ]
        repeat' first | (refine ⟨by omega, ?_⟩) | (intro _)
        refine hK _ ?_; clear hK K
        refine ⟨_, LeS.kx [(128, 128)] [(0, .sl 8 (us.map DtCmd.cells)), (3, .arr 128 0 us.length), (4, (.g (.int .i64 (((i + 1) : Nat)))))] [(128, .own 8 (cpS [.g (.int .i64 0), .g (.int .i64 0), .g (.int .i64 0), .s [], .s [], .s [], .g (.int .i64 0), .g (.slice none 0 0)] DtCmd.cells us (i + 1)))] (by simp [KpR, renV2, renV, upd_app, lkE_app, lk_cons, lk_nil, cpS_0, scR_rep]; try (first | rfl | (omega; done))) (by simp [KpOX, renO, plO, cvO, renV, pl1, lk_cons, lk_nil, upd_app, cpS_0, scR_rep]; try (first | rfl | (rw [← cpS_set _ _ _ i (by omega)]; simp [DtCmd.cells]; done))) (by rfl) (by simp) (by simp) (by rfl) (by simp [formsX, List.range_succ, lk_cons, lk_nil]), _, ?_, i + 1, rfl, ?_, rfl⟩
        · omega
        · omega
    try simp at hc2
    refine AW_exit ?_
    refine AW_id ?_
    refine AW_x rfl rfl fun K hK => ?_
    simp (disch := omega) [wrap64, gE, tP, DtCmd.cells, cpS_el, mset_get, List.range_succ]
    repeat' first | (exfalso; omega) | (refine ⟨fun _ => ?_, fun _ => ?_⟩) | (refine ⟨by omega, ?_⟩) | (intro _)
    all_goals (refine hK _ ?_; clear hK K)
    all_goals
     refine AW_ret (end_x [128] [] (by simp [List.range_succ, lk_cons, lk_nil, upd_app]) (by simp) ?_)
     simp (disch := omega) [wrap64, gE, tP, DtCmd.cells, cpS_el, mset_get, List.range_succ]
     all_goals (rw [cpS_n _ _ _ _ (by omega)])
def mvCmd (k : Int) (u : DtCmd) : DtCmd := { fKind := u.fKind, fClient := u.fClient, fNo := u.fNo, fSet := u.fSet, fName := u.fName, fTag := u.fTag, fN := u.fN, fChunks := mkL mT (k) u.fChunks.length }
def cvCmd (u : DtCmd) : Int := (u.fChunks.length : Nat)
def mkCSnap (k : Int) (u : DtCSnap) : DtCSnap := { fName := mT (k), fTag := mT (k + 1), fChunks := mkL mT (k + 1 + 1) u.fChunks.length }
def cntCSnap (u : DtCSnap) : Int := 1 + 1 + (u.fChunks.length : Nat)
theorem cntCSnap_nn (u : DtCSnap) : 0 ≤ cntCSnap u := by
  unfold cntCSnap
  omega
theorem cntCSnap_sz (u : DtCSnap) : cntCSnap u ≤ 16 * (1 + DtCSnap.sz u) := by
  have := len_szS lenZ_nonneg u.fChunks
  unfold cntCSnap
  simp only [DtCSnap.sz]
  omega
theorem markCSnapS (us : List DtCSnap) (k : Int) (hs : szS DtCSnap.sz us ≤ 1048576) (hk : 0 ≤ k ∧ k + cntS cntCSnap us ≤ 1073741824) : XCall Try.prog 108 [.arr 8 0 us.length, (.g (.int .i64 (k)))] [.own 3 (us.map DtCSnap.cells)] (.g (.int .i64 (k + cntS cntCSnap us))) [.own 3 ((mkS mkCSnap cntCSnap k us).map DtCSnap.cells)] [] := by
  have hL : us.length ≤ 1048576 := by have := len_szS DtCSnap.sz_nonneg us; omega
  refine xcall_of_walk Try.func108 (by rfl) (by rfl) (by rw [Try.ntmps108]; exact Nat.le_of_ble_eq_true rfl) rfl (by simp) rfl rfl ?_
  rw [Try.ntmps108]
  refine AW_x1 (.own 3 (us.map DtCSnap.cells)) (by simp [cvO] <;> assumption) ?_
  refine AW_k [(0, _), (1, _)] ⟨rfl, rfl, trivial⟩ ?_
  refine AW_x rfl rfl fun K hK => ?_
  simp (disch := omega) [wrap64, gE, tP, DtCSnap.cells, mkSR_el, mset_get]
  repeat' first | (refine ⟨by omega, ?_⟩) | (intro _)
  refine hK _ ?_; clear hK K
  refine AW_seq ?_
  refine AW_x rfl rfl fun K hK => ?_
  simp (disch := omega) [wrap64, gE, tP, DtCSnap.cells, mkSR_el, mset_get]
  repeat' first | (refine ⟨by omega, ?_⟩) | (intro _)
  refine hK _ ?_; clear hK K
  refine AW_block ?_
  refine AW_loopS (fun mM sS => ∃ (i : Nat), mM = us.length - i ∧ (i ≤ us.length) ∧ sS = { env := lkE [(0, .arr 8 0 us.length), (1, (.g (.int .i64 (k + cntS cntCSnap (us.take i))))), (5, (.g (.int .i64 ((i : Nat)))))], ob := lk [(8, .own 3 ((mkSR mkCSnap cntCSnap k us i).map DtCSnap.cells))] }) ?_ ?_
  · refine ⟨_, LeS.kx [(8, 8)] [(0, .arr 8 0 us.length), (1, (.g (.int .i64 (k + cntS cntCSnap (us.take (0)))))), (5, (.g (.int .i64 (((0) : Nat)))))] [(8, .own 3 ((mkSR mkCSnap cntCSnap k us (0)).map DtCSnap.cells))] (by simp [KpR, renV2, renV, upd_app, lkE_app, lk_cons, lk_nil, mkSR_0, cntS_nil]; try (first | rfl | (omega; done))) (by simp [KpOX, renO, plO, cvO, renV, pl1, lk_cons, lk_nil, upd_app, mkSR_0, cntS_nil]; try (first | rfl | (rw [← mkSR_set mkCSnap cntCSnap k us i (by omega), List.map_set]; refine row_congr ?_; simp only [DtCSnap.cells, mkCSnap]; repeat' (first | rfl | (omega; done) | congr 1)))) (by rfl) (by simp) (by simp) (by rfl) (by simp [formsX, List.range_succ, lk_cons, lk_nil]), _, 0, rfl, ?_, rfl⟩
    · simp
  · rintro mM sS ⟨i, rfl, hi, rfl⟩
    have hln : (mkSR mkCSnap cntCSnap k us i).length = us.length := mkSR_len _ _ _ _ _ hi
    refine AW_seq ?_
    refine AW_x rfl rfl fun K hK => ?_
    simp (disch := omega) [wrap64, gE, tP, DtCSnap.cells, mkSR_el, mset_get]
    repeat' first | (refine ⟨by omega, ?_⟩) | (intro _)
    refine hK _ ?_; clear hK K
    refine AW_cond rfl (fun hc3 => ?_) (fun hc3 => ?_)
    · try simp at hc3
      all_goals
       have hcl := cntS_le cntCSnap_nn us i (by omega)
       have hcu : cntCSnap us[i] = 1 + 1 + (us[i].fChunks.length : Nat) := rfl
       have hcs := cntS_succ cntCSnap us i (by omega)
       have hzn1 := len_szS lenZ_nonneg us[i].fChunks
       have hsE : DtCSnap.sz us[i] ≤ 1048576 := by have := sumZ_mem_le DtCSnap.sz_nonneg us us[i] (List.getElem_mem _); simp only [szS] at hs; omega
       simp only [DtCSnap.sz] at hsE
       refine AW_skip ?_
       refine AW_id ?_
       refine AW_seq ?_
       refine AW_block ?_
       refine AW_x rfl rfl fun K hK => ?_
       simp (disch := omega) [wrap64, gE, tP, DtCSnap.cells, mkSR_el, mset_get]
       repeat' first | (exfalso; omega) | (refine XKd_v (am2s_cons am2_g am2s_nil) (markText _ (by omega)) rfl ?_; simp (disch := omega) [wrap64, gE, tP, DtCSnap.cells, mkSR_el, mset_get]) | (refine XKd_p (markText _ (by omega)) (by rfl) ?_ ?_; (focus (simp (disch := omega) [wrap64, gE, tP, DtCSnap.cells, mkSR_el, mset_get, take_map_n]; done)); simp (disch := omega) [wrap64, gE, tP, DtCSnap.cells, mkSR_el, mset_get]) | (refine ⟨fun _ => ?_, fun _ => ?_⟩) | (refine ⟨by omega, ?_⟩) | (intro _)
       all_goals (refine hK _ ?_; clear hK K)
       all_goals
        refine AW_x rfl rfl fun K hK => ?_
        simp (disch := omega) [wrap64, gE, tP, DtCSnap.cells, mkSR_el, mset_get]
        repeat' first | (refine ⟨by omega, ?_⟩) | (intro _)
        refine hK _ ?_; clear hK K
        refine AW_x rfl rfl fun K hK => ?_
        simp (disch := omega) [wrap64, gE, tP, DtCSnap.cells, mkSR_el, mset_get]
        repeat' first | (exfalso; omega) | (refine XKd_v (am2s_cons am2_g am2s_nil) (markText _ (by omega)) rfl ?_; simp (disch := omega) [wrap64, gE, tP, DtCSnap.cells, mkSR_el, mset_get]) | (refine XKd_p (markText _ (by omega)) (by rfl) ?_ ?_; (focus (simp (disch := omega) [wrap64, gE, tP, DtCSnap.cells, mkSR_el, mset_get, take_map_n]; done)); simp (disch := omega) [wrap64, gE, tP, DtCSnap.cells, mkSR_el, mset_get]) | (refine ⟨by omega, ?_⟩) | (intro _)
        refine hK _ ?_; clear hK K
        refine AW_x rfl rfl fun K hK => ?_
        simp (disch := omega) [wrap64, gE, tP, DtCSnap.cells, mkSR_el, mset_get]
        repeat' first | (refine ⟨by omega, ?_⟩) | (intro _)
        refine hK _ ?_; clear hK K
        refine AW_xe rfl rfl fun K hK => ?_
        simp (disch := omega) [wrap64, gE, tP, DtCSnap.cells, mkSR_el, mset_get]
        repeat' first | (exfalso; omega) | (refine XKd_n (n := 8) (i := i) (f0 := 2) (markStringS us[i].fChunks _ (by omega) (by omega)) ?_ ?_ ?_ ?_ rfl ?_ rfl ?_ ?_; (focus (simp; done)); (focus rfl); (focus rfl); (focus (simp [mkL_len, mkS_len]; done)); (focus (simp; done)); (focus first | exact ⟨_, mset_get _ _ _ _ (by omega), rfl⟩ | exact ⟨_, by rw [List.getElem?_map, mkSR_get _ _ _ _ _ (by omega)]; rfl, rfl⟩); simp (disch := omega) [wrap64, gE, tP, DtCSnap.cells, mkSR_el, mset_get]) | (refine ⟨by omega, ?_⟩) | (intro _)
        refine hK _ ?_; clear hK K
        refine AW_id ?_
        refine AW_xe rfl rfl fun K hK => ?_
        simp (disch := omega) [wrap64, gE, tP, DtCSnap.cells, mkSR_el, mset_get]
        repeat' first | (refine ⟨by omega, ?_⟩) | (intro _)
        refine hK _ ?_; clear hK K
        refine ⟨_, LeS.kx [(8, 8)] [(0, .arr 8 0 us.length), (1, (.g (.int .i64 (k + cntS cntCSnap (us.take (i + 1)))))), (5, (.g (.int .i64 (((i + 1) : Nat)))))] [(8, .own 3 ((mkSR mkCSnap cntCSnap k us (i + 1)).map DtCSnap.cells))] (by simp [KpR, renV2, renV, upd_app, lkE_app, lk_cons, lk_nil, mkSR_0, cntS_nil]; try (first | rfl | (omega; done))) (by simp [KpOX, renO, plO, cvO, renV, pl1, lk_cons, lk_nil, upd_app, mkSR_0, cntS_nil]; try (first | rfl | (rw [← mkSR_set mkCSnap cntCSnap k us i (by omega), List.map_set]; refine row_congr ?_; simp only [DtCSnap.cells, mkCSnap]; repeat' (first | rfl | (omega; done) | congr 1)))) (by rfl) (by simp) (by simp) (by rfl) (by simp [formsX, List.range_succ, lk_cons, lk_nil]), _, ?_, i + 1, rfl, ?_, rfl⟩
        · omega
        · omega
    try simp at hc3
    refine AW_exit ?_
    refine AW_id ?_
    refine AW_x rfl rfl fun K hK => ?_
    simp (disch := omega) [wrap64, gE, tP, DtCSnap.cells, mkSR_el, mset_get]
    repeat' first | (exfalso; omega) | (refine ⟨fun _ => ?_, fun _ => ?_⟩) | (refine ⟨by omega, ?_⟩) | (intro _)
    all_goals (refine hK _ ?_; clear hK K)
    all_goals
     refine AW_ret (end_x [] [] (by simp [List.range_succ, lk_cons, lk_nil, upd_app]) (by simp) ?_)
     simp (disch := omega) [wrap64, gE, tP, DtCSnap.cells, mkSR_el, mset_get]
     all_goals ((have e : i = us.length := by omega); subst e; rw [mkSR_n _ _ _ _ _ (by omega), List.take_of_length_le (by omega)]; exact ⟨rfl, rfl⟩)
theorem heldCSnapS (us : List DtCSnap) (k : Int) (hs : szS DtCSnap.sz us ≤ 1048576) (hk : 0 ≤ k ∧ k + cntS cntCSnap us ≤ 1073741824) : PCall Try.prog 109 [.sl 3 ((mkS mkCSnap cntCSnap k us).map DtCSnap.cells), (.g (.int .i64 (k)))] (.g (.int .i64 (k + cntS cntCSnap us))) := by
  have hL : us.length ≤ 1048576 := by have := len_szS DtCSnap.sz_nonneg us; omega
  refine gcall_of_walk Try.func109 (by rfl) (by rfl) (by rw [Try.ntmps109]; exact Nat.le_of_ble_eq_true rfl) rfl (by decide) ?_
  rw [Try.ntmps109]
  refine AW_k [(0, _), (1, _)] ⟨rfl, rfl, trivial⟩ ?_
  refine AW_r rfl rfl fun K hK => ?_
  simp (disch := omega) [wrap64, gE, tP, DtCSnap.cells, mkS_el, mkCSnap]
  repeat' first | (refine ⟨by omega, ?_⟩) | (intro _)
  refine hK _ ?_; clear hK K
  refine AW_seq ?_
  refine AW_r rfl rfl fun K hK => ?_
  simp (disch := omega) [wrap64, gE, tP, DtCSnap.cells, mkS_el, mkCSnap]
  repeat' first | (refine ⟨by omega, ?_⟩) | (intro _)
  refine hK _ ?_; clear hK K
  refine AW_block ?_
  refine AW_loopS (fun mM sS => ∃ (i : Nat), mM = us.length - i ∧ (i ≤ us.length) ∧ sS = { env := lkE [(0, .sl 3 ((mkS mkCSnap cntCSnap k us).map DtCSnap.cells)), (1, (.g (.int .i64 (k + cntS cntCSnap (us.take i))))), (5, (.g (.int .i64 ((i : Nat)))))], ob := formOb [] [] }) ?_ ?_
  · refine ⟨_, LeS.kp [(0, .sl 3 ((mkS mkCSnap cntCSnap k us).map DtCSnap.cells)), (1, (.g (.int .i64 (k + cntS cntCSnap (us.take (0)))))), (5, (.g (.int .i64 (((0) : Nat)))))] (by simp [KpE, upd_app, lkE_app, lk_cons, cntS_nil]; try (first | rfl | (omega; done))), _, 0, rfl, ?_, rfl⟩
    · simp
  · rintro mM sS ⟨i, rfl, hi, rfl⟩
    have hln : (mkS mkCSnap cntCSnap k us).length = us.length := mkS_len _ _ _ _
    refine AW_seq ?_
    refine AW_r rfl rfl fun K hK => ?_
    simp (disch := omega) [wrap64, gE, tP, DtCSnap.cells, mkS_el, mkCSnap]
    repeat' first | (refine ⟨by omega, ?_⟩) | (intro _)
    refine hK _ ?_; clear hK K
    refine AW_cond rfl (fun hc4 => ?_) (fun hc4 => ?_)
    · try simp at hc4
      all_goals
       have hcl := cntS_le cntCSnap_nn us i (by omega)
       have hcu : cntCSnap us[i] = 1 + 1 + (us[i].fChunks.length : Nat) := rfl
       have hcs := cntS_succ cntCSnap us i (by omega)
       have hzn1 := len_szS lenZ_nonneg us[i].fChunks
       have hsE : DtCSnap.sz us[i] ≤ 1048576 := by have := sumZ_mem_le DtCSnap.sz_nonneg us us[i] (List.getElem_mem _); simp only [szS] at hs; omega
       simp only [DtCSnap.sz] at hsE
       refine AW_skip ?_
       refine AW_id ?_
       refine AW_seq ?_
       refine AW_block ?_
       refine AW_seq ?_
       refine AW_q rfl mix (by kernel_rfl) rfl fun K hK => ?_
       simp (disch := omega) [wrap64, gE, tP, DtCSnap.cells, mkS_el, mkCSnap]
       repeat' first | (exfalso; omega) | (refine CKd_v (am2s_cons am2_g am2s_nil) (markText _ (by omega)) rfl ?_; simp (disch := omega) [wrap64, gE, tP, DtCSnap.cells, mkS_el, mkCSnap]) | (refine ⟨fun _ => ?_, fun _ => ?_⟩) | (refine ⟨by omega, ?_⟩) | (intro _)
       all_goals (refine hK _ ?_; clear hK K)
       all_goals
        refine AW_cond rfl (fun hc5 => ?_) (fun hc5 => ?_)
        · try simp at hc5
          all_goals
           refine AW_r rfl rfl fun K hK => ?_
           simp (disch := omega) [wrap64, gE, tP, DtCSnap.cells, mkS_el, mkCSnap]
           repeat' first | (exfalso; omega) | (refine ⟨fun _ => ?_, fun _ => ?_⟩) | (refine ⟨by omega, ?_⟩) | (intro _)
           all_goals (refine hK _ ?_; clear hK K)
           all_goals
            refine AW_ret (end_s ?_)
            simp (disch := omega) [wrap64, gE, tP, DtCSnap.cells, mkS_el, mkCSnap]
            all_goals first | omega | ((have e : i = us.length := by omega); subst e; rw [List.take_of_length_le (by omega)])
        try simp at hc5
        refine AW_skip ?_
        refine AW_id ?_
        refine AW_r rfl rfl fun K hK => ?_
        simp (disch := omega) [wrap64, gE, tP, DtCSnap.cells, mkS_el, mkCSnap]
        repeat' first | (exfalso; omega) | (refine ⟨fun _ => ?_, fun _ => ?_⟩) | (refine ⟨by omega, ?_⟩) | (intro _)
        all_goals (refine hK _ ?_; clear hK K)
        all_goals
         refine AW_seq ?_
         refine AW_q rfl mix (by kernel_rfl) rfl fun K hK => ?_
         simp (disch := omega) [wrap64, gE, tP, DtCSnap.cells, mkS_el, mkCSnap]
         repeat' first | (exfalso; omega) | (refine CKd_v (am2s_cons am2_g am2s_nil) (markText _ (by omega)) rfl ?_; simp (disch := omega) [wrap64, gE, tP, DtCSnap.cells, mkS_el, mkCSnap]) | (refine ⟨by omega, ?_⟩) | (intro _)
         refine hK _ ?_; clear hK K
         refine AW_cond rfl (fun hc6 => ?_) (fun hc6 => ?_)
         · try simp at hc6
           all_goals
            refine AW_r rfl rfl fun K hK => ?_
            simp (disch := omega) [wrap64, gE, tP, DtCSnap.cells, mkS_el, mkCSnap]
            repeat' first | (exfalso; omega) | (refine ⟨fun _ => ?_, fun _ => ?_⟩) | (refine ⟨by omega, ?_⟩) | (intro _)
            all_goals (refine hK _ ?_; clear hK K)
            all_goals
             refine AW_ret (end_s ?_)
             simp (disch := omega) [wrap64, gE, tP, DtCSnap.cells, mkS_el, mkCSnap]
             all_goals first | omega | ((have e : i = us.length := by omega); subst e; rw [List.take_of_length_le (by omega)])
         try simp at hc6
         refine AW_skip ?_
         refine AW_id ?_
         refine AW_r rfl rfl fun K hK => ?_
         simp (disch := omega) [wrap64, gE, tP, DtCSnap.cells, mkS_el, mkCSnap]
         repeat' first | (exfalso; omega) | (refine ⟨fun _ => ?_, fun _ => ?_⟩) | (refine ⟨by omega, ?_⟩) | (intro _)
         all_goals (refine hK _ ?_; clear hK K)
         all_goals
          refine AW_r rfl rfl fun K hK => ?_
          simp (disch := omega) [wrap64, gE, tP, DtCSnap.cells, mkS_el, mkCSnap]
          repeat' first | (exfalso; omega) | (refine CKd_v (am2s_cons am2_sl (am2s_cons am2_g am2s_nil)) (heldStringS us[i].fChunks.length _ (by omega) (by omega)) rfl ?_; simp (disch := omega) [wrap64, gE, tP, DtCSnap.cells, mkS_el, mkCSnap]) | (refine ⟨by omega, ?_⟩) | (intro _)
          refine hK _ ?_; clear hK K
          refine AW_r rfl rfl fun K hK => ?_
          simp (disch := omega) [wrap64, gE, tP, DtCSnap.cells, mkS_el, mkCSnap]
          repeat' first | (refine ⟨by omega, ?_⟩) | (intro _)
          refine hK _ ?_; clear hK K
          refine AW_cond rfl (fun hc7 => ?_) (fun hc7 => ?_)
          · try simp at hc7
            all_goals
             refine AW_r rfl rfl fun K hK => ?_
             simp (disch := omega) [wrap64, gE, tP, DtCSnap.cells, mkS_el, mkCSnap]
             repeat' first | (exfalso; omega) | (refine ⟨fun _ => ?_, fun _ => ?_⟩) | (refine ⟨by omega, ?_⟩) | (intro _)
             all_goals (refine hK _ ?_; clear hK K)
             all_goals
              refine AW_ret (end_s ?_)
              simp (disch := omega) [wrap64, gE, tP, DtCSnap.cells, mkS_el, mkCSnap]
              all_goals first | omega | ((have e : i = us.length := by omega); subst e; rw [List.take_of_length_le (by omega)])
          try simp at hc7
          refine AW_skip ?_
          refine AW_id ?_
          refine AW_re rfl rfl fun K hK => ?_
          simp (disch := omega) [wrap64, gE, tP, DtCSnap.cells, mkS_el, mkCSnap]
          repeat' first | (exfalso; omega) | (refine ⟨fun _ => ?_, fun _ => ?_⟩) | (refine ⟨by omega, ?_⟩) | (intro _)
          all_goals (refine hK _ ?_; clear hK K)
          all_goals
           refine ⟨_, LeS.kp [(0, .sl 3 ((mkS mkCSnap cntCSnap k us).map DtCSnap.cells)), (1, (.g (.int .i64 (k + cntS cntCSnap (us.take (i + 1)))))), (5, (.g (.int .i64 (((i + 1) : Nat)))))] (by simp [KpE, upd_app, lkE_app, lk_cons, cntS_nil]; try (first | rfl | (omega; done))), _, ?_, i + 1, rfl, ?_, rfl⟩
           · omega
           · omega
    try simp at hc4
    refine AW_exit ?_
    refine AW_id ?_
    refine AW_r rfl rfl fun K hK => ?_
    simp (disch := omega) [wrap64, gE, tP, DtCSnap.cells, mkS_el, mkCSnap]
    repeat' first | (exfalso; omega) | (refine ⟨fun _ => ?_, fun _ => ?_⟩) | (refine ⟨by omega, ?_⟩) | (intro _)
    all_goals (refine hK _ ?_; clear hK K)
    all_goals
     refine AW_ret (end_s ?_)
     simp (disch := omega) [wrap64, gE, tP, DtCSnap.cells, mkS_el, mkCSnap]
     all_goals first | omega | ((have e : i = us.length := by omega); subst e; rw [List.take_of_length_le (by omega)])
def mkCSet (k : Int) (u : DtCSet) : DtCSet := { fName := mT (k), fSnaps := mkS mkCSnap cntCSnap (k + 1) u.fSnaps }
def cntCSet (u : DtCSet) : Int := 1 + cntS cntCSnap u.fSnaps
theorem cntCSet_nn (u : DtCSet) : 0 ≤ cntCSet u := by
  have := cntS_nn cntCSnap_nn u.fSnaps
  unfold cntCSet
  omega
theorem cntCSet_sz (u : DtCSet) : cntCSet u ≤ 16 * (1 + DtCSet.sz u) := by
  have := cnt_sz cntCSnap_sz u.fSnaps
  unfold cntCSet
  simp only [DtCSet.sz]
  omega
theorem markCSetS (us : List DtCSet) (k : Int) (hs : szS DtCSet.sz us ≤ 1048576) (hk : 0 ≤ k ∧ k + cntS cntCSet us ≤ 1073741824) : XCall Try.prog 67 [.arr 8 0 us.length, (.g (.int .i64 (k)))] [.own 2 (us.map DtCSet.cells)] (.g (.int .i64 (k + cntS cntCSet us))) [.own 2 ((mkS mkCSet cntCSet k us).map DtCSet.cells)] [] := by
  have hL : us.length ≤ 1048576 := by have := len_szS DtCSet.sz_nonneg us; omega
  refine xcall_of_walk Try.func67 (by rfl) (by rfl) (by rw [Try.ntmps67]; exact Nat.le_of_ble_eq_true rfl) rfl (by simp) rfl rfl ?_
  rw [Try.ntmps67]
  refine AW_x1 (.own 2 (us.map DtCSet.cells)) (by simp [cvO] <;> assumption) ?_
  refine AW_k [(0, _), (1, _)] ⟨rfl, rfl, trivial⟩ ?_
  refine AW_x rfl rfl fun K hK => ?_
  simp (disch := omega) [wrap64, gE, tP, DtCSet.cells, mkSR_el, mset_get]
  repeat' first | (refine ⟨by omega, ?_⟩) | (intro _)
  refine hK _ ?_; clear hK K
  refine AW_seq ?_
  refine AW_x rfl rfl fun K hK => ?_
  simp (disch := omega) [wrap64, gE, tP, DtCSet.cells, mkSR_el, mset_get]
  repeat' first | (refine ⟨by omega, ?_⟩) | (intro _)
  refine hK _ ?_; clear hK K
  refine AW_block ?_
  refine AW_loopS (fun mM sS => ∃ (i : Nat), mM = us.length - i ∧ (i ≤ us.length) ∧ sS = { env := lkE [(0, .arr 8 0 us.length), (1, (.g (.int .i64 (k + cntS cntCSet (us.take i))))), (5, (.g (.int .i64 ((i : Nat)))))], ob := lk [(8, .own 2 ((mkSR mkCSet cntCSet k us i).map DtCSet.cells))] }) ?_ ?_
  · refine ⟨_, LeS.kx [(8, 8)] [(0, .arr 8 0 us.length), (1, (.g (.int .i64 (k + cntS cntCSet (us.take (0)))))), (5, (.g (.int .i64 (((0) : Nat)))))] [(8, .own 2 ((mkSR mkCSet cntCSet k us (0)).map DtCSet.cells))] (by simp [KpR, renV2, renV, upd_app, lkE_app, lk_cons, lk_nil, mkSR_0, cntS_nil]; try (first | rfl | (omega; done))) (by simp [KpOX, renO, plO, cvO, renV, pl1, lk_cons, lk_nil, upd_app, mkSR_0, cntS_nil]; try (first | rfl | (rw [← mkSR_set mkCSet cntCSet k us i (by omega), List.map_set]; refine row_congr ?_; simp only [DtCSet.cells, mkCSet]; repeat' (first | rfl | (omega; done) | congr 1)))) (by rfl) (by simp) (by simp) (by rfl) (by simp [formsX, List.range_succ, lk_cons, lk_nil]), _, 0, rfl, ?_, rfl⟩
    · simp
  · rintro mM sS ⟨i, rfl, hi, rfl⟩
    have hln : (mkSR mkCSet cntCSet k us i).length = us.length := mkSR_len _ _ _ _ _ hi
    refine AW_seq ?_
    refine AW_x rfl rfl fun K hK => ?_
    simp (disch := omega) [wrap64, gE, tP, DtCSet.cells, mkSR_el, mset_get]
    repeat' first | (refine ⟨by omega, ?_⟩) | (intro _)
    refine hK _ ?_; clear hK K
    refine AW_cond rfl (fun hc9 => ?_) (fun hc9 => ?_)
    · try simp at hc9
      all_goals
       have hcl := cntS_le cntCSet_nn us i (by omega)
       have hcu : cntCSet us[i] = 1 + cntS cntCSnap us[i].fSnaps := rfl
       have hcs := cntS_succ cntCSet us i (by omega)
       have hcn1 := cntS_nn cntCSnap_nn us[i].fSnaps
       have hzn2 := len_szS DtCSnap.sz_nonneg us[i].fSnaps
       have hsE : DtCSet.sz us[i] ≤ 1048576 := by have := sumZ_mem_le DtCSet.sz_nonneg us us[i] (List.getElem_mem _); simp only [szS] at hs; omega
       simp only [DtCSet.sz] at hsE
       refine AW_skip ?_
       refine AW_id ?_
       refine AW_seq ?_
       refine AW_block ?_
       refine AW_x rfl rfl fun K hK => ?_
       simp (disch := omega) [wrap64, gE, tP, DtCSet.cells, mkSR_el, mset_get]
       repeat' first | (exfalso; omega) | (refine XKd_v (am2s_cons am2_g am2s_nil) (markText _ (by omega)) rfl ?_; simp (disch := omega) [wrap64, gE, tP, DtCSet.cells, mkSR_el, mset_get]) | (refine XKd_p (markText _ (by omega)) (by rfl) ?_ ?_; (focus (simp (disch := omega) [wrap64, gE, tP, DtCSet.cells, mkSR_el, mset_get, take_map_n]; done)); simp (disch := omega) [wrap64, gE, tP, DtCSet.cells, mkSR_el, mset_get]) | (refine ⟨fun _ => ?_, fun _ => ?_⟩) | (refine ⟨by omega, ?_⟩) | (intro _)
       all_goals (refine hK _ ?_; clear hK K)
       all_goals
        refine AW_x rfl rfl fun K hK => ?_
        simp (disch := omega) [wrap64, gE, tP, DtCSet.cells, mkSR_el, mset_get]
        repeat' first | (refine ⟨by omega, ?_⟩) | (intro _)
        refine hK _ ?_; clear hK K
        refine AW_xe rfl rfl fun K hK => ?_
        simp (disch := omega) [wrap64, gE, tP, DtCSet.cells, mkSR_el, mset_get]
        repeat' first | (exfalso; omega) | (refine XKd_n (n := 8) (i := i) (f0 := 1) (markCSnapS us[i].fSnaps _ (by omega) (by omega)) ?_ ?_ ?_ ?_ rfl ?_ rfl ?_ ?_; (focus (simp; done)); (focus rfl); (focus rfl); (focus (simp [mkL_len, mkS_len]; done)); (focus (simp; done)); (focus first | exact ⟨_, mset_get _ _ _ _ (by omega), rfl⟩ | exact ⟨_, by rw [List.getElem?_map, mkSR_get _ _ _ _ _ (by omega)]; rfl, rfl⟩); simp (disch := omega) [wrap64, gE, tP, DtCSet.cells, mkSR_el, mset_get]) | (refine ⟨by omega, ?_⟩) | (intro _)
        refine hK _ ?_; clear hK K
        refine AW_id ?_
        refine AW_xe rfl rfl fun K hK => ?_
        simp (disch := omega) [wrap64, gE, tP, DtCSet.cells, mkSR_el, mset_get]
        repeat' first | (refine ⟨by omega, ?_⟩) | (intro _)
        refine hK _ ?_; clear hK K
        refine ⟨_, LeS.kx [(8, 8)] [(0, .arr 8 0 us.length), (1, (.g (.int .i64 (k + cntS cntCSet (us.take (i + 1)))))), (5, (.g (.int .i64 (((i + 1) : Nat)))))] [(8, .own 2 ((mkSR mkCSet cntCSet k us (i + 1)).map DtCSet.cells))] (by simp [KpR, renV2, renV, upd_app, lkE_app, lk_cons, lk_nil, mkSR_0, cntS_nil]; try (first | rfl | (omega; done))) (by simp [KpOX, renO, plO, cvO, renV, pl1, lk_cons, lk_nil, upd_app, mkSR_0, cntS_nil]; try (first | rfl | (rw [← mkSR_set mkCSet cntCSet k us i (by omega), List.map_set]; refine row_congr ?_; simp only [DtCSet.cells, mkCSet]; repeat' (first | rfl | (omega; done) | congr 1)))) (by rfl) (by simp) (by simp) (by rfl) (by simp [formsX, List.range_succ, lk_cons, lk_nil]), _, ?_, i + 1, rfl, ?_, rfl⟩
        · omega
        · omega
    try simp at hc9
    refine AW_exit ?_
    refine AW_id ?_
    refine AW_x rfl rfl fun K hK => ?_
    simp (disch := omega) [wrap64, gE, tP, DtCSet.cells, mkSR_el, mset_get]
    repeat' first | (exfalso; omega) | (refine ⟨fun _ => ?_, fun _ => ?_⟩) | (refine ⟨by omega, ?_⟩) | (intro _)
    all_goals (refine hK _ ?_; clear hK K)
    all_goals
     refine AW_ret (end_x [] [] (by simp [List.range_succ, lk_cons, lk_nil, upd_app]) (by simp) ?_)
     simp (disch := omega) [wrap64, gE, tP, DtCSet.cells, mkSR_el, mset_get]
     all_goals ((have e : i = us.length := by omega); subst e; rw [mkSR_n _ _ _ _ _ (by omega), List.take_of_length_le (by omega)]; exact ⟨rfl, rfl⟩)
theorem heldCSetS (us : List DtCSet) (k : Int) (hs : szS DtCSet.sz us ≤ 1048576) (hk : 0 ≤ k ∧ k + cntS cntCSet us ≤ 1073741824) : PCall Try.prog 68 [.sl 2 ((mkS mkCSet cntCSet k us).map DtCSet.cells), (.g (.int .i64 (k)))] (.g (.int .i64 (k + cntS cntCSet us))) := by
  have hL : us.length ≤ 1048576 := by have := len_szS DtCSet.sz_nonneg us; omega
  refine gcall_of_walk Try.func68 (by rfl) (by rfl) (by rw [Try.ntmps68]; exact Nat.le_of_ble_eq_true rfl) rfl (by decide) ?_
  rw [Try.ntmps68]
  refine AW_k [(0, _), (1, _)] ⟨rfl, rfl, trivial⟩ ?_
  refine AW_r rfl rfl fun K hK => ?_
  simp (disch := omega) [wrap64, gE, tP, DtCSet.cells, mkS_el, mkCSet]
  repeat' first | (refine ⟨by omega, ?_⟩) | (intro _)
  refine hK _ ?_; clear hK K
  refine AW_seq ?_
  refine AW_r rfl rfl fun K hK => ?_
  simp (disch := omega) [wrap64, gE, tP, DtCSet.cells, mkS_el, mkCSet]
  repeat' first | (refine ⟨by omega, ?_⟩) | (intro _)
  refine hK _ ?_; clear hK K
  refine AW_block ?_
  refine AW_loopS (fun mM sS => ∃ (i : Nat), mM = us.length - i ∧ (i ≤ us.length) ∧ sS = { env := lkE [(0, .sl 2 ((mkS mkCSet cntCSet k us).map DtCSet.cells)), (1, (.g (.int .i64 (k + cntS cntCSet (us.take i))))), (5, (.g (.int .i64 ((i : Nat)))))], ob := formOb [] [] }) ?_ ?_
  · refine ⟨_, LeS.kp [(0, .sl 2 ((mkS mkCSet cntCSet k us).map DtCSet.cells)), (1, (.g (.int .i64 (k + cntS cntCSet (us.take (0)))))), (5, (.g (.int .i64 (((0) : Nat)))))] (by simp [KpE, upd_app, lkE_app, lk_cons, cntS_nil]; try (first | rfl | (omega; done))), _, 0, rfl, ?_, rfl⟩
    · simp
  · rintro mM sS ⟨i, rfl, hi, rfl⟩
    have hln : (mkS mkCSet cntCSet k us).length = us.length := mkS_len _ _ _ _
    refine AW_seq ?_
    refine AW_r rfl rfl fun K hK => ?_
    simp (disch := omega) [wrap64, gE, tP, DtCSet.cells, mkS_el, mkCSet]
    repeat' first | (refine ⟨by omega, ?_⟩) | (intro _)
    refine hK _ ?_; clear hK K
    refine AW_cond rfl (fun hc10 => ?_) (fun hc10 => ?_)
    · try simp at hc10
      all_goals
       have hcl := cntS_le cntCSet_nn us i (by omega)
       have hcu : cntCSet us[i] = 1 + cntS cntCSnap us[i].fSnaps := rfl
       have hcs := cntS_succ cntCSet us i (by omega)
       have hcn1 := cntS_nn cntCSnap_nn us[i].fSnaps
       have hzn2 := len_szS DtCSnap.sz_nonneg us[i].fSnaps
       have hsE : DtCSet.sz us[i] ≤ 1048576 := by have := sumZ_mem_le DtCSet.sz_nonneg us us[i] (List.getElem_mem _); simp only [szS] at hs; omega
       simp only [DtCSet.sz] at hsE
       refine AW_skip ?_
       refine AW_id ?_
       refine AW_seq ?_
       refine AW_block ?_
       refine AW_seq ?_
       refine AW_q rfl mix (by kernel_rfl) rfl fun K hK => ?_
       simp (disch := omega) [wrap64, gE, tP, DtCSet.cells, mkS_el, mkCSet]
       repeat' first | (exfalso; omega) | (refine CKd_v (am2s_cons am2_g am2s_nil) (markText _ (by omega)) rfl ?_; simp (disch := omega) [wrap64, gE, tP, DtCSet.cells, mkS_el, mkCSet]) | (refine ⟨fun _ => ?_, fun _ => ?_⟩) | (refine ⟨by omega, ?_⟩) | (intro _)
       all_goals (refine hK _ ?_; clear hK K)
       all_goals
        refine AW_cond rfl (fun hc11 => ?_) (fun hc11 => ?_)
        · try simp at hc11
          all_goals
           refine AW_r rfl rfl fun K hK => ?_
           simp (disch := omega) [wrap64, gE, tP, DtCSet.cells, mkS_el, mkCSet]
           repeat' first | (exfalso; omega) | (refine ⟨fun _ => ?_, fun _ => ?_⟩) | (refine ⟨by omega, ?_⟩) | (intro _)
           all_goals (refine hK _ ?_; clear hK K)
           all_goals
            refine AW_ret (end_s ?_)
            simp (disch := omega) [wrap64, gE, tP, DtCSet.cells, mkS_el, mkCSet]
            all_goals first | omega | ((have e : i = us.length := by omega); subst e; rw [List.take_of_length_le (by omega)])
        try simp at hc11
        refine AW_skip ?_
        refine AW_id ?_
        refine AW_r rfl rfl fun K hK => ?_
        simp (disch := omega) [wrap64, gE, tP, DtCSet.cells, mkS_el, mkCSet]
        repeat' first | (exfalso; omega) | (refine ⟨fun _ => ?_, fun _ => ?_⟩) | (refine ⟨by omega, ?_⟩) | (intro _)
        all_goals (refine hK _ ?_; clear hK K)
        all_goals
         refine AW_r rfl rfl fun K hK => ?_
         simp (disch := omega) [wrap64, gE, tP, DtCSet.cells, mkS_el, mkCSet]
         repeat' first | (exfalso; omega) | (refine CKd_v (am2s_cons am2_sl (am2s_cons am2_g am2s_nil)) (heldCSnapS us[i].fSnaps _ (by omega) (by omega)) rfl ?_; simp (disch := omega) [wrap64, gE, tP, DtCSet.cells, mkS_el, mkCSet]) | (refine ⟨by omega, ?_⟩) | (intro _)
         refine hK _ ?_; clear hK K
         refine AW_r rfl rfl fun K hK => ?_
         simp (disch := omega) [wrap64, gE, tP, DtCSet.cells, mkS_el, mkCSet]
         repeat' first | (refine ⟨by omega, ?_⟩) | (intro _)
         refine hK _ ?_; clear hK K
         refine AW_cond rfl (fun hc12 => ?_) (fun hc12 => ?_)
         · try simp at hc12
           all_goals
            refine AW_r rfl rfl fun K hK => ?_
            simp (disch := omega) [wrap64, gE, tP, DtCSet.cells, mkS_el, mkCSet]
            repeat' first | (exfalso; omega) | (refine ⟨fun _ => ?_, fun _ => ?_⟩) | (refine ⟨by omega, ?_⟩) | (intro _)
            all_goals (refine hK _ ?_; clear hK K)
            all_goals
             refine AW_ret (end_s ?_)
             simp (disch := omega) [wrap64, gE, tP, DtCSet.cells, mkS_el, mkCSet]
             all_goals first | omega | ((have e : i = us.length := by omega); subst e; rw [List.take_of_length_le (by omega)])
         try simp at hc12
         refine AW_skip ?_
         refine AW_id ?_
         refine AW_re rfl rfl fun K hK => ?_
         simp (disch := omega) [wrap64, gE, tP, DtCSet.cells, mkS_el, mkCSet]
         repeat' first | (exfalso; omega) | (refine ⟨fun _ => ?_, fun _ => ?_⟩) | (refine ⟨by omega, ?_⟩) | (intro _)
         all_goals (refine hK _ ?_; clear hK K)
         all_goals
          refine ⟨_, LeS.kp [(0, .sl 2 ((mkS mkCSet cntCSet k us).map DtCSet.cells)), (1, (.g (.int .i64 (k + cntS cntCSet (us.take (i + 1)))))), (5, (.g (.int .i64 (((i + 1) : Nat)))))] (by simp [KpE, upd_app, lkE_app, lk_cons, cntS_nil]; try (first | rfl | (omega; done))), _, ?_, i + 1, rfl, ?_, rfl⟩
          · omega
          · omega
    try simp at hc10
    refine AW_exit ?_
    refine AW_id ?_
    refine AW_r rfl rfl fun K hK => ?_
    simp (disch := omega) [wrap64, gE, tP, DtCSet.cells, mkS_el, mkCSet]
    repeat' first | (exfalso; omega) | (refine ⟨fun _ => ?_, fun _ => ?_⟩) | (refine ⟨by omega, ?_⟩) | (intro _)
    all_goals (refine hK _ ?_; clear hK K)
    all_goals
     refine AW_ret (end_s ?_)
     simp (disch := omega) [wrap64, gE, tP, DtCSet.cells, mkS_el, mkCSet]
     all_goals first | omega | ((have e : i = us.length := by omega); subst e; rw [List.take_of_length_le (by omega)])
def mkCatalog (k : Int) (u : DtCatalog) : DtCatalog := { fSets := mkS mkCSet cntCSet (k) u.fSets }
def cntCatalog (u : DtCatalog) : Int := cntS cntCSet u.fSets
theorem cntCatalog_sz (u : DtCatalog) : cntCatalog u ≤ 16 * (1 + DtCatalog.sz u) := by
  have := cnt_sz cntCSet_sz u.fSets
  unfold cntCatalog
  simp only [DtCatalog.sz]
  omega
def mvCatalog (k : Int) (u : DtCatalog) : DtCatalog := { fSets := mkS mkCSet cntCSet (k) u.fSets }
def cvCatalog (u : DtCatalog) : Int := cntS cntCSet u.fSets
theorem cvCatalog_nn (u : DtCatalog) : 0 ≤ cvCatalog u := by
  have := cntS_nn cntCSet_nn u.fSets
  unfold cvCatalog
  omega
theorem markCatalog (u : DtCatalog) (k : Int) (hs : DtCatalog.sz u ≤ 1048576) (hk : 0 ≤ k ∧ k + cvCatalog u ≤ 1073741824) : XCall Try.prog 16 [.agg [.arr 8 0 u.fSets.length], (.g (.int .i64 (k)))] [.own 2 (u.fSets.map DtCSet.cells)] (.g (.int .i64 (k + cvCatalog u))) [.own 2 ((mkS mkCSet cntCSet (k) u.fSets).map DtCSet.cells)] [] := by
  simp only [DtCatalog.sz] at hs
  have hz1 := len_szS DtCSet.sz_nonneg u.fSets
  have hy1 := cntS_nn cntCSet_nn u.fSets
  simp only [cvCatalog] at hk
  simp only [cvCatalog]
  refine xcall_of_walk Try.func16 (by rfl) (by rfl) (by rw [Try.ntmps16]; exact Nat.le_of_ble_eq_true rfl) rfl (by simp) rfl rfl ?_
  rw [Try.ntmps16]
  refine AW_x1 (.own 2 (u.fSets.map DtCSet.cells)) (by simp [cvO] <;> assumption) ?_
  refine AW_k [(0, _), (1, _)] ⟨rfl, rfl, trivial⟩ ?_
  refine AW_x rfl rfl fun K hK => ?_
  simp (disch := omega) [wrap64, gE, tP, DtCatalog.cells]
  repeat' first | (refine ⟨by omega, ?_⟩) | (intro _)
  refine hK _ ?_; clear hK K
  refine AW_x rfl rfl fun K hK => ?_
  simp (disch := omega) [wrap64, gE, tP, DtCatalog.cells]
  repeat' first | (exfalso; omega) | (refine XKd_x [8] true [] (markCSetS u.fSets (k) (by omega) (by omega)) ?_ ?_ ?_; (focus (simp [List.range_succ, nmC]; done)); (focus (simp (disch := omega) [wrap64, gE, tP, DtCatalog.cells, take_map_n]; done)); simp (disch := omega) [wrap64, gE, tP, DtCatalog.cells]) | (refine ⟨by omega, ?_⟩) | (intro _)
  refine hK _ ?_; clear hK K
  refine AW_x rfl rfl fun K hK => ?_
  simp (disch := omega) [wrap64, gE, tP, DtCatalog.cells]
  repeat' first | (refine ⟨by omega, ?_⟩) | (intro _)
  refine hK _ ?_; clear hK K
  refine AW_ret (end_x [] [] (by simp [List.range_succ, lk_cons, lk_nil, upd_app]) (by simp) ?_)
  simp (disch := omega) [wrap64, gE, tP, DtCatalog.cells]
  all_goals (first | omega | exact ⟨by omega, rfl⟩ | exact ⟨by omega, rfl, rfl⟩ | skip)
theorem heldCatalog (u : DtCatalog) (k : Int) (hs : DtCatalog.sz u ≤ 1048576) (hk : 0 ≤ k ∧ k + cvCatalog u ≤ 1073741824) : PCall Try.prog 18 [.agg (DtCatalog.cells (mvCatalog k u)), (.g (.int .i64 (k)))] (.g (.int .i64 (k + cvCatalog u))) := by
  simp only [DtCatalog.sz] at hs
  have hz1 := len_szS DtCSet.sz_nonneg u.fSets
  have hy1 := cntS_nn cntCSet_nn u.fSets
  simp only [cvCatalog] at hk
  simp only [cvCatalog]
  refine gcall_of_walk Try.func18 (by rfl) (by rfl) (by rw [Try.ntmps18]; exact Nat.le_of_ble_eq_true rfl) rfl (by decide) ?_
  rw [Try.ntmps18]
  refine AW_k [(0, _), (1, _)] ⟨rfl, rfl, trivial⟩ ?_
  refine AW_r rfl rfl fun K hK => ?_
  simp (disch := omega) [wrap64, gE, tP, DtCatalog.cells, mvCatalog]
  repeat' first | (refine ⟨by omega, ?_⟩) | (intro _)
  refine hK _ ?_; clear hK K
  refine AW_r rfl rfl fun K hK => ?_
  simp (disch := omega) [wrap64, gE, tP, DtCatalog.cells, mvCatalog]
  repeat' first | (exfalso; omega) | (refine CKd_v (am2s_cons am2_sl (am2s_cons am2_g am2s_nil)) (heldCSetS u.fSets (k) (by omega) (by omega)) rfl ?_; simp (disch := omega) [wrap64, gE, tP, DtCatalog.cells, mvCatalog]) | (refine ⟨by omega, ?_⟩) | (intro _)
  refine hK _ ?_; clear hK K
  refine AW_seq ?_
  refine AW_r rfl rfl fun K hK => ?_
  simp (disch := omega) [wrap64, gE, tP, DtCatalog.cells, mvCatalog]
  repeat' first | (refine ⟨by omega, ?_⟩) | (intro _)
  refine hK _ ?_; clear hK K
  refine AW_cond rfl (fun hc14 => ?_) (fun hc14 => ?_)
  · try simp at hc14
    all_goals
     refine AW_r rfl rfl fun K hK => ?_
     simp (disch := omega) [wrap64, gE, tP, DtCatalog.cells, mvCatalog]
     repeat' first | (exfalso; omega) | (refine ⟨fun _ => ?_, fun _ => ?_⟩) | (refine ⟨by omega, ?_⟩) | (intro _)
     all_goals (refine hK _ ?_; clear hK K)
     all_goals
      refine AW_ret (end_s ?_)
      simp (disch := omega) [wrap64, gE, tP, DtCatalog.cells, mvCatalog]
      all_goals (first | omega | skip)
  try simp at hc14
  refine AW_skip ?_
  refine AW_id ?_
  refine AW_r rfl rfl fun K hK => ?_
  simp (disch := omega) [wrap64, gE, tP, DtCatalog.cells, mvCatalog]
  repeat' first | (exfalso; omega) | (refine ⟨fun _ => ?_, fun _ => ?_⟩) | (refine ⟨by omega, ?_⟩) | (intro _)
  all_goals (refine hK _ ?_; clear hK K)
  all_goals
   refine AW_ret (end_s ?_)
   simp (disch := omega) [wrap64, gE, tP, DtCatalog.cells, mvCatalog]
   all_goals (first | omega | skip)
def mkSaid (k : Int) (u : DtSaid) : DtSaid := { fClient := k, fNo := k + 1, fText := mT (k + 1 + 1) }
def cntSaid (u : DtSaid) : Int := 1 + 1 + 1
def mkState (k : Int) (u : DtState) : DtState := { fCat := { fSets := mkS mkCSet cntCSet (k) u.fCat.fSets }, fSaid := mkS mkSaid cntSaid (k + cntS cntCSet u.fCat.fSets) u.fSaid }
def cntState (u : DtState) : Int := cntS cntCSet u.fCat.fSets + cntS cntSaid u.fSaid
def mvState (k : Int) (u : DtState) : DtState := { fCat := { fSets := mkS mkCSet cntCSet (k) u.fCat.fSets }, fSaid := mkS mkSaid cntSaid (k + cntS cntCSet u.fCat.fSets) u.fSaid }
def cvState (u : DtState) : Int := cntS cntCSet u.fCat.fSets + cntS cntSaid u.fSaid
def mkCall (k : Int) (u : DtCall) : DtCall := { fStart := k, fEnd := k + 1, fCmd := { fKind := k + 1 + 1, fClient := k + 1 + 1 + 1, fNo := k + 1 + 1 + 1 + 1, fSet := mT (k + 1 + 1 + 1 + 1 + 1), fName := mT (k + 1 + 1 + 1 + 1 + 1 + 1), fTag := mT (k + 1 + 1 + 1 + 1 + 1 + 1 + 1), fN := k + 1 + 1 + 1 + 1 + 1 + 1 + 1 + 1, fChunks := mkL mT (k + 1 + 1 + 1 + 1 + 1 + 1 + 1 + 1 + 1) u.fCmd.fChunks.length }, fText := mT (k + 1 + 1 + 1 + 1 + 1 + 1 + 1 + 1 + 1 + (u.fCmd.fChunks.length : Nat)) }
def cntCall (u : DtCall) : Int := 1 + 1 + 1 + 1 + 1 + 1 + 1 + 1 + 1 + (u.fCmd.fChunks.length : Nat) + 1
end Go.Proofs.Ytmheohnbkaoipaa.Vs
