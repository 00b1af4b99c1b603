import Derived.Test.YtcedomdpbgjbpaaSN1
import Derived.Test.YtcedomdpbgjbpaaSD7
open Go Go.Proofs Go.Proofs.Ytcedomdpbgjbpaa.Vs
namespace Go.Proofs.Ytcedomdpbgjbpaa.Vs
set_option linter.unusedVariables false
set_option linter.unusedSimpArgs false
set_option linter.unusedSectionVars false
set_option linter.unnecessarySimpa false
set_option linter.all false
set_option linter.unusedSimpArgs false
set_option linter.unusedVariables false
set_option maxRecDepth 100000
theorem row_congr {l : List (List AV)} {i : Nat} {a b : List AV} (h : a = b) : l.set i a = l.set i b := by rw [h]
theorem len_szS {α : Type} {f : α → Int} (hf : ∀ x, 0 ≤ f x) (l : List α) : (l.length : Int) ≤ szS f l := by have := sumZ_nonneg hf l; unfold szS; omega
theorem cnt_sz {α : Type} {cnt sz : α → Int} (h : ∀ u, cnt u ≤ 16 * (1 + sz u)) : ∀ us : List α, cntS cnt us ≤ 16 * szS sz us
  | [] => by simp [cntS_nil, szS, sumZ_nil]
  | u :: us => by
    have h1 := cnt_sz h us
    have h2 := h u
    simp only [szS, sumZ_cons, cntS_cons, List.length_cons] at h1 ⊢
    omega
def mkId (k : Int) (u : DtId) : DtId := { fRep := k, fSlot := k + 1 }
def cntId (u : DtId) : Int := 1 + 1
def mkCmd (k : Int) (u : DtCmd) : DtCmd := { fKind := k, fClient := k + 1, fNo := k + 1 + 1, fSet := mT (k + 1 + 1 + 1), fName := mT (k + 1 + 1 + 1 + 1), fTag := mT (k + 1 + 1 + 1 + 1 + 1), fN := k + 1 + 1 + 1 + 1 + 1 + 1, fChunks := mkL mT (k + 1 + 1 + 1 + 1 + 1 + 1 + 1) u.fChunks.length }
def cntCmd (u : DtCmd) : Int := 1 + 1 + 1 + 1 + 1 + 1 + 1 + (u.fChunks.length : Nat)
def mkInst (k : Int) (u : DtInst) : DtInst := { fId := { fRep := k, fSlot := k + 1 }, fBal := k + 1 + 1, fVBal := k + 1 + 1 + 1, fStatus := k + 1 + 1 + 1 + 1, fCmd := { fKind := k + 1 + 1 + 1 + 1 + 1, fClient := k + 1 + 1 + 1 + 1 + 1 + 1, fNo := k + 1 + 1 + 1 + 1 + 1 + 1 + 1, fSet := mT (k + 1 + 1 + 1 + 1 + 1 + 1 + 1 + 1), fName := mT (k + 1 + 1 + 1 + 1 + 1 + 1 + 1 + 1 + 1), fTag := mT (k + 1 + 1 + 1 + 1 + 1 + 1 + 1 + 1 + 1 + 1), fN := k + 1 + 1 + 1 + 1 + 1 + 1 + 1 + 1 + 1 + 1 + 1, fChunks := mkL mT (k + 1 + 1 + 1 + 1 + 1 + 1 + 1 + 1 + 1 + 1 + 1 + 1) u.fCmd.fChunks.length }, fSeq := k + 1 + 1 + 1 + 1 + 1 + 1 + 1 + 1 + 1 + 1 + 1 + 1 + (u.fCmd.fChunks.length : Nat), fDeps := mkS mkId cntId (k + 1 + 1 + 1 + 1 + 1 + 1 + 1 + 1 + 1 + 1 + 1 + 1 + (u.fCmd.fChunks.length : Nat) + 1) u.fDeps, fSame := mB (k + 1 + 1 + 1 + 1 + 1 + 1 + 1 + 1 + 1 + 1 + 1 + 1 + (u.fCmd.fChunks.length : Nat) + 1 + cntS cntId u.fDeps) }
def cntInst (u : DtInst) : Int := 1 + 1 + 1 + 1 + 1 + 1 + 1 + 1 + 1 + 1 + 1 + 1 + (u.fCmd.fChunks.length : Nat) + 1 + cntS cntId u.fDeps + 1
def mkCSnap (k : Int) (u : DtCSnap) : DtCSnap := { fName := mT (k), fTag := mT (k + 1), fChunks := mkL mT (k + 1 + 1) u.fChunks.length }
def cntCSnap (u : DtCSnap) : Int := 1 + 1 + (u.fChunks.length : Nat)
theorem cntCSnap_nn (u : DtCSnap) : 0 ≤ cntCSnap u := by
  unfold cntCSnap
  omega
theorem cntCSnap_sz (u : DtCSnap) : cntCSnap u ≤ 16 * (1 + DtCSnap.sz u) := by
  have := len_szS lenZ_nonneg u.fChunks
  unfold cntCSnap
  simp only [DtCSnap.sz]
  omega
theorem markCSnapS (us : List DtCSnap) (k : Int) (hs : szS DtCSnap.sz us ≤ 1048576) (hk : 0 ≤ k ∧ k + cntS cntCSnap us ≤ 1073741824) : XCall Try.prog 72 [.arr 8 0 us.length, (.g (.int .i64 (k)))] [.own 3 (us.map DtCSnap.cells)] (.g (.int .i64 (k + cntS cntCSnap us))) [.own 3 ((mkS mkCSnap cntCSnap k us).map DtCSnap.cells)] [] := by
  have hL : us.length ≤ 1048576 := by have := len_szS DtCSnap.sz_nonneg us; omega
  refine xcall_of_walk Try.func72 (by rfl) (by rfl) (by rw [Try.ntmps72]; exact Nat.le_of_ble_eq_true rfl) rfl (by simp) rfl rfl ?_
  rw [Try.ntmps72]
  refine AW_x1 (.own 3 (us.map DtCSnap.cells)) (by simp [cvO]) ?_
  refine AW_k [(0, _), (1, _)] ⟨rfl, rfl, trivial⟩ ?_
  refine AW_x rfl rfl fun K hK => ?_
  simp (disch := omega) [wrap64, List.getElem?_eq_getElem, toNat_pred, DtCSnap.cells, mkSR_el, mset_get]
  repeat' first | (exfalso; omega) | (refine ⟨fun _ => ?_, fun _ => ?_⟩) | (refine ⟨by omega, ?_⟩) | (intro _)
  all_goals (refine hK _ ?_; clear hK K)
  all_goals
    refine AW_seq ?_
    refine AW_x rfl rfl fun K hK => ?_
    simp (disch := omega) [wrap64, List.getElem?_eq_getElem, toNat_pred, DtCSnap.cells, mkSR_el, mset_get]
    repeat' first | (exfalso; omega) | (refine ⟨fun _ => ?_, fun _ => ?_⟩) | (refine ⟨by omega, ?_⟩) | (intro _)
    all_goals (refine hK _ ?_; clear hK K)
    all_goals
      refine AW_block ?_
      refine AW_loopS (fun mM sS => ∃ (i : Nat), mM = us.length - i ∧ (i ≤ us.length) ∧ sS = { env := lkE [(0, .arr 8 0 us.length), (1, (.g (.int .i64 (k + cntS cntCSnap (us.take i))))), (5, (.g (.int .i64 ((i : Nat)))))], ob := lk [(8, .own 3 ((mkSR mkCSnap cntCSnap k us i).map DtCSnap.cells))] }) ?_ ?_
      · refine ⟨_, LeS.kx [(8, 8)] [(0, .arr 8 0 us.length), (1, (.g (.int .i64 (k + cntS cntCSnap (us.take (0)))))), (5, (.g (.int .i64 (((0) : Nat)))))] [(8, .own 3 ((mkSR mkCSnap cntCSnap k us (0)).map DtCSnap.cells))] (by simp [KpR, renV2, renV, upd_app, lkE_app, lk_cons, lk_nil, mkSR_0, cntS_nil]; try (first | rfl | (omega; done))) (by simp [KpOX, renO, plO, cvO, renV, pl1, lk_cons, lk_nil, upd_app, mkSR_0, cntS_nil]; try (first | rfl | (rw [← mkSR_set mkCSnap cntCSnap k us i (by omega), List.map_set]; refine row_congr ?_; simp only [DtCSnap.cells, mkCSnap]; repeat' (first | rfl | (omega; done) | congr 1)))) (by rfl) (by simp) (by simp) (by rfl) (by simp [formsX, List.range_succ, lk_cons, lk_nil]), _, 0, rfl, ?_, rfl⟩
        · simp
      · rintro mM sS ⟨i, rfl, hi, rfl⟩
        have hln : (mkSR mkCSnap cntCSnap k us i).length = us.length := mkSR_len _ _ _ _ _ hi
        refine AW_seq ?_
        refine AW_x rfl rfl fun K hK => ?_
        simp (disch := omega) [wrap64, List.getElem?_eq_getElem, toNat_pred, DtCSnap.cells, mkSR_el, mset_get]
        repeat' first | (exfalso; omega) | (refine ⟨fun _ => ?_, fun _ => ?_⟩) | (refine ⟨by omega, ?_⟩) | (intro _)
        all_goals (refine hK _ ?_; clear hK K)
        all_goals
          refine AW_cond rfl (fun hc8 => ?_) (fun hc8 => ?_)
          · try simp at hc8
            all_goals
              have hcl := cntS_le cntCSnap_nn us i (by omega)
              have hcu : cntCSnap us[i] = 1 + 1 + (us[i].fChunks.length : Nat) := rfl
              have hcs := cntS_succ cntCSnap us i (by omega)
              have hzn1 := len_szS lenZ_nonneg us[i].fChunks
              have hsE : DtCSnap.sz us[i] ≤ 1048576 := by have := sumZ_mem_le DtCSnap.sz_nonneg us us[i] (List.getElem_mem _); simp only [szS] at hs; omega
              simp only [DtCSnap.sz] at hsE
              refine AW_skip ?_
              refine AW_id ?_
              refine AW_seq ?_
              refine AW_block ?_
              refine AW_x rfl rfl fun K hK => ?_
              simp (disch := omega) [wrap64, List.getElem?_eq_getElem, toNat_pred, DtCSnap.cells, mkSR_el, mset_get]
              repeat' first | (exfalso; omega) | (refine XKd_v (am2s_cons am2_g am2s_nil) (markText _ (by omega)) rfl ?_; simp (disch := omega) [wrap64, List.getElem?_eq_getElem, toNat_pred, DtCSnap.cells, mkSR_el, mset_get]) | (refine XKd_p (markText _ (by omega)) (by rfl) ?_ ?_; (focus (simp (disch := omega) [wrap64, List.getElem?_eq_getElem, toNat_pred, DtCSnap.cells, mkSR_el, mset_get, take_map_n]; done)); simp (disch := omega) [wrap64, List.getElem?_eq_getElem, toNat_pred, DtCSnap.cells, mkSR_el, mset_get]) | (refine ⟨fun _ => ?_, fun _ => ?_⟩) | (refine ⟨by omega, ?_⟩) | (intro _)
              all_goals (refine hK _ ?_; clear hK K)
              all_goals
                refine AW_x rfl rfl fun K hK => ?_
                simp (disch := omega) [wrap64, List.getElem?_eq_getElem, toNat_pred, DtCSnap.cells, mkSR_el, mset_get]
                repeat' first | (exfalso; omega) | (refine ⟨fun _ => ?_, fun _ => ?_⟩) | (refine ⟨by omega, ?_⟩) | (intro _)
                all_goals (refine hK _ ?_; clear hK K)
                all_goals
                  refine AW_x rfl rfl fun K hK => ?_
                  simp (disch := omega) [wrap64, List.getElem?_eq_getElem, toNat_pred, DtCSnap.cells, mkSR_el, mset_get]
                  repeat' first | (exfalso; omega) | (refine XKd_v (am2s_cons am2_g am2s_nil) (markText _ (by omega)) rfl ?_; simp (disch := omega) [wrap64, List.getElem?_eq_getElem, toNat_pred, DtCSnap.cells, mkSR_el, mset_get]) | (refine XKd_p (markText _ (by omega)) (by rfl) ?_ ?_; (focus (simp (disch := omega) [wrap64, List.getElem?_eq_getElem, toNat_pred, DtCSnap.cells, mkSR_el, mset_get, take_map_n]; done)); simp (disch := omega) [wrap64, List.getElem?_eq_getElem, toNat_pred, DtCSnap.cells, mkSR_el, mset_get]) | (refine ⟨fun _ => ?_, fun _ => ?_⟩) | (refine ⟨by omega, ?_⟩) | (intro _)
                  all_goals (refine hK _ ?_; clear hK K)
                  all_goals
                    refine AW_x rfl rfl fun K hK => ?_
                    simp (disch := omega) [wrap64, List.getElem?_eq_getElem, toNat_pred, DtCSnap.cells, mkSR_el, mset_get]
                    repeat' first | (exfalso; omega) | (refine ⟨fun _ => ?_, fun _ => ?_⟩) | (refine ⟨by omega, ?_⟩) | (intro _)
                    all_goals (refine hK _ ?_; clear hK K)
                    all_goals
                      refine AW_xe rfl rfl fun K hK => ?_
                      simp (disch := omega) [wrap64, List.getElem?_eq_getElem, toNat_pred, DtCSnap.cells, mkSR_el, mset_get]
                      repeat' first | (exfalso; omega) | (refine XKd_n (n := 8) (i := i) (f0 := 2) (markStringS us[i].fChunks _ (by omega) (by omega)) ?_ ?_ ?_ ?_ rfl ?_ rfl ?_ ?_; (focus (simp; done)); (focus rfl); (focus rfl); (focus (simp [mkL_len, mkS_len]; done)); (focus (simp; done)); (focus first | exact ⟨_, mset_get _ _ _ _ (by omega), rfl⟩ | exact ⟨_, by rw [List.getElem?_map, mkSR_get _ _ _ _ _ (by omega)]; rfl, rfl⟩); simp (disch := omega) [wrap64, List.getElem?_eq_getElem, toNat_pred, DtCSnap.cells, mkSR_el, mset_get]) | (refine ⟨fun _ => ?_, fun _ => ?_⟩) | (refine ⟨by omega, ?_⟩) | (intro _)
                      all_goals (refine hK _ ?_; clear hK K)
                      all_goals
                        refine AW_id ?_
                        refine AW_xe rfl rfl fun K hK => ?_
                        simp (disch := omega) [wrap64, List.getElem?_eq_getElem, toNat_pred, DtCSnap.cells, mkSR_el, mset_get]
                        repeat' first | (exfalso; omega) | (refine ⟨fun _ => ?_, fun _ => ?_⟩) | (refine ⟨by omega, ?_⟩) | (intro _)
                        all_goals (refine hK _ ?_; clear hK K)
                        all_goals
                          refine ⟨_, LeS.kx [(8, 8)] [(0, .arr 8 0 us.length), (1, (.g (.int .i64 (k + cntS cntCSnap (us.take (i + 1)))))), (5, (.g (.int .i64 (((i + 1) : Nat)))))] [(8, .own 3 ((mkSR mkCSnap cntCSnap k us (i + 1)).map DtCSnap.cells))] (by simp [KpR, renV2, renV, upd_app, lkE_app, lk_cons, lk_nil, mkSR_0, cntS_nil]; try (first | rfl | (omega; done))) (by simp [KpOX, renO, plO, cvO, renV, pl1, lk_cons, lk_nil, upd_app, mkSR_0, cntS_nil]; try (first | rfl | (rw [← mkSR_set mkCSnap cntCSnap k us i (by omega), List.map_set]; refine row_congr ?_; simp only [DtCSnap.cells, mkCSnap]; repeat' (first | rfl | (omega; done) | congr 1)))) (by rfl) (by simp) (by simp) (by rfl) (by simp [formsX, List.range_succ, lk_cons, lk_nil]), _, ?_, i + 1, rfl, ?_, rfl⟩
                          · omega
                          · omega
          · try simp at hc8
            all_goals
              refine AW_exit ?_
              refine AW_id ?_
              refine AW_x rfl rfl fun K hK => ?_
              simp (disch := omega) [wrap64, List.getElem?_eq_getElem, toNat_pred, DtCSnap.cells, mkSR_el, mset_get]
              repeat' first | (exfalso; omega) | (refine ⟨fun _ => ?_, fun _ => ?_⟩) | (refine ⟨by omega, ?_⟩) | (intro _)
              all_goals (refine hK _ ?_; clear hK K)
              all_goals
                refine AW_ret (end_x [] [] (by simp [List.range_succ, lk_cons, lk_nil, upd_app]) (by simp) ?_)
                simp (disch := omega) [wrap64, List.getElem?_eq_getElem, toNat_pred, DtCSnap.cells, mkSR_el, mset_get]
                all_goals ((have e : i = us.length := by omega); subst e; rw [mkSR_n _ _ _ _ _ (by omega), List.take_of_length_le (by omega)]; exact ⟨rfl, rfl⟩)
theorem toCSnapX (u : DtCSnap) (hs : DtCSnap.sz u ≤ 1048576) : XCall Try.prog 133 [.agg (DtCSnap.cells u)] [] (.agg [.s u.fName, .s u.fTag, .arr 16 0 u.fChunks.length]) [] [.own 1 (u.fChunks.map cS)] := by
  simp only [DtCSnap.sz] at hs
  have hz1 := len_szS lenZ_nonneg u.fChunks
  refine xcall_of_walk Try.func133 (by rfl) (by rfl) (by rw [Try.ntmps133]; exact Nat.le_of_ble_eq_true rfl) rfl (by simp) rfl rfl ?_
  rw [Try.ntmps133]
  refine AW_x0   ?_
  refine AW_k [(0, _)] ⟨rfl, trivial⟩ ?_
  refine AW_x rfl rfl fun K hK => ?_
  simp (disch := omega) [wrap64, List.getElem?_eq_getElem, toNat_pred, DtCSnap.cells]
  repeat' first | (exfalso; omega) | (refine ⟨fun _ => ?_, fun _ => ?_⟩) | (refine ⟨by omega, ?_⟩) | (intro _)
  all_goals (refine hK _ ?_; clear hK K)
  all_goals
    refine AW_x rfl rfl fun K hK => ?_
    simp (disch := omega) [wrap64, List.getElem?_eq_getElem, toNat_pred, DtCSnap.cells]
    repeat' first | (exfalso; omega) | (refine ⟨fun _ => ?_, fun _ => ?_⟩) | (refine ⟨by omega, ?_⟩) | (intro _)
    all_goals (refine hK _ ?_; clear hK K)
    all_goals
      refine AW_x rfl rfl fun K hK => ?_
      simp (disch := omega) [wrap64, List.getElem?_eq_getElem, toNat_pred, DtCSnap.cells]
      repeat' first | (exfalso; omega) | (refine ⟨fun _ => ?_, fun _ => ?_⟩) | (refine ⟨by omega, ?_⟩) | (intro _)
      all_goals (refine hK _ ?_; clear hK K)
      all_goals
        refine AW_x rfl rfl fun K hK => ?_
        simp (disch := omega) [wrap64, List.getElem?_eq_getElem, toNat_pred, DtCSnap.cells]
        repeat' first | (exfalso; omega) | (refine ⟨fun _ => ?_, fun _ => ?_⟩) | (refine ⟨by omega, ?_⟩) | (intro _)
        all_goals (refine hK _ ?_; clear hK K)
        all_goals
          refine AW_x rfl rfl fun K hK => ?_
          simp (disch := omega) [wrap64, List.getElem?_eq_getElem, toNat_pred, DtCSnap.cells]
          repeat' first | (exfalso; omega) | (refine XKd_x [] true [] (toStringSX u.fChunks (by omega)) ?_ ?_ ?_; (focus (simp [List.range_succ, nmC]; done)); (focus (simp (disch := omega) [wrap64, List.getElem?_eq_getElem, toNat_pred, DtCSnap.cells, take_map_n]; done)); simp (disch := omega) [wrap64, List.getElem?_eq_getElem, toNat_pred, DtCSnap.cells]) | (refine ⟨fun _ => ?_, fun _ => ?_⟩) | (refine ⟨by omega, ?_⟩) | (intro _)
          all_goals (refine hK _ ?_; clear hK K)
          all_goals
            refine AW_x rfl rfl fun K hK => ?_
            simp (disch := omega) [wrap64, List.getElem?_eq_getElem, toNat_pred, DtCSnap.cells]
            repeat' first | (exfalso; omega) | (refine ⟨fun _ => ?_, fun _ => ?_⟩) | (refine ⟨by omega, ?_⟩) | (intro _)
            all_goals (refine hK _ ?_; clear hK K)
            all_goals
              refine AW_ret (end_x [208] [] (by simp [List.range_succ, lk_cons, lk_nil, upd_app]) (by simp) ?_)
              simp (disch := omega) [wrap64, List.getElem?_eq_getElem, toNat_pred, DtCSnap.cells]
              all_goals skip
theorem toCSnapSX (us : List DtCSnap) (hs : szS DtCSnap.sz us ≤ 1048576) : XCall Try.prog 98 [.sl 3 (us.map DtCSnap.cells)] [] (.arr 16 0 us.length) [] [.own 3 (us.map DtCSnap.cells)] := by
  have hL : us.length ≤ 1048576 := by have := len_szS DtCSnap.sz_nonneg us; omega
  refine xcall_of_walk Try.func98 (by rfl) (by rfl) (by rw [Try.ntmps98]; exact Nat.le_of_ble_eq_true rfl) rfl (by simp) rfl rfl ?_
  rw [Try.ntmps98]
  refine AW_x0   ?_
  refine AW_k [(0, _)] ⟨rfl, trivial⟩ ?_
  refine AW_x rfl rfl fun K hK => ?_
  simp (disch := omega) [wrap64, List.getElem?_eq_getElem, toNat_pred, DtCSnap.cells, cpS_el, mset_get, List.range_succ]
  repeat' first | (exfalso; omega) | (refine ⟨fun _ => ?_, fun _ => ?_⟩) | (refine ⟨by omega, ?_⟩) | (intro _)
  all_goals (refine hK _ ?_; clear hK K)
  all_goals
    refine AW_x rfl rfl fun K hK => ?_
    simp (disch := omega) [wrap64, List.getElem?_eq_getElem, toNat_pred, DtCSnap.cells, cpS_el, mset_get, List.range_succ]
    repeat' first | (exfalso; omega) | (refine ⟨fun _ => ?_, fun _ => ?_⟩) | (refine ⟨by omega, ?_⟩) | (intro _)
    all_goals (refine hK _ ?_; clear hK K)
    all_goals
      refine AW_seq ?_
      refine AW_x rfl rfl fun K hK => ?_
      simp (disch := omega) [wrap64, List.getElem?_eq_getElem, toNat_pred, DtCSnap.cells, cpS_el, mset_get, List.range_succ]
      repeat' first | (exfalso; omega) | (refine ⟨fun _ => ?_, fun _ => ?_⟩) | (refine ⟨by omega, ?_⟩) | (intro _)
      all_goals (refine hK _ ?_; clear hK K)
      all_goals
        refine AW_block ?_
        refine AW_loopS (fun mM sS => ∃ (i : Nat), mM = us.length - i ∧ (i ≤ us.length) ∧ sS = { env := lkE [(0, .sl 3 (us.map DtCSnap.cells)), (3, .arr 128 0 us.length), (4, (.g (.int .i64 ((i : Nat)))))], ob := lk [(128, .own 3 (cpS [.s [], .s [], .g (.slice none 0 0)] DtCSnap.cells us i))] }) ?_ ?_
        · refine ⟨_, LeS.kx [(128, 128)] [(0, .sl 3 (us.map DtCSnap.cells)), (3, .arr 128 0 us.length), (4, (.g (.int .i64 (((0) : Nat)))))] [(128, .own 3 (cpS [.s [], .s [], .g (.slice none 0 0)] DtCSnap.cells us (0)))] (by simp [KpR, renV2, renV, upd_app, lkE_app, lk_cons, lk_nil, cpS_0, scR_rep]; try (first | rfl | (omega; done))) (by simp [KpOX, renO, plO, cvO, renV, pl1, lk_cons, lk_nil, upd_app, cpS_0, scR_rep]; try (first | rfl | (rw [← cpS_set _ _ _ i (by omega)]; simp [DtCSnap.cells]; done))) (by rfl) (by simp) (by simp) (by rfl) (by simp [formsX, List.range_succ, lk_cons, lk_nil]), _, 0, rfl, ?_, rfl⟩
          · simp
        · rintro mM sS ⟨i, rfl, hi, rfl⟩
          have hln : (cpS [.s [], .s [], .g (.slice none 0 0)] DtCSnap.cells us i).length = us.length := cpS_len _ _ _ _ hi
          refine AW_seq ?_
          refine AW_x rfl rfl fun K hK => ?_
          simp (disch := omega) [wrap64, List.getElem?_eq_getElem, toNat_pred, DtCSnap.cells, cpS_el, mset_get, List.range_succ]
          repeat' first | (exfalso; omega) | (refine ⟨fun _ => ?_, fun _ => ?_⟩) | (refine ⟨by omega, ?_⟩) | (intro _)
          all_goals (refine hK _ ?_; clear hK K)
          all_goals
            refine AW_cond rfl (fun hc9 => ?_) (fun hc9 => ?_)
            · try simp at hc9
              all_goals
                have hsE : DtCSnap.sz us[i] ≤ 1048576 := by have := sumZ_mem_le DtCSnap.sz_nonneg us us[i] (List.getElem_mem _); simp only [szS] at hs; omega
                refine AW_skip ?_
                refine AW_id ?_
                refine AW_seq ?_
                refine AW_block ?_
                refine AW_xe rfl rfl fun K hK => ?_
                simp (disch := omega) [wrap64, List.getElem?_eq_getElem, toNat_pred, DtCSnap.cells, cpS_el, mset_get, List.range_succ]
                repeat' first | (exfalso; omega) | (refine XKd_x [] true [] (toCSnapX us[i] (by omega)) ?_ ?_ ?_; (focus (simp [List.range_succ, nmC]; done)); (focus (simp (disch := omega) [wrap64, List.getElem?_eq_getElem, toNat_pred, DtCSnap.cells, cpS_el, mset_get, List.range_succ, take_map_n]; done)); simp (disch := omega) [wrap64, List.getElem?_eq_getElem, toNat_pred, DtCSnap.cells, cpS_el, mset_get, List.range_succ]) | (refine ⟨fun _ => ?_, fun _ => ?_⟩) | (refine ⟨by omega, ?_⟩) | (intro _)
                all_goals (refine hK _ ?_; clear hK K)
                all_goals
                  refine AW_id ?_
                  refine AW_xe rfl rfl fun K hK => ?_
                  simp (disch := omega) [wrap64, List.getElem?_eq_getElem, toNat_pred, DtCSnap.cells, cpS_el, mset_get, List.range_succ]
                  repeat' first | (exfalso; omega) | (refine ⟨fun _ => ?_, fun _ => ?_⟩) | (refine ⟨by omega, ?_⟩) | (intro _)
                  all_goals (refine hK _ ?_; clear hK K)
                  all_goals
                    refine ⟨_, LeS.kx [(128, 128)] [(0, .sl 3 (us.map DtCSnap.cells)), (3, .arr 128 0 us.length), (4, (.g (.int .i64 (((i + 1) : Nat)))))] [(128, .own 3 (cpS [.s [], .s [], .g (.slice none 0 0)] DtCSnap.cells us (i + 1)))] (by simp [KpR, renV2, renV, upd_app, lkE_app, lk_cons, lk_nil, cpS_0, scR_rep]; try (first | rfl | (omega; done))) (by simp [KpOX, renO, plO, cvO, renV, pl1, lk_cons, lk_nil, upd_app, cpS_0, scR_rep]; try (first | rfl | (rw [← cpS_set _ _ _ i (by omega)]; simp [DtCSnap.cells]; done))) (by rfl) (by simp) (by simp) (by rfl) (by simp [formsX, List.range_succ, lk_cons, lk_nil]), _, ?_, i + 1, rfl, ?_, rfl⟩
                    · omega
                    · omega
            · try simp at hc9
              all_goals
                refine AW_exit ?_
                refine AW_id ?_
                refine AW_x rfl rfl fun K hK => ?_
                simp (disch := omega) [wrap64, List.getElem?_eq_getElem, toNat_pred, DtCSnap.cells, cpS_el, mset_get, List.range_succ]
                repeat' first | (exfalso; omega) | (refine ⟨fun _ => ?_, fun _ => ?_⟩) | (refine ⟨by omega, ?_⟩) | (intro _)
                all_goals (refine hK _ ?_; clear hK K)
                all_goals
                  refine AW_ret (end_x [128] [] (by simp [List.range_succ, lk_cons, lk_nil, upd_app]) (by simp) ?_)
                  simp (disch := omega) [wrap64, List.getElem?_eq_getElem, toNat_pred, DtCSnap.cells, cpS_el, mset_get, List.range_succ]
                  all_goals (rw [cpS_n _ _ _ _ (by omega)])
def mkCSet (k : Int) (u : DtCSet) : DtCSet := { fName := mT (k), fSnaps := mkS mkCSnap cntCSnap (k + 1) u.fSnaps }
def cntCSet (u : DtCSet) : Int := 1 + cntS cntCSnap u.fSnaps
theorem cntCSet_nn (u : DtCSet) : 0 ≤ cntCSet u := by
  have := cntS_nn cntCSnap_nn u.fSnaps
  unfold cntCSet
  omega
theorem cntCSet_sz (u : DtCSet) : cntCSet u ≤ 16 * (1 + DtCSet.sz u) := by
  have := cnt_sz cntCSnap_sz u.fSnaps
  unfold cntCSet
  simp only [DtCSet.sz]
  omega
theorem markCSetS (us : List DtCSet) (k : Int) (hs : szS DtCSet.sz us ≤ 1048576) (hk : 0 ≤ k ∧ k + cntS cntCSet us ≤ 1073741824) : XCall Try.prog 42 [.arr 8 0 us.length, (.g (.int .i64 (k)))] [.own 2 (us.map DtCSet.cells)] (.g (.int .i64 (k + cntS cntCSet us))) [.own 2 ((mkS mkCSet cntCSet k us).map DtCSet.cells)] [] := by
  have hL : us.length ≤ 1048576 := by have := len_szS DtCSet.sz_nonneg us; omega
  refine xcall_of_walk Try.func42 (by rfl) (by rfl) (by rw [Try.ntmps42]; exact Nat.le_of_ble_eq_true rfl) rfl (by simp) rfl rfl ?_
  rw [Try.ntmps42]
  refine AW_x1 (.own 2 (us.map DtCSet.cells)) (by simp [cvO]) ?_
  refine AW_k [(0, _), (1, _)] ⟨rfl, rfl, trivial⟩ ?_
  refine AW_x rfl rfl fun K hK => ?_
  simp (disch := omega) [wrap64, List.getElem?_eq_getElem, toNat_pred, DtCSet.cells, mkSR_el, mset_get]
  repeat' first | (exfalso; omega) | (refine ⟨fun _ => ?_, fun _ => ?_⟩) | (refine ⟨by omega, ?_⟩) | (intro _)
  all_goals (refine hK _ ?_; clear hK K)
  all_goals
    refine AW_seq ?_
    refine AW_x rfl rfl fun K hK => ?_
    simp (disch := omega) [wrap64, List.getElem?_eq_getElem, toNat_pred, DtCSet.cells, mkSR_el, mset_get]
    repeat' first | (exfalso; omega) | (refine ⟨fun _ => ?_, fun _ => ?_⟩) | (refine ⟨by omega, ?_⟩) | (intro _)
    all_goals (refine hK _ ?_; clear hK K)
    all_goals
      refine AW_block ?_
      refine AW_loopS (fun mM sS => ∃ (i : Nat), mM = us.length - i ∧ (i ≤ us.length) ∧ sS = { env := lkE [(0, .arr 8 0 us.length), (1, (.g (.int .i64 (k + cntS cntCSet (us.take i))))), (5, (.g (.int .i64 ((i : Nat)))))], ob := lk [(8, .own 2 ((mkSR mkCSet cntCSet k us i).map DtCSet.cells))] }) ?_ ?_
      · refine ⟨_, LeS.kx [(8, 8)] [(0, .arr 8 0 us.length), (1, (.g (.int .i64 (k + cntS cntCSet (us.take (0)))))), (5, (.g (.int .i64 (((0) : Nat)))))] [(8, .own 2 ((mkSR mkCSet cntCSet k us (0)).map DtCSet.cells))] (by simp [KpR, renV2, renV, upd_app, lkE_app, lk_cons, lk_nil, mkSR_0, cntS_nil]; try (first | rfl | (omega; done))) (by simp [KpOX, renO, plO, cvO, renV, pl1, lk_cons, lk_nil, upd_app, mkSR_0, cntS_nil]; try (first | rfl | (rw [← mkSR_set mkCSet cntCSet k us i (by omega), List.map_set]; refine row_congr ?_; simp only [DtCSet.cells, mkCSet]; repeat' (first | rfl | (omega; done) | congr 1)))) (by rfl) (by simp) (by simp) (by rfl) (by simp [formsX, List.range_succ, lk_cons, lk_nil]), _, 0, rfl, ?_, rfl⟩
        · simp
      · rintro mM sS ⟨i, rfl, hi, rfl⟩
        have hln : (mkSR mkCSet cntCSet k us i).length = us.length := mkSR_len _ _ _ _ _ hi
        refine AW_seq ?_
        refine AW_x rfl rfl fun K hK => ?_
        simp (disch := omega) [wrap64, List.getElem?_eq_getElem, toNat_pred, DtCSet.cells, mkSR_el, mset_get]
        repeat' first | (exfalso; omega) | (refine ⟨fun _ => ?_, fun _ => ?_⟩) | (refine ⟨by omega, ?_⟩) | (intro _)
        all_goals (refine hK _ ?_; clear hK K)
        all_goals
          refine AW_cond rfl (fun hc10 => ?_) (fun hc10 => ?_)
          · try simp at hc10
            all_goals
              have hcl := cntS_le cntCSet_nn us i (by omega)
              have hcu : cntCSet us[i] = 1 + cntS cntCSnap us[i].fSnaps := rfl
              have hcs := cntS_succ cntCSet us i (by omega)
              have hcn1 := cntS_nn cntCSnap_nn us[i].fSnaps
              have hzn2 := len_szS DtCSnap.sz_nonneg us[i].fSnaps
              have hsE : DtCSet.sz us[i] ≤ 1048576 := by have := sumZ_mem_le DtCSet.sz_nonneg us us[i] (List.getElem_mem _); simp only [szS] at hs; omega
              simp only [DtCSet.sz] at hsE
              refine AW_skip ?_
              refine AW_id ?_
              refine AW_seq ?_
              refine AW_block ?_
              refine AW_x rfl rfl fun K hK => ?_
              simp (disch := omega) [wrap64, List.getElem?_eq_getElem, toNat_pred, DtCSet.cells, mkSR_el, mset_get]
              repeat' first | (exfalso; omega) | (refine XKd_v (am2s_cons am2_g am2s_nil) (markText _ (by omega)) rfl ?_; simp (disch := omega) [wrap64, List.getElem?_eq_getElem, toNat_pred, DtCSet.cells, mkSR_el, mset_get]) | (refine XKd_p (markText _ (by omega)) (by rfl) ?_ ?_; (focus (simp (disch := omega) [wrap64, List.getElem?_eq_getElem, toNat_pred, DtCSet.cells, mkSR_el, mset_get, take_map_n]; done)); simp (disch := omega) [wrap64, List.getElem?_eq_getElem, toNat_pred, DtCSet.cells, mkSR_el, mset_get]) | (refine ⟨fun _ => ?_, fun _ => ?_⟩) | (refine ⟨by omega, ?_⟩) | (intro _)
              all_goals (refine hK _ ?_; clear hK K)
              all_goals
                refine AW_x rfl rfl fun K hK => ?_
                simp (disch := omega) [wrap64, List.getElem?_eq_getElem, toNat_pred, DtCSet.cells, mkSR_el, mset_get]
                repeat' first | (exfalso; omega) | (refine ⟨fun _ => ?_, fun _ => ?_⟩) | (refine ⟨by omega, ?_⟩) | (intro _)
                all_goals (refine hK _ ?_; clear hK K)
                all_goals
                  refine AW_xe rfl rfl fun K hK => ?_
                  simp (disch := omega) [wrap64, List.getElem?_eq_getElem, toNat_pred, DtCSet.cells, mkSR_el, mset_get]
                  repeat' first | (exfalso; omega) | (refine XKd_n (n := 8) (i := i) (f0 := 1) (markCSnapS us[i].fSnaps _ (by omega) (by omega)) ?_ ?_ ?_ ?_ rfl ?_ rfl ?_ ?_; (focus (simp; done)); (focus rfl); (focus rfl); (focus (simp [mkL_len, mkS_len]; done)); (focus (simp; done)); (focus first | exact ⟨_, mset_get _ _ _ _ (by omega), rfl⟩ | exact ⟨_, by rw [List.getElem?_map, mkSR_get _ _ _ _ _ (by omega)]; rfl, rfl⟩); simp (disch := omega) [wrap64, List.getElem?_eq_getElem, toNat_pred, DtCSet.cells, mkSR_el, mset_get]) | (refine ⟨fun _ => ?_, fun _ => ?_⟩) | (refine ⟨by omega, ?_⟩) | (intro _)
                  all_goals (refine hK _ ?_; clear hK K)
                  all_goals
                    refine AW_id ?_
                    refine AW_xe rfl rfl fun K hK => ?_
                    simp (disch := omega) [wrap64, List.getElem?_eq_getElem, toNat_pred, DtCSet.cells, mkSR_el, mset_get]
                    repeat' first | (exfalso; omega) | (refine ⟨fun _ => ?_, fun _ => ?_⟩) | (refine ⟨by omega, ?_⟩) | (intro _)
                    all_goals (refine hK _ ?_; clear hK K)
                    all_goals
                      refine ⟨_, LeS.kx [(8, 8)] [(0, .arr 8 0 us.length), (1, (.g (.int .i64 (k + cntS cntCSet (us.take (i + 1)))))), (5, (.g (.int .i64 (((i + 1) : Nat)))))] [(8, .own 2 ((mkSR mkCSet cntCSet k us (i + 1)).map DtCSet.cells))] (by simp [KpR, renV2, renV, upd_app, lkE_app, lk_cons, lk_nil, mkSR_0, cntS_nil]; try (first | rfl | (omega; done))) (by simp [KpOX, renO, plO, cvO, renV, pl1, lk_cons, lk_nil, upd_app, mkSR_0, cntS_nil]; try (first | rfl | (rw [← mkSR_set mkCSet cntCSet k us i (by omega), List.map_set]; refine row_congr ?_; simp only [DtCSet.cells, mkCSet]; repeat' (first | rfl | (omega; done) | congr 1)))) (by rfl) (by simp) (by simp) (by rfl) (by simp [formsX, List.range_succ, lk_cons, lk_nil]), _, ?_, i + 1, rfl, ?_, rfl⟩
                      · omega
                      · omega
          · try simp at hc10
            all_goals
              refine AW_exit ?_
              refine AW_id ?_
              refine AW_x rfl rfl fun K hK => ?_
              simp (disch := omega) [wrap64, List.getElem?_eq_getElem, toNat_pred, DtCSet.cells, mkSR_el, mset_get]
              repeat' first | (exfalso; omega) | (refine ⟨fun _ => ?_, fun _ => ?_⟩) | (refine ⟨by omega, ?_⟩) | (intro _)
              all_goals (refine hK _ ?_; clear hK K)
              all_goals
                refine AW_ret (end_x [] [] (by simp [List.range_succ, lk_cons, lk_nil, upd_app]) (by simp) ?_)
                simp (disch := omega) [wrap64, List.getElem?_eq_getElem, toNat_pred, DtCSet.cells, mkSR_el, mset_get]
                all_goals ((have e : i = us.length := by omega); subst e; rw [mkSR_n _ _ _ _ _ (by omega), List.take_of_length_le (by omega)]; exact ⟨rfl, rfl⟩)
theorem toCSetX (u : DtCSet) (hs : DtCSet.sz u ≤ 1048576) : XCall Try.prog 67 [.agg (DtCSet.cells u)] [] (.agg [.s u.fName, .arr 16 0 u.fSnaps.length]) [] [.own 3 (u.fSnaps.map DtCSnap.cells)] := by
  simp only [DtCSet.sz] at hs
  have hz1 := len_szS DtCSnap.sz_nonneg u.fSnaps
  refine xcall_of_walk Try.func67 (by rfl) (by rfl) (by rw [Try.ntmps67]; exact Nat.le_of_ble_eq_true rfl) rfl (by simp) rfl rfl ?_
  rw [Try.ntmps67]
  refine AW_x0   ?_
  refine AW_k [(0, _)] ⟨rfl, trivial⟩ ?_
  refine AW_x rfl rfl fun K hK => ?_
  simp (disch := omega) [wrap64, List.getElem?_eq_getElem, toNat_pred, DtCSet.cells]
  repeat' first | (exfalso; omega) | (refine ⟨fun _ => ?_, fun _ => ?_⟩) | (refine ⟨by omega, ?_⟩) | (intro _)
  all_goals (refine hK _ ?_; clear hK K)
  all_goals
    refine AW_x rfl rfl fun K hK => ?_
    simp (disch := omega) [wrap64, List.getElem?_eq_getElem, toNat_pred, DtCSet.cells]
    repeat' first | (exfalso; omega) | (refine ⟨fun _ => ?_, fun _ => ?_⟩) | (refine ⟨by omega, ?_⟩) | (intro _)
    all_goals (refine hK _ ?_; clear hK K)
    all_goals
      refine AW_x rfl rfl fun K hK => ?_
      simp (disch := omega) [wrap64, List.getElem?_eq_getElem, toNat_pred, DtCSet.cells]
      repeat' first | (exfalso; omega) | (refine ⟨fun _ => ?_, fun _ => ?_⟩) | (refine ⟨by omega, ?_⟩) | (intro _)
      all_goals (refine hK _ ?_; clear hK K)
      all_goals
        refine AW_x rfl rfl fun K hK => ?_
        simp (disch := omega) [wrap64, List.getElem?_eq_getElem, toNat_pred, DtCSet.cells]
        repeat' first | (exfalso; omega) | (refine XKd_x [] true [] (toCSnapSX u.fSnaps (by omega)) ?_ ?_ ?_; (focus (simp [List.range_succ, nmC]; done)); (focus (simp (disch := omega) [wrap64, List.getElem?_eq_getElem, toNat_pred, DtCSet.cells, take_map_n]; done)); simp (disch := omega) [wrap64, List.getElem?_eq_getElem, toNat_pred, DtCSet.cells]) | (refine ⟨fun _ => ?_, fun _ => ?_⟩) | (refine ⟨by omega, ?_⟩) | (intro _)
        all_goals (refine hK _ ?_; clear hK K)
        all_goals
          refine AW_x rfl rfl fun K hK => ?_
          simp (disch := omega) [wrap64, List.getElem?_eq_getElem, toNat_pred, DtCSet.cells]
          repeat' first | (exfalso; omega) | (refine ⟨fun _ => ?_, fun _ => ?_⟩) | (refine ⟨by omega, ?_⟩) | (intro _)
          all_goals (refine hK _ ?_; clear hK K)
          all_goals
            refine AW_ret (end_x [160] [] (by simp [List.range_succ, lk_cons, lk_nil, upd_app]) (by simp) ?_)
            simp (disch := omega) [wrap64, List.getElem?_eq_getElem, toNat_pred, DtCSet.cells]
            all_goals skip
theorem toCSetSX (us : List DtCSet) (hs : szS DtCSet.sz us ≤ 1048576) : XCall Try.prog 37 [.sl 2 (us.map DtCSet.cells)] [] (.arr 16 0 us.length) [] [.own 2 (us.map DtCSet.cells)] := by
  have hL : us.length ≤ 1048576 := by have := len_szS DtCSet.sz_nonneg us; omega
  refine xcall_of_walk Try.func37 (by rfl) (by rfl) (by rw [Try.ntmps37]; exact Nat.le_of_ble_eq_true rfl) rfl (by simp) rfl rfl ?_
  rw [Try.ntmps37]
  refine AW_x0   ?_
  refine AW_k [(0, _)] ⟨rfl, trivial⟩ ?_
  refine AW_x rfl rfl fun K hK => ?_
  simp (disch := omega) [wrap64, List.getElem?_eq_getElem, toNat_pred, DtCSet.cells, cpS_el, mset_get, List.range_succ]
  repeat' first | (exfalso; omega) | (refine ⟨fun _ => ?_, fun _ => ?_⟩) | (refine ⟨by omega, ?_⟩) | (intro _)
  all_goals (refine hK _ ?_; clear hK K)
  all_goals
    refine AW_x rfl rfl fun K hK => ?_
    simp (disch := omega) [wrap64, List.getElem?_eq_getElem, toNat_pred, DtCSet.cells, cpS_el, mset_get, List.range_succ]
    repeat' first | (exfalso; omega) | (refine ⟨fun _ => ?_, fun _ => ?_⟩) | (refine ⟨by omega, ?_⟩) | (intro _)
    all_goals (refine hK _ ?_; clear hK K)
    all_goals
      refine AW_seq ?_
      refine AW_x rfl rfl fun K hK => ?_
      simp (disch := omega) [wrap64, List.getElem?_eq_getElem, toNat_pred, DtCSet.cells, cpS_el, mset_get, List.range_succ]
      repeat' first | (exfalso; omega) | (refine ⟨fun _ => ?_, fun _ => ?_⟩) | (refine ⟨by omega, ?_⟩) | (intro _)
      all_goals (refine hK _ ?_; clear hK K)
      all_goals
        refine AW_block ?_
        refine AW_loopS (fun mM sS => ∃ (i : Nat), mM = us.length - i ∧ (i ≤ us.length) ∧ sS = { env := lkE [(0, .sl 2 (us.map DtCSet.cells)), (3, .arr 128 0 us.length), (4, (.g (.int .i64 ((i : Nat)))))], ob := lk [(128, .own 2 (cpS [.s [], .g (.slice none 0 0)] DtCSet.cells us i))] }) ?_ ?_
        · refine ⟨_, LeS.kx [(128, 128)] [(0, .sl 2 (us.map DtCSet.cells)), (3, .arr 128 0 us.length), (4, (.g (.int .i64 (((0) : Nat)))))] [(128, .own 2 (cpS [.s [], .g (.slice none 0 0)] DtCSet.cells us (0)))] (by simp [KpR, renV2, renV, upd_app, lkE_app, lk_cons, lk_nil, cpS_0, scR_rep]; try (first | rfl | (omega; done))) (by simp [KpOX, renO, plO, cvO, renV, pl1, lk_cons, lk_nil, upd_app, cpS_0, scR_rep]; try (first | rfl | (rw [← cpS_set _ _ _ i (by omega)]; simp [DtCSet.cells]; done))) (by rfl) (by simp) (by simp) (by rfl) (by simp [formsX, List.range_succ, lk_cons, lk_nil]), _, 0, rfl, ?_, rfl⟩
          · simp
        · rintro mM sS ⟨i, rfl, hi, rfl⟩
          have hln : (cpS [.s [], .g (.slice none 0 0)] DtCSet.cells us i).length = us.length := cpS_len _ _ _ _ hi
          refine AW_seq ?_
          refine AW_x rfl rfl fun K hK => ?_
          simp (disch := omega) [wrap64, List.getElem?_eq_getElem, toNat_pred, DtCSet.cells, cpS_el, mset_get, List.range_succ]
          repeat' first | (exfalso; omega) | (refine ⟨fun _ => ?_, fun _ => ?_⟩) | (refine ⟨by omega, ?_⟩) | (intro _)
          all_goals (refine hK _ ?_; clear hK K)
          all_goals
            refine AW_cond rfl (fun hc11 => ?_) (fun hc11 => ?_)
            · try simp at hc11
              all_goals
                have hsE : DtCSet.sz us[i] ≤ 1048576 := by have := sumZ_mem_le DtCSet.sz_nonneg us us[i] (List.getElem_mem _); simp only [szS] at hs; omega
                refine AW_skip ?_
                refine AW_id ?_
                refine AW_seq ?_
                refine AW_block ?_
                refine AW_xe rfl rfl fun K hK => ?_
                simp (disch := omega) [wrap64, List.getElem?_eq_getElem, toNat_pred, DtCSet.cells, cpS_el, mset_get, List.range_succ]
                repeat' first | (exfalso; omega) | (refine XKd_x [] true [] (toCSetX us[i] (by omega)) ?_ ?_ ?_; (focus (simp [List.range_succ, nmC]; done)); (focus (simp (disch := omega) [wrap64, List.getElem?_eq_getElem, toNat_pred, DtCSet.cells, cpS_el, mset_get, List.range_succ, take_map_n]; done)); simp (disch := omega) [wrap64, List.getElem?_eq_getElem, toNat_pred, DtCSet.cells, cpS_el, mset_get, List.range_succ]) | (refine ⟨fun _ => ?_, fun _ => ?_⟩) | (refine ⟨by omega, ?_⟩) | (intro _)
                all_goals (refine hK _ ?_; clear hK K)
                all_goals
                  refine AW_id ?_
                  refine AW_xe rfl rfl fun K hK => ?_
                  simp (disch := omega) [wrap64, List.getElem?_eq_getElem, toNat_pred, DtCSet.cells, cpS_el, mset_get, List.range_succ]
                  repeat' first | (exfalso; omega) | (refine ⟨fun _ => ?_, fun _ => ?_⟩) | (refine ⟨by omega, ?_⟩) | (intro _)
                  all_goals (refine hK _ ?_; clear hK K)
                  all_goals
                    refine ⟨_, LeS.kx [(128, 128)] [(0, .sl 2 (us.map DtCSet.cells)), (3, .arr 128 0 us.length), (4, (.g (.int .i64 (((i + 1) : Nat)))))] [(128, .own 2 (cpS [.s [], .g (.slice none 0 0)] DtCSet.cells us (i + 1)))] (by simp [KpR, renV2, renV, upd_app, lkE_app, lk_cons, lk_nil, cpS_0, scR_rep]; try (first | rfl | (omega; done))) (by simp [KpOX, renO, plO, cvO, renV, pl1, lk_cons, lk_nil, upd_app, cpS_0, scR_rep]; try (first | rfl | (rw [← cpS_set _ _ _ i (by omega)]; simp [DtCSet.cells]; done))) (by rfl) (by simp) (by simp) (by rfl) (by simp [formsX, List.range_succ, lk_cons, lk_nil]), _, ?_, i + 1, rfl, ?_, rfl⟩
                    · omega
                    · omega
            · try simp at hc11
              all_goals
                refine AW_exit ?_
                refine AW_id ?_
                refine AW_x rfl rfl fun K hK => ?_
                simp (disch := omega) [wrap64, List.getElem?_eq_getElem, toNat_pred, DtCSet.cells, cpS_el, mset_get, List.range_succ]
                repeat' first | (exfalso; omega) | (refine ⟨fun _ => ?_, fun _ => ?_⟩) | (refine ⟨by omega, ?_⟩) | (intro _)
                all_goals (refine hK _ ?_; clear hK K)
                all_goals
                  refine AW_ret (end_x [128] [] (by simp [List.range_succ, lk_cons, lk_nil, upd_app]) (by simp) ?_)
                  simp (disch := omega) [wrap64, List.getElem?_eq_getElem, toNat_pred, DtCSet.cells, cpS_el, mset_get, List.range_succ]
                  all_goals (rw [cpS_n _ _ _ _ (by omega)])
def mkCatalog (k : Int) (u : DtCatalog) : DtCatalog := { fSets := mkS mkCSet cntCSet (k) u.fSets }
def cntCatalog (u : DtCatalog) : Int := cntS cntCSet u.fSets
theorem cntCatalog_sz (u : DtCatalog) : cntCatalog u ≤ 16 * (1 + DtCatalog.sz u) := by
  have := cnt_sz cntCSet_sz u.fSets
  unfold cntCatalog
  simp only [DtCatalog.sz]
  omega
theorem toCatalogX (u : DtCatalog) (hs : DtCatalog.sz u ≤ 1048576) : XCall Try.prog 9 [.agg (DtCatalog.cells u)] [] (.agg [.arr 16 0 u.fSets.length]) [] [.own 2 (u.fSets.map DtCSet.cells)] := by
  simp only [DtCatalog.sz] at hs
  have hz1 := len_szS DtCSet.sz_nonneg u.fSets
  refine xcall_of_walk Try.func9 (by rfl) (by rfl) (by rw [Try.ntmps9]; exact Nat.le_of_ble_eq_true rfl) rfl (by simp) rfl rfl ?_
  rw [Try.ntmps9]
  refine AW_x0   ?_
  refine AW_k [(0, _)] ⟨rfl, trivial⟩ ?_
  refine AW_x rfl rfl fun K hK => ?_
  simp (disch := omega) [wrap64, List.getElem?_eq_getElem, toNat_pred, DtCatalog.cells]
  repeat' first | (exfalso; omega) | (refine ⟨fun _ => ?_, fun _ => ?_⟩) | (refine ⟨by omega, ?_⟩) | (intro _)
  all_goals (refine hK _ ?_; clear hK K)
  all_goals
    refine AW_x rfl rfl fun K hK => ?_
    simp (disch := omega) [wrap64, List.getElem?_eq_getElem, toNat_pred, DtCatalog.cells]
    repeat' first | (exfalso; omega) | (refine ⟨fun _ => ?_, fun _ => ?_⟩) | (refine ⟨by omega, ?_⟩) | (intro _)
    all_goals (refine hK _ ?_; clear hK K)
    all_goals
      refine AW_x rfl rfl fun K hK => ?_
      simp (disch := omega) [wrap64, List.getElem?_eq_getElem, toNat_pred, DtCatalog.cells]
      repeat' first | (exfalso; omega) | (refine XKd_x [] true [] (toCSetSX u.fSets (by omega)) ?_ ?_ ?_; (focus (simp [List.range_succ, nmC]; done)); (focus (simp (disch := omega) [wrap64, List.getElem?_eq_getElem, toNat_pred, DtCatalog.cells, take_map_n]; done)); simp (disch := omega) [wrap64, List.getElem?_eq_getElem, toNat_pred, DtCatalog.cells]) | (refine ⟨fun _ => ?_, fun _ => ?_⟩) | (refine ⟨by omega, ?_⟩) | (intro _)
      all_goals (refine hK _ ?_; clear hK K)
      all_goals
        refine AW_x rfl rfl fun K hK => ?_
        simp (disch := omega) [wrap64, List.getElem?_eq_getElem, toNat_pred, DtCatalog.cells]
        repeat' first | (exfalso; omega) | (refine ⟨fun _ => ?_, fun _ => ?_⟩) | (refine ⟨by omega, ?_⟩) | (intro _)
        all_goals (refine hK _ ?_; clear hK K)
        all_goals
          refine AW_ret (end_x [112] [] (by simp [List.range_succ, lk_cons, lk_nil, upd_app]) (by simp) ?_)
          simp (disch := omega) [wrap64, List.getElem?_eq_getElem, toNat_pred, DtCatalog.cells]
          all_goals skip
def mvCatalog (k : Int) (u : DtCatalog) : DtCatalog := { fSets := mkS mkCSet cntCSet (k) u.fSets }
def cvCatalog (u : DtCatalog) : Int := cntS cntCSet u.fSets
theorem cvCatalog_nn (u : DtCatalog) : 0 ≤ cvCatalog u := by
  have := cntS_nn cntCSet_nn u.fSets
  unfold cvCatalog
  omega
theorem markCatalog (u : DtCatalog) (k : Int) (hs : DtCatalog.sz u ≤ 1048576) (hk : 0 ≤ k ∧ k + cvCatalog u ≤ 1073741824) : XCall Try.prog 13 [.agg [.arr 8 0 u.fSets.length], (.g (.int .i64 (k)))] [.own 2 (u.fSets.map DtCSet.cells)] (.g (.int .i64 (k + cvCatalog u))) [.own 2 ((mkS mkCSet cntCSet (k) u.fSets).map DtCSet.cells)] [] := by
  simp only [DtCatalog.sz] at hs
  have hz1 := len_szS DtCSet.sz_nonneg u.fSets
  have hy1 := cntS_nn cntCSet_nn u.fSets
  simp only [cvCatalog] at hk
  simp only [cvCatalog]
  refine xcall_of_walk Try.func13 (by rfl) (by rfl) (by rw [Try.ntmps13]; exact Nat.le_of_ble_eq_true rfl) rfl (by simp) rfl rfl ?_
  rw [Try.ntmps13]
  refine AW_x1 (.own 2 (u.fSets.map DtCSet.cells)) (by simp [cvO]) ?_
  refine AW_k [(0, _), (1, _)] ⟨rfl, rfl, trivial⟩ ?_
  refine AW_x rfl rfl fun K hK => ?_
  simp (disch := omega) [wrap64, List.getElem?_eq_getElem, toNat_pred, DtCatalog.cells]
  repeat' first | (exfalso; omega) | (refine ⟨fun _ => ?_, fun _ => ?_⟩) | (refine ⟨by omega, ?_⟩) | (intro _)
  all_goals (refine hK _ ?_; clear hK K)
  all_goals
    refine AW_x rfl rfl fun K hK => ?_
    simp (disch := omega) [wrap64, List.getElem?_eq_getElem, toNat_pred, DtCatalog.cells]
    repeat' first | (exfalso; omega) | (refine XKd_x [8] true [] (markCSetS u.fSets _ (by omega) (by omega)) ?_ ?_ ?_; (focus (simp [List.range_succ, nmC]; done)); (focus (simp (disch := omega) [wrap64, List.getElem?_eq_getElem, toNat_pred, DtCatalog.cells, take_map_n]; done)); simp (disch := omega) [wrap64, List.getElem?_eq_getElem, toNat_pred, DtCatalog.cells]) | (refine ⟨fun _ => ?_, fun _ => ?_⟩) | (refine ⟨by omega, ?_⟩) | (intro _)
    all_goals (refine hK _ ?_; clear hK K)
    all_goals
      refine AW_x rfl rfl fun K hK => ?_
      simp (disch := omega) [wrap64, List.getElem?_eq_getElem, toNat_pred, DtCatalog.cells]
      repeat' first | (exfalso; omega) | (refine ⟨fun _ => ?_, fun _ => ?_⟩) | (refine ⟨by omega, ?_⟩) | (intro _)
      all_goals (refine hK _ ?_; clear hK K)
      all_goals
        refine AW_ret (end_x [] [] (by simp [List.range_succ, lk_cons, lk_nil, upd_app]) (by simp) ?_)
        simp (disch := omega) [wrap64, List.getElem?_eq_getElem, toNat_pred, DtCatalog.cells]
        all_goals (first | omega | skip)
def mkUp (k : Int) (u : DtUp) : DtUp := { fChunk := mT (k), fNodes := mkL id (k + 1) u.fNodes.length, fEpoch := k + 1 + (u.fNodes.length : Nat) }
def cntUp (u : DtUp) : Int := 1 + (u.fNodes.length : Nat) + 1
theorem cntUp_nn (u : DtUp) : 0 ≤ cntUp u := by
  unfold cntUp
  omega
theorem cntUp_sz (u : DtUp) : cntUp u ≤ 16 * (1 + DtUp.sz u) := by
  unfold cntUp
  simp only [DtUp.sz]
  omega
theorem markUpS (us : List DtUp) (k : Int) (hs : szS DtUp.sz us ≤ 1048576) (hk : 0 ≤ k ∧ k + cntS cntUp us ≤ 1073741824) : XCall Try.prog 51 [.arr 8 0 us.length, (.g (.int .i64 (k)))] [.own 3 (us.map DtUp.cells)] (.g (.int .i64 (k + cntS cntUp us))) [.own 3 ((mkS mkUp cntUp k us).map DtUp.cells)] [] := by
  have hL : us.length ≤ 1048576 := by have := len_szS DtUp.sz_nonneg us; omega
  refine xcall_of_walk Try.func51 (by rfl) (by rfl) (by rw [Try.ntmps51]; exact Nat.le_of_ble_eq_true rfl) rfl (by simp) rfl rfl ?_
  rw [Try.ntmps51]
  refine AW_x1 (.own 3 (us.map DtUp.cells)) (by simp [cvO]) ?_
  refine AW_k [(0, _), (1, _)] ⟨rfl, rfl, trivial⟩ ?_
  refine AW_x rfl rfl fun K hK => ?_
  simp (disch := omega) [wrap64, List.getElem?_eq_getElem, toNat_pred, DtUp.cells, mkSR_el, mset_get]
  repeat' first | (exfalso; omega) | (refine ⟨fun _ => ?_, fun _ => ?_⟩) | (refine ⟨by omega, ?_⟩) | (intro _)
  all_goals (refine hK _ ?_; clear hK K)
  all_goals
    refine AW_seq ?_
    refine AW_x rfl rfl fun K hK => ?_
    simp (disch := omega) [wrap64, List.getElem?_eq_getElem, toNat_pred, DtUp.cells, mkSR_el, mset_get]
    repeat' first | (exfalso; omega) | (refine ⟨fun _ => ?_, fun _ => ?_⟩) | (refine ⟨by omega, ?_⟩) | (intro _)
    all_goals (refine hK _ ?_; clear hK K)
    all_goals
      refine AW_block ?_
      refine AW_loopS (fun mM sS => ∃ (i : Nat), mM = us.length - i ∧ (i ≤ us.length) ∧ sS = { env := lkE [(0, .arr 8 0 us.length), (1, (.g (.int .i64 (k + cntS cntUp (us.take i))))), (5, (.g (.int .i64 ((i : Nat)))))], ob := lk [(8, .own 3 ((mkSR mkUp cntUp k us i).map DtUp.cells))] }) ?_ ?_
      · refine ⟨_, LeS.kx [(8, 8)] [(0, .arr 8 0 us.length), (1, (.g (.int .i64 (k + cntS cntUp (us.take (0)))))), (5, (.g (.int .i64 (((0) : Nat)))))] [(8, .own 3 ((mkSR mkUp cntUp k us (0)).map DtUp.cells))] (by simp [KpR, renV2, renV, upd_app, lkE_app, lk_cons, lk_nil, mkSR_0, cntS_nil]; try (first | rfl | (omega; done))) (by simp [KpOX, renO, plO, cvO, renV, pl1, lk_cons, lk_nil, upd_app, mkSR_0, cntS_nil]; try (first | rfl | (rw [← mkSR_set mkUp cntUp k us i (by omega), List.map_set]; refine row_congr ?_; simp only [DtUp.cells, mkUp]; repeat' (first | rfl | (omega; done) | congr 1)))) (by rfl) (by simp) (by simp) (by rfl) (by simp [formsX, List.range_succ, lk_cons, lk_nil]), _, 0, rfl, ?_, rfl⟩
        · simp
      · rintro mM sS ⟨i, rfl, hi, rfl⟩
        have hln : (mkSR mkUp cntUp k us i).length = us.length := mkSR_len _ _ _ _ _ hi
        refine AW_seq ?_
        refine AW_x rfl rfl fun K hK => ?_
        simp (disch := omega) [wrap64, List.getElem?_eq_getElem, toNat_pred, DtUp.cells, mkSR_el, mset_get]
        repeat' first | (exfalso; omega) | (refine ⟨fun _ => ?_, fun _ => ?_⟩) | (refine ⟨by omega, ?_⟩) | (intro _)
        all_goals (refine hK _ ?_; clear hK K)
        all_goals
          refine AW_cond rfl (fun hc12 => ?_) (fun hc12 => ?_)
          · try simp at hc12
            all_goals
              have hcl := cntS_le cntUp_nn us i (by omega)
              have hcu : cntUp us[i] = 1 + (us[i].fNodes.length : Nat) + 1 := rfl
              have hcs := cntS_succ cntUp us i (by omega)
              have hsE : DtUp.sz us[i] ≤ 1048576 := by have := sumZ_mem_le DtUp.sz_nonneg us us[i] (List.getElem_mem _); simp only [szS] at hs; omega
              simp only [DtUp.sz] at hsE
              refine AW_skip ?_
              refine AW_id ?_
              refine AW_seq ?_
              refine AW_block ?_
              refine AW_x rfl rfl fun K hK => ?_
              simp (disch := omega) [wrap64, List.getElem?_eq_getElem, toNat_pred, DtUp.cells, mkSR_el, mset_get]
              repeat' first | (exfalso; omega) | (refine XKd_v (am2s_cons am2_g am2s_nil) (markText _ (by omega)) rfl ?_; simp (disch := omega) [wrap64, List.getElem?_eq_getElem, toNat_pred, DtUp.cells, mkSR_el, mset_get]) | (refine XKd_p (markText _ (by omega)) (by rfl) ?_ ?_; (focus (simp (disch := omega) [wrap64, List.getElem?_eq_getElem, toNat_pred, DtUp.cells, mkSR_el, mset_get, take_map_n]; done)); simp (disch := omega) [wrap64, List.getElem?_eq_getElem, toNat_pred, DtUp.cells, mkSR_el, mset_get]) | (refine ⟨fun _ => ?_, fun _ => ?_⟩) | (refine ⟨by omega, ?_⟩) | (intro _)
              all_goals (refine hK _ ?_; clear hK K)
              all_goals
                refine AW_x rfl rfl fun K hK => ?_
                simp (disch := omega) [wrap64, List.getElem?_eq_getElem, toNat_pred, DtUp.cells, mkSR_el, mset_get]
                repeat' first | (exfalso; omega) | (refine ⟨fun _ => ?_, fun _ => ?_⟩) | (refine ⟨by omega, ?_⟩) | (intro _)
                all_goals (refine hK _ ?_; clear hK K)
                all_goals
                  refine AW_x rfl rfl fun K hK => ?_
                  simp (disch := omega) [wrap64, List.getElem?_eq_getElem, toNat_pred, DtUp.cells, mkSR_el, mset_get]
                  repeat' first | (exfalso; omega) | (refine XKd_n (n := 8) (i := i) (f0 := 1) (markIntS us[i].fNodes _ (by omega) (by omega)) ?_ ?_ ?_ ?_ rfl ?_ rfl ?_ ?_; (focus (simp; done)); (focus rfl); (focus rfl); (focus (simp [mkL_len, mkS_len]; done)); (focus (simp; done)); (focus first | exact ⟨_, mset_get _ _ _ _ (by omega), rfl⟩ | exact ⟨_, by rw [List.getElem?_map, mkSR_get _ _ _ _ _ (by omega)]; rfl, rfl⟩); simp (disch := omega) [wrap64, List.getElem?_eq_getElem, toNat_pred, DtUp.cells, mkSR_el, mset_get]) | (refine ⟨fun _ => ?_, fun _ => ?_⟩) | (refine ⟨by omega, ?_⟩) | (intro _)
                  all_goals (refine hK _ ?_; clear hK K)
                  all_goals
                    refine AW_x rfl rfl fun K hK => ?_
                    simp (disch := omega) [wrap64, List.getElem?_eq_getElem, toNat_pred, DtUp.cells, mkSR_el, mset_get]
                    repeat' first | (exfalso; omega) | (refine ⟨fun _ => ?_, fun _ => ?_⟩) | (refine ⟨by omega, ?_⟩) | (intro _)
                    all_goals (refine hK _ ?_; clear hK K)
                    all_goals
                      refine AW_xe rfl rfl fun K hK => ?_
                      simp (disch := omega) [wrap64, List.getElem?_eq_getElem, toNat_pred, DtUp.cells, mkSR_el, mset_get]
                      repeat' first | (exfalso; omega) | (refine ⟨fun _ => ?_, fun _ => ?_⟩) | (refine ⟨by omega, ?_⟩) | (intro _)
                      all_goals (refine hK _ ?_; clear hK K)
                      all_goals
                        refine AW_id ?_
                        refine AW_xe rfl rfl fun K hK => ?_
                        simp (disch := omega) [wrap64, List.getElem?_eq_getElem, toNat_pred, DtUp.cells, mkSR_el, mset_get]
                        repeat' first | (exfalso; omega) | (refine ⟨fun _ => ?_, fun _ => ?_⟩) | (refine ⟨by omega, ?_⟩) | (intro _)
                        all_goals (refine hK _ ?_; clear hK K)
                        all_goals
                          refine ⟨_, LeS.kx [(8, 8)] [(0, .arr 8 0 us.length), (1, (.g (.int .i64 (k + cntS cntUp (us.take (i + 1)))))), (5, (.g (.int .i64 (((i + 1) : Nat)))))] [(8, .own 3 ((mkSR mkUp cntUp k us (i + 1)).map DtUp.cells))] (by simp [KpR, renV2, renV, upd_app, lkE_app, lk_cons, lk_nil, mkSR_0, cntS_nil]; try (first | rfl | (omega; done))) (by simp [KpOX, renO, plO, cvO, renV, pl1, lk_cons, lk_nil, upd_app, mkSR_0, cntS_nil]; try (first | rfl | (rw [← mkSR_set mkUp cntUp k us i (by omega), List.map_set]; refine row_congr ?_; simp only [DtUp.cells, mkUp]; repeat' (first | rfl | (omega; done) | congr 1)))) (by rfl) (by simp) (by simp) (by rfl) (by simp [formsX, List.range_succ, lk_cons, lk_nil]), _, ?_, i + 1, rfl, ?_, rfl⟩
                          · omega
                          · omega
          · try simp at hc12
            all_goals
              refine AW_exit ?_
              refine AW_id ?_
              refine AW_x rfl rfl fun K hK => ?_
              simp (disch := omega) [wrap64, List.getElem?_eq_getElem, toNat_pred, DtUp.cells, mkSR_el, mset_get]
              repeat' first | (exfalso; omega) | (refine ⟨fun _ => ?_, fun _ => ?_⟩) | (refine ⟨by omega, ?_⟩) | (intro _)
              all_goals (refine hK _ ?_; clear hK K)
              all_goals
                refine AW_ret (end_x [] [] (by simp [List.range_succ, lk_cons, lk_nil, upd_app]) (by simp) ?_)
                simp (disch := omega) [wrap64, List.getElem?_eq_getElem, toNat_pred, DtUp.cells, mkSR_el, mset_get]
                all_goals ((have e : i = us.length := by omega); subst e; rw [mkSR_n _ _ _ _ _ (by omega), List.take_of_length_le (by omega)]; exact ⟨rfl, rfl⟩)
theorem heldUpS (us : List DtUp) (k : Int) (hs : szS DtUp.sz us ≤ 1048576) (hk : 0 ≤ k ∧ k + cntS cntUp us ≤ 1073741824) : PCall Try.prog 62 [.sl 3 ((mkS mkUp cntUp k us).map DtUp.cells), (.g (.int .i64 (k)))] (.g (.int .i64 (k + cntS cntUp us))) := by
  have hL : us.length ≤ 1048576 := by have := len_szS DtUp.sz_nonneg us; omega
  refine gcall_of_walk Try.func62 (by rfl) (by rfl) (by rw [Try.ntmps62]; exact Nat.le_of_ble_eq_true rfl) rfl (by decide) ?_
  rw [Try.ntmps62]
  refine AW_k [(0, _), (1, _)] ⟨rfl, rfl, trivial⟩ ?_
  refine AW_r rfl rfl fun K hK => ?_
  simp (disch := omega) [wrap64, List.getElem?_eq_getElem, toNat_pred, DtUp.cells, mkS_el, mkUp]
  repeat' first | (exfalso; omega) | (refine ⟨fun _ => ?_, fun _ => ?_⟩) | (refine ⟨by omega, ?_⟩) | (intro _)
  all_goals (refine hK _ ?_; clear hK K)
  all_goals
    refine AW_seq ?_
    refine AW_r rfl rfl fun K hK => ?_
    simp (disch := omega) [wrap64, List.getElem?_eq_getElem, toNat_pred, DtUp.cells, mkS_el, mkUp]
    repeat' first | (exfalso; omega) | (refine ⟨fun _ => ?_, fun _ => ?_⟩) | (refine ⟨by omega, ?_⟩) | (intro _)
    all_goals (refine hK _ ?_; clear hK K)
    all_goals
      refine AW_block ?_
      refine AW_loopS (fun mM sS => ∃ (i : Nat), mM = us.length - i ∧ (i ≤ us.length) ∧ sS = { env := lkE [(0, .sl 3 ((mkS mkUp cntUp k us).map DtUp.cells)), (1, (.g (.int .i64 (k + cntS cntUp (us.take i))))), (5, (.g (.int .i64 ((i : Nat)))))], ob := formOb [] [] }) ?_ ?_
      · refine ⟨_, LeS.kp [(0, .sl 3 ((mkS mkUp cntUp k us).map DtUp.cells)), (1, (.g (.int .i64 (k + cntS cntUp (us.take (0)))))), (5, (.g (.int .i64 (((0) : Nat)))))] (by simp [KpE, upd_app, lkE_app, lk_cons, cntS_nil]; try (first | rfl | (omega; done))), _, 0, rfl, ?_, rfl⟩
        · simp
      · rintro mM sS ⟨i, rfl, hi, rfl⟩
        have hln : (mkS mkUp cntUp k us).length = us.length := mkS_len _ _ _ _
        refine AW_seq ?_
        refine AW_r rfl rfl fun K hK => ?_
        simp (disch := omega) [wrap64, List.getElem?_eq_getElem, toNat_pred, DtUp.cells, mkS_el, mkUp]
        repeat' first | (exfalso; omega) | (refine ⟨fun _ => ?_, fun _ => ?_⟩) | (refine ⟨by omega, ?_⟩) | (intro _)
        all_goals (refine hK _ ?_; clear hK K)
        all_goals
          refine AW_cond rfl (fun hc13 => ?_) (fun hc13 => ?_)
          · try simp at hc13
            all_goals
              have hcl := cntS_le cntUp_nn us i (by omega)
              have hcu : cntUp us[i] = 1 + (us[i].fNodes.length : Nat) + 1 := rfl
              have hcs := cntS_succ cntUp us i (by omega)
              have hsE : DtUp.sz us[i] ≤ 1048576 := by have := sumZ_mem_le DtUp.sz_nonneg us us[i] (List.getElem_mem _); simp only [szS] at hs; omega
              simp only [DtUp.sz] at hsE
              refine AW_skip ?_
              refine AW_id ?_
              refine AW_seq ?_
              refine AW_block ?_
              refine AW_seq ?_
              refine AW_q rfl mix (by kernel_rfl) rfl fun K hK => ?_
              simp (disch := omega) [wrap64, List.getElem?_eq_getElem, toNat_pred, DtUp.cells, mkS_el, mkUp]
              repeat' first | (exfalso; omega) | (refine CKd_v (am2s_cons am2_g am2s_nil) (markText _ (by omega)) rfl ?_; simp (disch := omega) [wrap64, List.getElem?_eq_getElem, toNat_pred, DtUp.cells, mkS_el, mkUp]) | (refine ⟨fun _ => ?_, fun _ => ?_⟩) | (refine ⟨by omega, ?_⟩) | (intro _)
              all_goals (refine hK _ ?_; clear hK K)
              all_goals
                refine AW_cond rfl (fun hc14 => ?_) (fun hc14 => ?_)
                · try simp at hc14
                  all_goals
                    refine AW_r rfl rfl fun K hK => ?_
                    simp (disch := omega) [wrap64, List.getElem?_eq_getElem, toNat_pred, DtUp.cells, mkS_el, mkUp]
                    repeat' first | (exfalso; omega) | (refine ⟨fun _ => ?_, fun _ => ?_⟩) | (refine ⟨by omega, ?_⟩) | (intro _)
                    all_goals (refine hK _ ?_; clear hK K)
                    all_goals
                      refine AW_ret (end_s ?_)
                      simp (disch := omega) [wrap64, List.getElem?_eq_getElem, toNat_pred, DtUp.cells, mkS_el, mkUp]
                      all_goals first | omega | ((have e : i = us.length := by omega); subst e; rw [List.take_of_length_le (by omega)])
                · try simp at hc14
                  all_goals
                    refine AW_skip ?_
                    refine AW_id ?_
                    refine AW_r rfl rfl fun K hK => ?_
                    simp (disch := omega) [wrap64, List.getElem?_eq_getElem, toNat_pred, DtUp.cells, mkS_el, mkUp]
                    repeat' first | (exfalso; omega) | (refine ⟨fun _ => ?_, fun _ => ?_⟩) | (refine ⟨by omega, ?_⟩) | (intro _)
                    all_goals (refine hK _ ?_; clear hK K)
                    all_goals
                      refine AW_r rfl rfl fun K hK => ?_
                      simp (disch := omega) [wrap64, List.getElem?_eq_getElem, toNat_pred, DtUp.cells, mkS_el, mkUp]
                      repeat' first | (exfalso; omega) | (refine CKd_v (am2s_cons am2_sl (am2s_cons am2_g am2s_nil)) (heldIntS us[i].fNodes.length _ (by omega) (by omega)) rfl ?_; simp (disch := omega) [wrap64, List.getElem?_eq_getElem, toNat_pred, DtUp.cells, mkS_el, mkUp]) | (refine ⟨fun _ => ?_, fun _ => ?_⟩) | (refine ⟨by omega, ?_⟩) | (intro _)
                      all_goals (refine hK _ ?_; clear hK K)
                      all_goals
                        refine AW_seq ?_
                        refine AW_r rfl rfl fun K hK => ?_
                        simp (disch := omega) [wrap64, List.getElem?_eq_getElem, toNat_pred, DtUp.cells, mkS_el, mkUp]
                        repeat' first | (exfalso; omega) | (refine ⟨fun _ => ?_, fun _ => ?_⟩) | (refine ⟨by omega, ?_⟩) | (intro _)
                        all_goals (refine hK _ ?_; clear hK K)
                        all_goals
                          refine AW_cond rfl (fun hc15 => ?_) (fun hc15 => ?_)
                          · try simp at hc15
                            all_goals
                              refine AW_r rfl rfl fun K hK => ?_
                              simp (disch := omega) [wrap64, List.getElem?_eq_getElem, toNat_pred, DtUp.cells, mkS_el, mkUp]
                              repeat' first | (exfalso; omega) | (refine ⟨fun _ => ?_, fun _ => ?_⟩) | (refine ⟨by omega, ?_⟩) | (intro _)
                              all_goals (refine hK _ ?_; clear hK K)
                              all_goals
                                refine AW_ret (end_s ?_)
                                simp (disch := omega) [wrap64, List.getElem?_eq_getElem, toNat_pred, DtUp.cells, mkS_el, mkUp]
                                all_goals first | omega | ((have e : i = us.length := by omega); subst e; rw [List.take_of_length_le (by omega)])
                          · try simp at hc15
                            all_goals
                              refine AW_skip ?_
                              refine AW_id ?_
                              refine AW_seq ?_
                              refine AW_r rfl rfl fun K hK => ?_
                              simp (disch := omega) [wrap64, List.getElem?_eq_getElem, toNat_pred, DtUp.cells, mkS_el, mkUp]
                              repeat' first | (exfalso; omega) | (refine ⟨fun _ => ?_, fun _ => ?_⟩) | (refine ⟨by omega, ?_⟩) | (intro _)
                              all_goals (refine hK _ ?_; clear hK K)
                              all_goals
                                refine AW_cond rfl (fun hc16 => ?_) (fun hc16 => ?_)
                                · try simp at hc16
                                  all_goals
                                    refine AW_r rfl rfl fun K hK => ?_
                                    simp (disch := omega) [wrap64, List.getElem?_eq_getElem, toNat_pred, DtUp.cells, mkS_el, mkUp]
                                    repeat' first | (exfalso; omega) | (refine ⟨fun _ => ?_, fun _ => ?_⟩) | (refine ⟨by omega, ?_⟩) | (intro _)
                                    all_goals (refine hK _ ?_; clear hK K)
                                    all_goals
                                      refine AW_ret (end_s ?_)
                                      simp (disch := omega) [wrap64, List.getElem?_eq_getElem, toNat_pred, DtUp.cells, mkS_el, mkUp]
                                      all_goals first | omega | ((have e : i = us.length := by omega); subst e; rw [List.take_of_length_le (by omega)])
                                · try simp at hc16
                                  all_goals
                                    refine AW_skip ?_
                                    refine AW_id ?_
                                    refine AW_re rfl rfl fun K hK => ?_
                                    simp (disch := omega) [wrap64, List.getElem?_eq_getElem, toNat_pred, DtUp.cells, mkS_el, mkUp]
                                    repeat' first | (exfalso; omega) | (refine ⟨fun _ => ?_, fun _ => ?_⟩) | (refine ⟨by omega, ?_⟩) | (intro _)
                                    all_goals (refine hK _ ?_; clear hK K)
                                    all_goals
                                      refine AW_id ?_
                                      refine AW_re rfl rfl fun K hK => ?_
                                      simp (disch := omega) [wrap64, List.getElem?_eq_getElem, toNat_pred, DtUp.cells, mkS_el, mkUp]
                                      repeat' first | (exfalso; omega) | (refine ⟨fun _ => ?_, fun _ => ?_⟩) | (refine ⟨by omega, ?_⟩) | (intro _)
                                      all_goals (refine hK _ ?_; clear hK K)
                                      all_goals
                                        refine ⟨_, LeS.kp [(0, .sl 3 ((mkS mkUp cntUp k us).map DtUp.cells)), (1, (.g (.int .i64 (k + cntS cntUp (us.take (i + 1)))))), (5, (.g (.int .i64 (((i + 1) : Nat)))))] (by simp [KpE, upd_app, lkE_app, lk_cons, cntS_nil]; try (first | rfl | (omega; done))), _, ?_, i + 1, rfl, ?_, rfl⟩
                                        · omega
                                        · omega
          · try simp at hc13
            all_goals
              refine AW_exit ?_
              refine AW_id ?_
              refine AW_r rfl rfl fun K hK => ?_
              simp (disch := omega) [wrap64, List.getElem?_eq_getElem, toNat_pred, DtUp.cells, mkS_el, mkUp]
              repeat' first | (exfalso; omega) | (refine ⟨fun _ => ?_, fun _ => ?_⟩) | (refine ⟨by omega, ?_⟩) | (intro _)
              all_goals (refine hK _ ?_; clear hK K)
              all_goals
                refine AW_ret (end_s ?_)
                simp (disch := omega) [wrap64, List.getElem?_eq_getElem, toNat_pred, DtUp.cells, mkS_el, mkUp]
                all_goals first | omega | ((have e : i = us.length := by omega); subst e; rw [List.take_of_length_le (by omega)])
theorem toUpX (u : DtUp) (hs : DtUp.sz u ≤ 1048576) : XCall Try.prog 76 [.agg (DtUp.cells u)] [] (.agg [.s u.fChunk, .arr 16 0 u.fNodes.length, .g (.int .i64 u.fEpoch)]) [] [.own 1 (u.fNodes.map cI)] := by
  simp only [DtUp.sz] at hs
  refine xcall_of_walk Try.func76 (by rfl) (by rfl) (by rw [Try.ntmps76]; exact Nat.le_of_ble_eq_true rfl) rfl (by simp) rfl rfl ?_
  rw [Try.ntmps76]
  refine AW_x0   ?_
  refine AW_k [(0, _)] ⟨rfl, trivial⟩ ?_
  refine AW_x rfl rfl fun K hK => ?_
  simp (disch := omega) [wrap64, List.getElem?_eq_getElem, toNat_pred, DtUp.cells]
  repeat' first | (exfalso; omega) | (refine ⟨fun _ => ?_, fun _ => ?_⟩) | (refine ⟨by omega, ?_⟩) | (intro _)
  all_goals (refine hK _ ?_; clear hK K)
  all_goals
    refine AW_x rfl rfl fun K hK => ?_
    simp (disch := omega) [wrap64, List.getElem?_eq_getElem, toNat_pred, DtUp.cells]
    repeat' first | (exfalso; omega) | (refine ⟨fun _ => ?_, fun _ => ?_⟩) | (refine ⟨by omega, ?_⟩) | (intro _)
    all_goals (refine hK _ ?_; clear hK K)
    all_goals
      refine AW_x rfl rfl fun K hK => ?_
      simp (disch := omega) [wrap64, List.getElem?_eq_getElem, toNat_pred, DtUp.cells]
      repeat' first | (exfalso; omega) | (refine ⟨fun _ => ?_, fun _ => ?_⟩) | (refine ⟨by omega, ?_⟩) | (intro _)
      all_goals (refine hK _ ?_; clear hK K)
      all_goals
        refine AW_x rfl rfl fun K hK => ?_
        simp (disch := omega) [wrap64, List.getElem?_eq_getElem, toNat_pred, DtUp.cells]
        repeat' first | (exfalso; omega) | (refine XKd_x [] true [] (toIntSX u.fNodes (by omega)) ?_ ?_ ?_; (focus (simp [List.range_succ, nmC]; done)); (focus (simp (disch := omega) [wrap64, List.getElem?_eq_getElem, toNat_pred, DtUp.cells, take_map_n]; done)); simp (disch := omega) [wrap64, List.getElem?_eq_getElem, toNat_pred, DtUp.cells]) | (refine ⟨fun _ => ?_, fun _ => ?_⟩) | (refine ⟨by omega, ?_⟩) | (intro _)
        all_goals (refine hK _ ?_; clear hK K)
        all_goals
          refine AW_x rfl rfl fun K hK => ?_
          simp (disch := omega) [wrap64, List.getElem?_eq_getElem, toNat_pred, DtUp.cells]
          repeat' first | (exfalso; omega) | (refine ⟨fun _ => ?_, fun _ => ?_⟩) | (refine ⟨by omega, ?_⟩) | (intro _)
          all_goals (refine hK _ ?_; clear hK K)
          all_goals
            refine AW_x rfl rfl fun K hK => ?_
            simp (disch := omega) [wrap64, List.getElem?_eq_getElem, toNat_pred, DtUp.cells]
            repeat' first | (exfalso; omega) | (refine ⟨fun _ => ?_, fun _ => ?_⟩) | (refine ⟨by omega, ?_⟩) | (intro _)
            all_goals (refine hK _ ?_; clear hK K)
            all_goals
              refine AW_ret (end_x [160] [] (by simp [List.range_succ, lk_cons, lk_nil, upd_app]) (by simp) ?_)
              simp (disch := omega) [wrap64, List.getElem?_eq_getElem, toNat_pred, DtUp.cells]
              all_goals skip
theorem toUpSX (us : List DtUp) (hs : szS DtUp.sz us ≤ 1048576) : XCall Try.prog 47 [.sl 3 (us.map DtUp.cells)] [] (.arr 16 0 us.length) [] [.own 3 (us.map DtUp.cells)] := by
  have hL : us.length ≤ 1048576 := by have := len_szS DtUp.sz_nonneg us; omega
  refine xcall_of_walk Try.func47 (by rfl) (by rfl) (by rw [Try.ntmps47]; exact Nat.le_of_ble_eq_true rfl) rfl (by simp) rfl rfl ?_
  rw [Try.ntmps47]
  refine AW_x0   ?_
  refine AW_k [(0, _)] ⟨rfl, trivial⟩ ?_
  refine AW_x rfl rfl fun K hK => ?_
  simp (disch := omega) [wrap64, List.getElem?_eq_getElem, toNat_pred, DtUp.cells, cpS_el, mset_get, List.range_succ]
  repeat' first | (exfalso; omega) | (refine ⟨fun _ => ?_, fun _ => ?_⟩) | (refine ⟨by omega, ?_⟩) | (intro _)
  all_goals (refine hK _ ?_; clear hK K)
  all_goals
    refine AW_x rfl rfl fun K hK => ?_
    simp (disch := omega) [wrap64, List.getElem?_eq_getElem, toNat_pred, DtUp.cells, cpS_el, mset_get, List.range_succ]
    repeat' first | (exfalso; omega) | (refine ⟨fun _ => ?_, fun _ => ?_⟩) | (refine ⟨by omega, ?_⟩) | (intro _)
    all_goals (refine hK _ ?_; clear hK K)
    all_goals
      refine AW_seq ?_
      refine AW_x rfl rfl fun K hK => ?_
      simp (disch := omega) [wrap64, List.getElem?_eq_getElem, toNat_pred, DtUp.cells, cpS_el, mset_get, List.range_succ]
      repeat' first | (exfalso; omega) | (refine ⟨fun _ => ?_, fun _ => ?_⟩) | (refine ⟨by omega, ?_⟩) | (intro _)
      all_goals (refine hK _ ?_; clear hK K)
      all_goals
        refine AW_block ?_
        refine AW_loopS (fun mM sS => ∃ (i : Nat), mM = us.length - i ∧ (i ≤ us.length) ∧ sS = { env := lkE [(0, .sl 3 (us.map DtUp.cells)), (3, .arr 128 0 us.length), (4, (.g (.int .i64 ((i : Nat)))))], ob := lk [(128, .own 3 (cpS [.s [], .g (.slice none 0 0), .g (.int .i64 0)] DtUp.cells us i))] }) ?_ ?_
        · refine ⟨_, LeS.kx [(128, 128)] [(0, .sl 3 (us.map DtUp.cells)), (3, .arr 128 0 us.length), (4, (.g (.int .i64 (((0) : Nat)))))] [(128, .own 3 (cpS [.s [], .g (.slice none 0 0), .g (.int .i64 0)] DtUp.cells us (0)))] (by simp [KpR, renV2, renV, upd_app, lkE_app, lk_cons, lk_nil, cpS_0, scR_rep]; try (first | rfl | (omega; done))) (by simp [KpOX, renO, plO, cvO, renV, pl1, lk_cons, lk_nil, upd_app, cpS_0, scR_rep]; try (first | rfl | (rw [← cpS_set _ _ _ i (by omega)]; simp [DtUp.cells]; done))) (by rfl) (by simp) (by simp) (by rfl) (by simp [formsX, List.range_succ, lk_cons, lk_nil]), _, 0, rfl, ?_, rfl⟩
          · simp
        · rintro mM sS ⟨i, rfl, hi, rfl⟩
          have hln : (cpS [.s [], .g (.slice none 0 0), .g (.int .i64 0)] DtUp.cells us i).length = us.length := cpS_len _ _ _ _ hi
          refine AW_seq ?_
          refine AW_x rfl rfl fun K hK => ?_
          simp (disch := omega) [wrap64, List.getElem?_eq_getElem, toNat_pred, DtUp.cells, cpS_el, mset_get, List.range_succ]
          repeat' first | (exfalso; omega) | (refine ⟨fun _ => ?_, fun _ => ?_⟩) | (refine ⟨by omega, ?_⟩) | (intro _)
          all_goals (refine hK _ ?_; clear hK K)
          all_goals
            refine AW_cond rfl (fun hc17 => ?_) (fun hc17 => ?_)
            · try simp at hc17
              all_goals
                have hsE : DtUp.sz us[i] ≤ 1048576 := by have := sumZ_mem_le DtUp.sz_nonneg us us[i] (List.getElem_mem _); simp only [szS] at hs; omega
                refine AW_skip ?_
                refine AW_id ?_
                refine AW_seq ?_
                refine AW_block ?_
                refine AW_xe rfl rfl fun K hK => ?_
                simp (disch := omega) [wrap64, List.getElem?_eq_getElem, toNat_pred, DtUp.cells, cpS_el, mset_get, List.range_succ]
                repeat' first | (exfalso; omega) | (refine XKd_x [] true [] (toUpX us[i] (by omega)) ?_ ?_ ?_; (focus (simp [List.range_succ, nmC]; done)); (focus (simp (disch := omega) [wrap64, List.getElem?_eq_getElem, toNat_pred, DtUp.cells, cpS_el, mset_get, List.range_succ, take_map_n]; done)); simp (disch := omega) [wrap64, List.getElem?_eq_getElem, toNat_pred, DtUp.cells, cpS_el, mset_get, List.range_succ]) | (refine ⟨fun _ => ?_, fun _ => ?_⟩) | (refine ⟨by omega, ?_⟩) | (intro _)
                all_goals (refine hK _ ?_; clear hK K)
                all_goals
                  refine AW_id ?_
                  refine AW_xe rfl rfl fun K hK => ?_
                  simp (disch := omega) [wrap64, List.getElem?_eq_getElem, toNat_pred, DtUp.cells, cpS_el, mset_get, List.range_succ]
                  repeat' first | (exfalso; omega) | (refine ⟨fun _ => ?_, fun _ => ?_⟩) | (refine ⟨by omega, ?_⟩) | (intro _)
                  all_goals (refine hK _ ?_; clear hK K)
                  all_goals
                    refine ⟨_, LeS.kx [(128, 128)] [(0, .sl 3 (us.map DtUp.cells)), (3, .arr 128 0 us.length), (4, (.g (.int .i64 (((i + 1) : Nat)))))] [(128, .own 3 (cpS [.s [], .g (.slice none 0 0), .g (.int .i64 0)] DtUp.cells us (i + 1)))] (by simp [KpR, renV2, renV, upd_app, lkE_app, lk_cons, lk_nil, cpS_0, scR_rep]; try (first | rfl | (omega; done))) (by simp [KpOX, renO, plO, cvO, renV, pl1, lk_cons, lk_nil, upd_app, cpS_0, scR_rep]; try (first | rfl | (rw [← cpS_set _ _ _ i (by omega)]; simp [DtUp.cells]; done))) (by rfl) (by simp) (by simp) (by rfl) (by simp [formsX, List.range_succ, lk_cons, lk_nil]), _, ?_, i + 1, rfl, ?_, rfl⟩
                    · omega
                    · omega
            · try simp at hc17
              all_goals
                refine AW_exit ?_
                refine AW_id ?_
                refine AW_x rfl rfl fun K hK => ?_
                simp (disch := omega) [wrap64, List.getElem?_eq_getElem, toNat_pred, DtUp.cells, cpS_el, mset_get, List.range_succ]
                repeat' first | (exfalso; omega) | (refine ⟨fun _ => ?_, fun _ => ?_⟩) | (refine ⟨by omega, ?_⟩) | (intro _)
                all_goals (refine hK _ ?_; clear hK K)
                all_goals
                  refine AW_ret (end_x [128] [] (by simp [List.range_succ, lk_cons, lk_nil, upd_app]) (by simp) ?_)
                  simp (disch := omega) [wrap64, List.getElem?_eq_getElem, toNat_pred, DtUp.cells, cpS_el, mset_get, List.range_succ]
                  all_goals (rw [cpS_n _ _ _ _ (by omega)])
def mkUps (k : Int) (u : DtUps) : DtUps := { fEpoch := k, fList := mkS mkUp cntUp (k + 1) u.fList }
def cntUps (u : DtUps) : Int := 1 + cntS cntUp u.fList
theorem cntUps_sz (u : DtUps) : cntUps u ≤ 16 * (1 + DtUps.sz u) := by
  have := cnt_sz cntUp_sz u.fList
  unfold cntUps
  simp only [DtUps.sz]
  omega
theorem toUpsX (u : DtUps) (hs : DtUps.sz u ≤ 1048576) : XCall Try.prog 18 [.agg (DtUps.cells u)] [] (.agg [.g (.int .i64 u.fEpoch), .arr 16 0 u.fList.length]) [] [.own 3 (u.fList.map DtUp.cells)] := by
  simp only [DtUps.sz] at hs
  have hz1 := len_szS DtUp.sz_nonneg u.fList
  refine xcall_of_walk Try.func18 (by rfl) (by rfl) (by rw [Try.ntmps18]; exact Nat.le_of_ble_eq_true rfl) rfl (by simp) rfl rfl ?_
  rw [Try.ntmps18]
  refine AW_x0   ?_
  refine AW_k [(0, _)] ⟨rfl, trivial⟩ ?_
  refine AW_x rfl rfl fun K hK => ?_
  simp (disch := omega) [wrap64, List.getElem?_eq_getElem, toNat_pred, DtUps.cells]
  repeat' first | (exfalso; omega) | (refine ⟨fun _ => ?_, fun _ => ?_⟩) | (refine ⟨by omega, ?_⟩) | (intro _)
  all_goals (refine hK _ ?_; clear hK K)
  all_goals
    refine AW_x rfl rfl fun K hK => ?_
    simp (disch := omega) [wrap64, List.getElem?_eq_getElem, toNat_pred, DtUps.cells]
    repeat' first | (exfalso; omega) | (refine ⟨fun _ => ?_, fun _ => ?_⟩) | (refine ⟨by omega, ?_⟩) | (intro _)
    all_goals (refine hK _ ?_; clear hK K)
    all_goals
      refine AW_x rfl rfl fun K hK => ?_
      simp (disch := omega) [wrap64, List.getElem?_eq_getElem, toNat_pred, DtUps.cells]
      repeat' first | (exfalso; omega) | (refine ⟨fun _ => ?_, fun _ => ?_⟩) | (refine ⟨by omega, ?_⟩) | (intro _)
      all_goals (refine hK _ ?_; clear hK K)
      all_goals
        refine AW_x rfl rfl fun K hK => ?_
        simp (disch := omega) [wrap64, List.getElem?_eq_getElem, toNat_pred, DtUps.cells]
        repeat' first | (exfalso; omega) | (refine XKd_x [] true [] (toUpSX u.fList (by omega)) ?_ ?_ ?_; (focus (simp [List.range_succ, nmC]; done)); (focus (simp (disch := omega) [wrap64, List.getElem?_eq_getElem, toNat_pred, DtUps.cells, take_map_n]; done)); simp (disch := omega) [wrap64, List.getElem?_eq_getElem, toNat_pred, DtUps.cells]) | (refine ⟨fun _ => ?_, fun _ => ?_⟩) | (refine ⟨by omega, ?_⟩) | (intro _)
        all_goals (refine hK _ ?_; clear hK K)
        all_goals
          refine AW_x rfl rfl fun K hK => ?_
          simp (disch := omega) [wrap64, List.getElem?_eq_getElem, toNat_pred, DtUps.cells]
          repeat' first | (exfalso; omega) | (refine ⟨fun _ => ?_, fun _ => ?_⟩) | (refine ⟨by omega, ?_⟩) | (intro _)
          all_goals (refine hK _ ?_; clear hK K)
          all_goals
            refine AW_ret (end_x [160] [] (by simp [List.range_succ, lk_cons, lk_nil, upd_app]) (by simp) ?_)
            simp (disch := omega) [wrap64, List.getElem?_eq_getElem, toNat_pred, DtUps.cells]
            all_goals skip
def mvUps (k : Int) (u : DtUps) : DtUps := { fEpoch := u.fEpoch, fList := mkS mkUp cntUp (k) u.fList }
def cvUps (u : DtUps) : Int := cntS cntUp u.fList
theorem cvUps_nn (u : DtUps) : 0 ≤ cvUps u := by
  have := cntS_nn cntUp_nn u.fList
  unfold cvUps
  omega
theorem markUps (u : DtUps) (k : Int) (hs : DtUps.sz u ≤ 1048576) (hk : 0 ≤ k ∧ k + cvUps u ≤ 1073741824) : XCall Try.prog 21 [.agg [.g (.int .i64 u.fEpoch), .arr 8 0 u.fList.length], (.g (.int .i64 (k)))] [.own 3 (u.fList.map DtUp.cells)] (.g (.int .i64 (k + cvUps u))) [.own 3 ((mkS mkUp cntUp (k) u.fList).map DtUp.cells)] [] := by
  simp only [DtUps.sz] at hs
  have hz1 := len_szS DtUp.sz_nonneg u.fList
  have hy1 := cntS_nn cntUp_nn u.fList
  simp only [cvUps] at hk
  simp only [cvUps]
  refine xcall_of_walk Try.func21 (by rfl) (by rfl) (by rw [Try.ntmps21]; exact Nat.le_of_ble_eq_true rfl) rfl (by simp) rfl rfl ?_
  rw [Try.ntmps21]
  refine AW_x1 (.own 3 (u.fList.map DtUp.cells)) (by simp [cvO]) ?_
  refine AW_k [(0, _), (1, _)] ⟨rfl, rfl, trivial⟩ ?_
  refine AW_x rfl rfl fun K hK => ?_
  simp (disch := omega) [wrap64, List.getElem?_eq_getElem, toNat_pred, DtUps.cells]
  repeat' first | (exfalso; omega) | (refine ⟨fun _ => ?_, fun _ => ?_⟩) | (refine ⟨by omega, ?_⟩) | (intro _)
  all_goals (refine hK _ ?_; clear hK K)
  all_goals
    refine AW_x rfl rfl fun K hK => ?_
    simp (disch := omega) [wrap64, List.getElem?_eq_getElem, toNat_pred, DtUps.cells]
    repeat' first | (exfalso; omega) | (refine XKd_x [8] true [] (markUpS u.fList _ (by omega) (by omega)) ?_ ?_ ?_; (focus (simp [List.range_succ, nmC]; done)); (focus (simp (disch := omega) [wrap64, List.getElem?_eq_getElem, toNat_pred, DtUps.cells, take_map_n]; done)); simp (disch := omega) [wrap64, List.getElem?_eq_getElem, toNat_pred, DtUps.cells]) | (refine ⟨fun _ => ?_, fun _ => ?_⟩) | (refine ⟨by omega, ?_⟩) | (intro _)
    all_goals (refine hK _ ?_; clear hK K)
    all_goals
      refine AW_x rfl rfl fun K hK => ?_
      simp (disch := omega) [wrap64, List.getElem?_eq_getElem, toNat_pred, DtUps.cells]
      repeat' first | (exfalso; omega) | (refine ⟨fun _ => ?_, fun _ => ?_⟩) | (refine ⟨by omega, ?_⟩) | (intro _)
      all_goals (refine hK _ ?_; clear hK K)
      all_goals
        refine AW_ret (end_x [] [] (by simp [List.range_succ, lk_cons, lk_nil, upd_app]) (by simp) ?_)
        simp (disch := omega) [wrap64, List.getElem?_eq_getElem, toNat_pred, DtUps.cells]
        all_goals (first | omega | skip)
theorem heldUps (u : DtUps) (k : Int) (hs : DtUps.sz u ≤ 1048576) (hk : 0 ≤ k ∧ k + cvUps u ≤ 1073741824) : PCall Try.prog 33 [.agg (DtUps.cells (mvUps k u)), (.g (.int .i64 (k)))] (.g (.int .i64 (k + cvUps u))) := by
  simp only [DtUps.sz] at hs
  have hz1 := len_szS DtUp.sz_nonneg u.fList
  have hy1 := cntS_nn cntUp_nn u.fList
  simp only [cvUps] at hk
  simp only [cvUps]
  refine gcall_of_walk Try.func33 (by rfl) (by rfl) (by rw [Try.ntmps33]; exact Nat.le_of_ble_eq_true rfl) rfl (by decide) ?_
  rw [Try.ntmps33]
  refine AW_k [(0, _), (1, _)] ⟨rfl, rfl, trivial⟩ ?_
  refine AW_r rfl rfl fun K hK => ?_
  simp (disch := omega) [wrap64, List.getElem?_eq_getElem, toNat_pred, DtUps.cells, mvUps]
  repeat' first | (exfalso; omega) | (refine ⟨fun _ => ?_, fun _ => ?_⟩) | (refine ⟨by omega, ?_⟩) | (intro _)
  all_goals (refine hK _ ?_; clear hK K)
  all_goals
    refine AW_r rfl rfl fun K hK => ?_
    simp (disch := omega) [wrap64, List.getElem?_eq_getElem, toNat_pred, DtUps.cells, mvUps]
    repeat' first | (exfalso; omega) | (refine CKd_v (am2s_cons am2_sl (am2s_cons am2_g am2s_nil)) (heldUpS u.fList _ (by omega) (by omega)) rfl ?_; simp (disch := omega) [wrap64, List.getElem?_eq_getElem, toNat_pred, DtUps.cells, mvUps]) | (refine ⟨fun _ => ?_, fun _ => ?_⟩) | (refine ⟨by omega, ?_⟩) | (intro _)
    all_goals (refine hK _ ?_; clear hK K)
    all_goals
      refine AW_seq ?_
      refine AW_r rfl rfl fun K hK => ?_
      simp (disch := omega) [wrap64, List.getElem?_eq_getElem, toNat_pred, DtUps.cells, mvUps]
      repeat' first | (exfalso; omega) | (refine ⟨fun _ => ?_, fun _ => ?_⟩) | (refine ⟨by omega, ?_⟩) | (intro _)
      all_goals (refine hK _ ?_; clear hK K)
      all_goals
        refine AW_cond rfl (fun hc18 => ?_) (fun hc18 => ?_)
        · try simp at hc18
          all_goals
            refine AW_r rfl rfl fun K hK => ?_
            simp (disch := omega) [wrap64, List.getElem?_eq_getElem, toNat_pred, DtUps.cells, mvUps]
            repeat' first | (exfalso; omega) | (refine ⟨fun _ => ?_, fun _ => ?_⟩) | (refine ⟨by omega, ?_⟩) | (intro _)
            all_goals (refine hK _ ?_; clear hK K)
            all_goals
              refine AW_ret (end_s ?_)
              simp (disch := omega) [wrap64, List.getElem?_eq_getElem, toNat_pred, DtUps.cells, mvUps]
              all_goals (first | omega | skip)
        · try simp at hc18
          all_goals
            refine AW_skip ?_
            refine AW_id ?_
            refine AW_r rfl rfl fun K hK => ?_
            simp (disch := omega) [wrap64, List.getElem?_eq_getElem, toNat_pred, DtUps.cells, mvUps]
            repeat' first | (exfalso; omega) | (refine ⟨fun _ => ?_, fun _ => ?_⟩) | (refine ⟨by omega, ?_⟩) | (intro _)
            all_goals (refine hK _ ?_; clear hK K)
            all_goals
              refine AW_ret (end_s ?_)
              simp (disch := omega) [wrap64, List.getElem?_eq_getElem, toNat_pred, DtUps.cells, mvUps]
              all_goals (first | omega | skip)
end Go.Proofs.Ytcedomdpbgjbpaa.Vs
