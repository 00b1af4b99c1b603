import Derived.Test.YtopdaicfhfjmgaaSX2
open Go Go.Proofs Go.Proofs.Ytopdaicfhfjmgaa.Vs
namespace Go.Proofs.Ytopdaicfhfjmgaa.Vs
set_option linter.unusedVariables false
set_option linter.unusedSimpArgs false
set_option linter.unusedSectionVars false
set_option linter.unnecessarySimpa false
set_option linter.all false
set_option linter.unusedSimpArgs false
set_option linter.unusedVariables false
set_option maxRecDepth 100000
theorem catSz (c : DtCatalog) (hs : DtCatalog.sz c ≤ 1048576) : c.fSets.length ≤ 1048576 ∧ (∀ i (h : i < c.fSets.length), c.fSets[i].fSnaps.length ≤ 1048576) ∧ ∀ i (h : i < c.fSets.length) k (h2 : k < c.fSets[i].fSnaps.length), c.fSets[i].fSnaps[k].fChunks.length ≤ 1048576 := by
  have h0 := sumZ_nonneg DtCSet.sz_nonneg c.fSets
  simp only [DtCatalog.sz, szS] at hs
  refine ⟨by omega, fun i h => ?_, fun i h k h2 => ?_⟩
  · have h1 := sumZ_mem_le DtCSet.sz_nonneg c.fSets c.fSets[i] (List.getElem_mem _)
    have h2 := sumZ_nonneg DtCSnap.sz_nonneg c.fSets[i].fSnaps
    simp only [DtCSet.sz, szS] at h1
    omega
  · have h1 := sumZ_mem_le DtCSet.sz_nonneg c.fSets c.fSets[i] (List.getElem_mem _)
    have h3 := sumZ_mem_le DtCSnap.sz_nonneg c.fSets[i].fSnaps c.fSets[i].fSnaps[k] (List.getElem_mem _)
    have h4 := sumZ_nonneg lenZ_nonneg c.fSets[i].fSnaps[k].fChunks
    simp only [DtCSet.sz, szS] at h1
    simp only [DtCSnap.sz, szS] at h3
    omega
theorem setsBd (c : DtCatalog) (x : List UInt8) (hs : DtCatalog.sz c ≤ 1048576) (i : Nat) : 0 ≤ sumZ (cntS x) (c.fSets.take i) ∧ sumZ (cntS x) (c.fSets.take i) ≤ 1048576 := by
  have h1 := sumZ_nonneg (cntS_nn x) (c.fSets.take i)
  have h2 := sumZ_take_le (cntS_nn x) c.fSets i
  have h3 := sumZ_le2 (cntS_le x) c.fSets
  simp only [DtCatalog.sz, szS] at hs
  omega
theorem snapsBd (x : List UInt8) (s : DtCSet) (hl : s.fSnaps.length ≤ 1048576) (k : Nat) : 0 ≤ sumZ (cntP x) (s.fSnaps.take k) ∧ sumZ (cntP x) (s.fSnaps.take k) ≤ 1048576 := by
  have h1 := sumZ_nonneg (cntP_nn x) (s.fSnaps.take k)
  have h2 := sumZ_take_le (cntP_nn x) s.fSnaps k
  have h3 := sumZ_le (f := cntP x) (fun p => (boolZ_bd _).2) s.fSnaps
  omega
theorem refs_out {c : DtCatalog} {x : List UInt8} {i : Nat} (hc : i = 0 ∨ CatP c) (h : ¬ CatP c ∨ c.fSets.length ≤ i) : refs c x = sumZ (cntS x) (c.fSets.take i) := by
  by_cases hp : CatP c
  · have h2 : c.fSets.length ≤ i := by rcases h with h | h; exact absurd hp h; exact h
    rw [List.take_of_length_le h2, refs, decB_t hp]; rfl
  · have h0 : i = 0 := by rcases hc with h | h; exact h; exact absurd h hp
    subst h0
    rw [refs, decB_f hp]; simp [sumZ_nil]
theorem specRefsOf (c : DtCatalog) (x : List UInt8) (hs : DtCatalog.sz c ≤ 1048576) : PCall Try.prog 19 [.agg (DtCatalog.cells c), .s x] (.g (.int .i64 (refs c x))) := by
  have ⟨hl, hl2, hl3⟩ := catSz c hs
  refine gcall_of_walk Try.func19 (by rfl) (by rfl) (by rw [Try.ntmps19]; exact Nat.le_of_ble_eq_true rfl) rfl (by decide) ?_
  rw [Try.ntmps19]
  refine AW_k [(0, _), (1, _)] ⟨rfl, rfl, trivial⟩ ?_
  refine AW_r rfl rfl fun K hK => ?_
  simp (disch := omega) [wrap64, List.getElem?_eq_getElem, toNat_pred, DtCatalog.cells, DtCSet.cells, DtCSnap.cells, decB_true, decB_false]
  repeat' first | (exfalso; omega) | (refine ⟨fun _ => ?_, fun _ => ?_⟩) | (refine ⟨by omega, ?_⟩) | (intro _)
  all_goals (refine hK _ ?_; clear hK K)
  all_goals
    refine AW_r rfl rfl fun K hK => ?_
    simp (disch := omega) [wrap64, List.getElem?_eq_getElem, toNat_pred, DtCatalog.cells, DtCSet.cells, DtCSnap.cells, decB_true, decB_false]
    repeat' first | (exfalso; omega) | (refine ⟨fun _ => ?_, fun _ => ?_⟩) | (refine ⟨by omega, ?_⟩) | (intro _)
    all_goals (refine hK _ ?_; clear hK K)
    all_goals
      refine AW_seq ?_
      refine AW_r rfl rfl fun K hK => ?_
      simp (disch := omega) [wrap64, List.getElem?_eq_getElem, toNat_pred, DtCatalog.cells, DtCSet.cells, DtCSnap.cells, decB_true, decB_false]
      repeat' first | (exfalso; omega) | (refine ⟨fun _ => ?_, fun _ => ?_⟩) | (refine ⟨by omega, ?_⟩) | (intro _)
      all_goals (refine hK _ ?_; clear hK K)
      all_goals
        refine AW_block ?_
        refine AW_loopS (fun mM sS => ∃ (i : Nat), mM = c.fSets.length - i ∧ (i ≤ c.fSets.length ∧ (i = 0 ∨ CatP c)) ∧ sS = { env := lkE [(1, .s x), (2, .ptr 48 0), (5, (.g (.int .i64 (sumZ (cntS x) (c.fSets.take i))))), (6, (.g (.int .i64 ((i : Nat)))))], ob := lk [(48, .cells (DtCatalog.cells c))] }) ?_ ?_
        · refine ⟨_, LeS.ko [(1, .s x), (2, .ptr 48 0), (5, (.g (.int .i64 (sumZ (cntS x) (c.fSets.take (0)))))), (6, (.g (.int .i64 (((0) : Nat)))))] [(48, .cells (DtCatalog.cells c))] (by simp [KpE, upd_app, lkE_app, lk_cons, DtCatalog.cells, DtCSet.cells, sumZ_nil]; try rfl) (by simp [KpO, upd_app, lk_cons, lk_nil, formOb_nn, DtCatalog.cells, DtCSet.cells, sumZ_nil]; try rfl) (by rfl) (by simp) (by rfl), _, 0, rfl, ?_, rfl⟩
          · simp
        · rintro mM sS ⟨i, rfl, ⟨hi, hc⟩, rfl⟩
          have hb1 := setsBd c x hs i
          refine AW_seq ?_
          refine AW_r rfl rfl fun K hK => ?_
          simp (disch := omega) [wrap64, List.getElem?_eq_getElem, toNat_pred, DtCatalog.cells, DtCSet.cells, DtCSnap.cells, decB_true, decB_false]
          repeat' first | (exfalso; omega) | (refine CKd_v (am2s_cons (am2_agg rfl) am2s_nil) (specCatOk _ (by omega)) rfl ?_; simp (disch := omega) [wrap64, List.getElem?_eq_getElem, toNat_pred, DtCatalog.cells, DtCSet.cells, DtCSnap.cells, decB_true, decB_false]) | (refine ⟨fun _ => ?_, fun _ => ?_⟩) | (refine ⟨by omega, ?_⟩) | (intro _)
          all_goals (refine hK _ ?_; clear hK K)
          all_goals
            refine AW_cond rfl (fun hc1 => ?_) (fun hc1 => ?_)
            · try simp [decB_true, decB_false, eqB_true, eqB_false] at hc1
              all_goals
                have hl2' := hl2 i (by omega)
                have hst := sumZ_take (f := cntS x) c.fSets i (by omega)
                refine AW_skip ?_
                refine AW_id ?_
                refine AW_seq ?_
                refine AW_block ?_
                refine AW_r rfl rfl fun K hK => ?_
                simp (disch := omega) [wrap64, List.getElem?_eq_getElem, toNat_pred, DtCatalog.cells, DtCSet.cells, DtCSnap.cells, decB_true, decB_false]
                repeat' first | (exfalso; omega) | (refine ⟨fun _ => ?_, fun _ => ?_⟩) | (refine ⟨by omega, ?_⟩) | (intro _)
                all_goals (refine hK _ ?_; clear hK K)
                all_goals
                  refine AW_block ?_
                  refine AW_loopS (fun mM sS => ∃ (k : Nat), mM = (c.fSets[i]).fSnaps.length - k ∧ (k ≤ (c.fSets[i]).fSnaps.length) ∧ sS = { env := lkE [(1, .s x), (2, .ptr 48 0), (5, (.g (.int .i64 (sumZ (cntS x) (c.fSets.take i) + sumZ (cntP x) ((c.fSets[i]).fSnaps.take k))))), (6, (.g (.int .i64 ((i : Nat))))), (7, (.g (.int .i64 ((k : Nat)))))], ob := lk [(48, .cells (DtCatalog.cells c))] }) ?_ ?_
                  · refine ⟨_, LeS.ko [(1, .s x), (2, .ptr 48 0), (5, (.g (.int .i64 (sumZ (cntS x) (c.fSets.take i) + sumZ (cntP x) ((c.fSets[i]).fSnaps.take (0)))))), (6, (.g (.int .i64 ((i : Nat))))), (7, (.g (.int .i64 (((0) : Nat)))))] [(48, .cells (DtCatalog.cells c))] (by simp [KpE, upd_app, lkE_app, lk_cons, DtCatalog.cells, DtCSet.cells, sumZ_nil]; try rfl) (by simp [KpO, upd_app, lk_cons, lk_nil, formOb_nn, DtCatalog.cells, DtCSet.cells, sumZ_nil]; try rfl) (by rfl) (by simp) (by rfl), _, 0, rfl, ?_, rfl⟩
                    · simp
                  · rintro mM sS ⟨k, rfl, hk, rfl⟩
                    have hb2 := snapsBd x c.fSets[i] hl2' k
                    refine AW_seq ?_
                    refine AW_r rfl rfl fun K hK => ?_
                    simp (disch := omega) [wrap64, List.getElem?_eq_getElem, toNat_pred, DtCatalog.cells, DtCSet.cells, DtCSnap.cells, decB_true, decB_false]
                    repeat' first | (exfalso; omega) | (refine ⟨fun _ => ?_, fun _ => ?_⟩) | (refine ⟨by omega, ?_⟩) | (intro _)
                    all_goals (refine hK _ ?_; clear hK K)
                    all_goals
                      refine AW_cond rfl (fun hc2 => ?_) (fun hc2 => ?_)
                      · try simp [decB_true, decB_false, eqB_true, eqB_false] at hc2
                        all_goals
                          have hsp := sumZ_take (f := cntP x) (c.fSets[i]).fSnaps k (by omega)
                          have hl3' := hl3 i (by omega) k (by omega)
                          refine AW_skip ?_
                          refine AW_id ?_
                          refine AW_seq ?_
                          refine AW_block ?_
                          refine AW_r rfl rfl fun K hK => ?_
                          simp (disch := omega) [wrap64, List.getElem?_eq_getElem, toNat_pred, DtCatalog.cells, DtCSet.cells, DtCSnap.cells, decB_true, decB_false]
                          repeat' first | (exfalso; omega) | (refine CKd_v (am2s_cons am2_sl (am2s_cons am2_s am2s_nil)) (l15In _ _ (by omega)) rfl ?_; simp (disch := omega) [wrap64, List.getElem?_eq_getElem, toNat_pred, DtCatalog.cells, DtCSet.cells, DtCSnap.cells, decB_true, decB_false]) | (refine ⟨fun _ => ?_, fun _ => ?_⟩) | (refine ⟨by omega, ?_⟩) | (intro _)
                          all_goals (refine hK _ ?_; clear hK K)
                          all_goals
                            refine AW_cond rfl (fun hc3 => ?_) (fun hc3 => ?_)
                            · try simp [decB_true, decB_false, eqB_true, eqB_false] at hc3
                              all_goals
                                refine AW_re rfl rfl fun K hK => ?_
                                simp (disch := omega) [wrap64, List.getElem?_eq_getElem, toNat_pred, DtCatalog.cells, DtCSet.cells, DtCSnap.cells, decB_true, decB_false]
                                repeat' first | (exfalso; omega) | (refine ⟨fun _ => ?_, fun _ => ?_⟩) | (refine ⟨by omega, ?_⟩) | (intro _)
                                all_goals (refine hK _ ?_; clear hK K)
                                all_goals
                                  refine AW_id ?_
                                  refine AW_re rfl rfl fun K hK => ?_
                                  simp (disch := omega) [wrap64, List.getElem?_eq_getElem, toNat_pred, DtCatalog.cells, DtCSet.cells, DtCSnap.cells, decB_true, decB_false]
                                  repeat' first | (exfalso; omega) | (refine ⟨fun _ => ?_, fun _ => ?_⟩) | (refine ⟨by omega, ?_⟩) | (intro _)
                                  all_goals (refine hK _ ?_; clear hK K)
                                  all_goals
                                    refine ⟨_, LeS.ko [(1, .s x), (2, .ptr 48 0), (5, (.g (.int .i64 (sumZ (cntS x) (c.fSets.take i) + sumZ (cntP x) ((c.fSets[i]).fSnaps.take (k + 1)))))), (6, (.g (.int .i64 ((i : Nat))))), (7, (.g (.int .i64 (((k + 1) : Nat)))))] [(48, .cells (DtCatalog.cells c))] (by simp [KpE, upd_app, lkE_app, lk_cons, DtCatalog.cells, DtCSet.cells, sumZ_nil]; simp_all [cntP, boolZ, decB_t, decB_f]; try omega) (by simp [KpO, upd_app, lk_cons, lk_nil, formOb_nn, DtCatalog.cells, DtCSet.cells, sumZ_nil]; try rfl) (by rfl) (by simp) (by rfl), _, ?_, k + 1, rfl, ?_, rfl⟩
                                    · omega
                                    · omega
                            · try simp [decB_true, decB_false, eqB_true, eqB_false] at hc3
                              all_goals
                                refine AW_skip ?_
                                refine AW_id ?_
                                refine AW_re rfl rfl fun K hK => ?_
                                simp (disch := omega) [wrap64, List.getElem?_eq_getElem, toNat_pred, DtCatalog.cells, DtCSet.cells, DtCSnap.cells, decB_true, decB_false]
                                repeat' first | (exfalso; omega) | (refine ⟨fun _ => ?_, fun _ => ?_⟩) | (refine ⟨by omega, ?_⟩) | (intro _)
                                all_goals (refine hK _ ?_; clear hK K)
                                all_goals
                                  refine ⟨_, LeS.ko [(1, .s x), (2, .ptr 48 0), (5, (.g (.int .i64 (sumZ (cntS x) (c.fSets.take i) + sumZ (cntP x) ((c.fSets[i]).fSnaps.take (k + 1)))))), (6, (.g (.int .i64 ((i : Nat))))), (7, (.g (.int .i64 (((k + 1) : Nat)))))] [(48, .cells (DtCatalog.cells c))] (by simp [KpE, upd_app, lkE_app, lk_cons, DtCatalog.cells, DtCSet.cells, sumZ_nil]; simp_all [cntP, boolZ, decB_t, decB_f]; try omega) (by simp [KpO, upd_app, lk_cons, lk_nil, formOb_nn, DtCatalog.cells, DtCSet.cells, sumZ_nil]; try rfl) (by rfl) (by simp) (by rfl), _, ?_, k + 1, rfl, ?_, rfl⟩
                                  · omega
                                  · omega
                      · try simp [decB_true, decB_false, eqB_true, eqB_false] at hc2
                        all_goals
                          have hk2 : k = (c.fSets[i]).fSnaps.length := by omega
                          subst hk2
                          have hfull : sumZ (cntP x) (List.take (c.fSets[i]).fSnaps.length (c.fSets[i]).fSnaps) = cntS x c.fSets[i] := by rw [List.take_length]; rfl
                          have hfull2 : sumZ (cntP x) (c.fSets[i]).fSnaps = cntS x c.fSets[i] := rfl
                          refine AW_exit ?_
                          refine AW_id ?_
                          refine AW_re rfl rfl fun K hK => ?_
                          simp (disch := omega) [wrap64, List.getElem?_eq_getElem, toNat_pred, DtCatalog.cells, DtCSet.cells, DtCSnap.cells, decB_true, decB_false]
                          repeat' first | (exfalso; omega) | (refine ⟨fun _ => ?_, fun _ => ?_⟩) | (refine ⟨by omega, ?_⟩) | (intro _)
                          all_goals (refine hK _ ?_; clear hK K)
                          all_goals
                            refine ⟨_, LeS.ko [(1, .s x), (2, .ptr 48 0), (5, (.g (.int .i64 (sumZ (cntS x) (c.fSets.take (i + 1)))))), (6, (.g (.int .i64 (((i + 1) : Nat)))))] [(48, .cells (DtCatalog.cells c))] (by simp [KpE, upd_app, lkE_app, lk_cons, DtCatalog.cells, DtCSet.cells, sumZ_nil]; first | rfl | omega) (by simp [KpO, upd_app, lk_cons, lk_nil, formOb_nn, DtCatalog.cells, DtCSet.cells, sumZ_nil]; try rfl) (by rfl) (by simp) (by rfl), _, ?_, i + 1, rfl, ?_, rfl⟩
                            · omega
                            · exact ⟨by omega, .inr (by grind)⟩
            · try simp [decB_true, decB_false, eqB_true, eqB_false] at hc1
              all_goals
                refine AW_exit ?_
                refine AW_id ?_
                refine AW_r rfl rfl fun K hK => ?_
                simp (disch := omega) [wrap64, List.getElem?_eq_getElem, toNat_pred, DtCatalog.cells, DtCSet.cells, DtCSnap.cells, decB_true, decB_false]
                repeat' first | (exfalso; omega) | (refine ⟨fun _ => ?_, fun _ => ?_⟩) | (refine ⟨by omega, ?_⟩) | (intro _)
                all_goals (refine hK _ ?_; clear hK K)
                all_goals
                  refine AW_ret (end_s ?_)
                  simp (disch := omega) [wrap64, List.getElem?_eq_getElem, toNat_pred, DtCatalog.cells, DtCSet.cells, DtCSnap.cells, decB_true, decB_false]
                  all_goals first | exact refs_out hc (.inl (by assumption)) | exact refs_out hc (.inr (by omega))
theorem implRefsOf (c : DtCatalog) (x : List UInt8) (hs : DtCatalog.sz c ≤ 1048576) : PCall Try.prog 20 [.agg (DtCatalog.cells c), .s x] (.g (.int .i64 (refs c x))) := by
  have ⟨hl, hl2, hl3⟩ := catSz c hs
  refine gcall_of_walk Try.func20 (by rfl) (by rfl) (by rw [Try.ntmps20]; exact Nat.le_of_ble_eq_true rfl) rfl (by decide) ?_
  rw [Try.ntmps20]
  refine AW_k [(0, _), (1, _)] ⟨rfl, rfl, trivial⟩ ?_
  refine AW_r rfl rfl fun K hK => ?_
  simp (disch := omega) [wrap64, List.getElem?_eq_getElem, toNat_pred, DtCatalog.cells, DtCSet.cells, DtCSnap.cells, decB_true, decB_false]
  repeat' first | (exfalso; omega) | (refine ⟨fun _ => ?_, fun _ => ?_⟩) | (refine ⟨by omega, ?_⟩) | (intro _)
  all_goals (refine hK _ ?_; clear hK K)
  all_goals
    refine AW_seq ?_
    refine AW_r rfl rfl fun K hK => ?_
    simp (disch := omega) [wrap64, List.getElem?_eq_getElem, toNat_pred, DtCatalog.cells, DtCSet.cells, DtCSnap.cells, decB_true, decB_false]
    repeat' first | (exfalso; omega) | (refine CKd_v (am2s_cons (am2_agg rfl) am2s_nil) (implCatOk _ (by omega)) rfl ?_; simp (disch := omega) [wrap64, List.getElem?_eq_getElem, toNat_pred, DtCatalog.cells, DtCSet.cells, DtCSnap.cells, decB_true, decB_false]) | (refine ⟨fun _ => ?_, fun _ => ?_⟩) | (refine ⟨by omega, ?_⟩) | (intro _)
    all_goals (refine hK _ ?_; clear hK K)
    all_goals
      refine AW_cond rfl (fun hc4 => ?_) (fun hc4 => ?_)
      · try simp [decB_true, decB_false, eqB_true, eqB_false] at hc4
        all_goals
          refine AW_r rfl rfl fun K hK => ?_
          simp (disch := omega) [wrap64, List.getElem?_eq_getElem, toNat_pred, DtCatalog.cells, DtCSet.cells, DtCSnap.cells, decB_true, decB_false]
          repeat' first | (exfalso; omega) | (refine ⟨fun _ => ?_, fun _ => ?_⟩) | (refine ⟨by omega, ?_⟩) | (intro _)
          all_goals (refine hK _ ?_; clear hK K)
          all_goals
            refine AW_ret (end_s ?_)
            simp (disch := omega) [wrap64, List.getElem?_eq_getElem, toNat_pred, DtCatalog.cells, DtCSet.cells, DtCSnap.cells, decB_true, decB_false]
            all_goals first | exact refs_out (.inr (by assumption)) (.inr (by omega)) | (rw [refs, decB_f (by assumption)]; rfl)
      · try simp [decB_true, decB_false, eqB_true, eqB_false] at hc4
        all_goals
          refine AW_skip ?_
          refine AW_id ?_
          refine AW_r rfl rfl fun K hK => ?_
          simp (disch := omega) [wrap64, List.getElem?_eq_getElem, toNat_pred, DtCatalog.cells, DtCSet.cells, DtCSnap.cells, decB_true, decB_false]
          repeat' first | (exfalso; omega) | (refine ⟨fun _ => ?_, fun _ => ?_⟩) | (refine ⟨by omega, ?_⟩) | (intro _)
          all_goals (refine hK _ ?_; clear hK K)
          all_goals
            refine AW_seq ?_
            refine AW_r rfl rfl fun K hK => ?_
            simp (disch := omega) [wrap64, List.getElem?_eq_getElem, toNat_pred, DtCatalog.cells, DtCSet.cells, DtCSnap.cells, decB_true, decB_false]
            repeat' first | (exfalso; omega) | (refine ⟨fun _ => ?_, fun _ => ?_⟩) | (refine ⟨by omega, ?_⟩) | (intro _)
            all_goals (refine hK _ ?_; clear hK K)
            all_goals
              refine AW_block ?_
              refine AW_loopS (fun mM sS => ∃ (i : Nat), mM = c.fSets.length - i ∧ (i ≤ c.fSets.length ∧ True) ∧ sS = { env := lkE [(1, .s x), (2, .ptr 48 0), (5, (.g (.int .i64 (sumZ (cntS x) (c.fSets.take i))))), (14, .sl 2 (c.fSets.map DtCSet.cells)), (15, (.g (.int .i64 ((c.fSets.length : Nat))))), (16, (.g (.int .i64 ((i : Nat)))))], ob := lk [(48, .cells (DtCatalog.cells c))] }) ?_ ?_
              · refine ⟨_, LeS.ko [(1, .s x), (2, .ptr 48 0), (5, (.g (.int .i64 (sumZ (cntS x) (c.fSets.take (0)))))), (14, .sl 2 (c.fSets.map DtCSet.cells)), (15, (.g (.int .i64 ((c.fSets.length : Nat))))), (16, (.g (.int .i64 (((0) : Nat)))))] [(48, .cells (DtCatalog.cells c))] (by simp [KpE, upd_app, lkE_app, lk_cons, DtCatalog.cells, DtCSet.cells, sumZ_nil]; try rfl) (by simp [KpO, upd_app, lk_cons, lk_nil, formOb_nn, DtCatalog.cells, DtCSet.cells, sumZ_nil]; try rfl) (by rfl) (by simp) (by rfl), _, 0, rfl, ?_, rfl⟩
                · simp
              · rintro mM sS ⟨i, rfl, ⟨hi, hc⟩, rfl⟩
                have hb1 := setsBd c x hs i
                refine AW_r rfl rfl fun K hK => ?_
                simp (disch := omega) [wrap64, List.getElem?_eq_getElem, toNat_pred, DtCatalog.cells, DtCSet.cells, DtCSnap.cells, decB_true, decB_false]
                repeat' first | (exfalso; omega) | (refine ⟨fun _ => ?_, fun _ => ?_⟩) | (refine ⟨by omega, ?_⟩) | (intro _)
                all_goals (refine hK _ ?_; clear hK K)
                all_goals
                  refine AW_seq ?_
                  refine AW_cond rfl (fun hc5 => ?_) (fun hc5 => ?_)
                  · try simp [decB_true, decB_false, eqB_true, eqB_false] at hc5
                    all_goals
                      have hl2' := hl2 i (by omega)
                      have hst := sumZ_take (f := cntS x) c.fSets i (by omega)
                      refine AW_skip ?_
                      refine AW_id ?_
                      refine AW_seq ?_
                      refine AW_block ?_
                      refine AW_r rfl rfl fun K hK => ?_
                      simp (disch := omega) [wrap64, List.getElem?_eq_getElem, toNat_pred, DtCatalog.cells, DtCSet.cells, DtCSnap.cells, decB_true, decB_false]
                      repeat' first | (exfalso; omega) | (refine ⟨fun _ => ?_, fun _ => ?_⟩) | (refine ⟨by omega, ?_⟩) | (intro _)
                      all_goals (refine hK _ ?_; clear hK K)
                      all_goals
                        refine AW_r rfl rfl fun K hK => ?_
                        simp (disch := omega) [wrap64, List.getElem?_eq_getElem, toNat_pred, DtCatalog.cells, DtCSet.cells, DtCSnap.cells, decB_true, decB_false]
                        repeat' first | (exfalso; omega) | (refine ⟨fun _ => ?_, fun _ => ?_⟩) | (refine ⟨by omega, ?_⟩) | (intro _)
                        all_goals (refine hK _ ?_; clear hK K)
                        all_goals
                          refine AW_block ?_
                          refine AW_loopS (fun mM sS => ∃ (k : Nat), mM = (c.fSets[i]).fSnaps.length - k ∧ (k ≤ (c.fSets[i]).fSnaps.length) ∧ sS = { env := lkE [(1, .s x), (2, .ptr 48 0), (5, (.g (.int .i64 (sumZ (cntS x) (c.fSets.take i) + sumZ (cntP x) ((c.fSets[i]).fSnaps.take k))))), (14, .sl 2 (c.fSets.map DtCSet.cells)), (15, (.g (.int .i64 ((c.fSets.length : Nat))))), (16, (.g (.int .i64 ((i : Nat))))), (21, .sl 3 ((c.fSets[i]).fSnaps.map DtCSnap.cells)), (22, (.g (.int .i64 (((c.fSets[i]).fSnaps.length : Nat))))), (23, (.g (.int .i64 ((k : Nat)))))], ob := lk [(48, .cells (DtCatalog.cells c))] }) ?_ ?_
                          · refine ⟨_, LeS.ko [(1, .s x), (2, .ptr 48 0), (5, (.g (.int .i64 (sumZ (cntS x) (c.fSets.take i) + sumZ (cntP x) ((c.fSets[i]).fSnaps.take (0)))))), (14, .sl 2 (c.fSets.map DtCSet.cells)), (15, (.g (.int .i64 ((c.fSets.length : Nat))))), (16, (.g (.int .i64 ((i : Nat))))), (21, .sl 3 ((c.fSets[i]).fSnaps.map DtCSnap.cells)), (22, (.g (.int .i64 (((c.fSets[i]).fSnaps.length : Nat))))), (23, (.g (.int .i64 (((0) : Nat)))))] [(48, .cells (DtCatalog.cells c))] (by simp [KpE, upd_app, lkE_app, lk_cons, DtCatalog.cells, DtCSet.cells, sumZ_nil]; try rfl) (by simp [KpO, upd_app, lk_cons, lk_nil, formOb_nn, DtCatalog.cells, DtCSet.cells, sumZ_nil]; try rfl) (by rfl) (by simp) (by rfl), _, 0, rfl, ?_, rfl⟩
                            · simp
                          · rintro mM sS ⟨k, rfl, hk, rfl⟩
                            have hb2 := snapsBd x c.fSets[i] hl2' k
                            refine AW_r rfl rfl fun K hK => ?_
                            simp (disch := omega) [wrap64, List.getElem?_eq_getElem, toNat_pred, DtCatalog.cells, DtCSet.cells, DtCSnap.cells, decB_true, decB_false]
                            repeat' first | (exfalso; omega) | (refine ⟨fun _ => ?_, fun _ => ?_⟩) | (refine ⟨by omega, ?_⟩) | (intro _)
                            all_goals (refine hK _ ?_; clear hK K)
                            all_goals
                              refine AW_seq ?_
                              refine AW_cond rfl (fun hc6 => ?_) (fun hc6 => ?_)
                              · try simp [decB_true, decB_false, eqB_true, eqB_false] at hc6
                                all_goals
                                  have hsp := sumZ_take (f := cntP x) (c.fSets[i]).fSnaps k (by omega)
                                  have hl3' := hl3 i (by omega) k (by omega)
                                  refine AW_skip ?_
                                  refine AW_id ?_
                                  refine AW_seq ?_
                                  refine AW_block ?_
                                  refine AW_r rfl rfl fun K hK => ?_
                                  simp (disch := omega) [wrap64, List.getElem?_eq_getElem, toNat_pred, DtCatalog.cells, DtCSet.cells, DtCSnap.cells, decB_true, decB_false]
                                  repeat' first | (exfalso; omega) | (refine ⟨fun _ => ?_, fun _ => ?_⟩) | (refine ⟨by omega, ?_⟩) | (intro _)
                                  all_goals (refine hK _ ?_; clear hK K)
                                  all_goals
                                    refine AW_r rfl rfl fun K hK => ?_
                                    simp (disch := omega) [wrap64, List.getElem?_eq_getElem, toNat_pred, DtCatalog.cells, DtCSet.cells, DtCSnap.cells, decB_true, decB_false]
                                    repeat' first | (exfalso; omega) | (refine CKd_v (am2s_cons am2_sl (am2s_cons am2_s am2s_nil)) (containsS _ _ (by omega)) rfl ?_; simp (disch := omega) [wrap64, List.getElem?_eq_getElem, toNat_pred, DtCatalog.cells, DtCSet.cells, DtCSnap.cells, decB_true, decB_false]) | (refine ⟨fun _ => ?_, fun _ => ?_⟩) | (refine ⟨by omega, ?_⟩) | (intro _)
                                    all_goals (refine hK _ ?_; clear hK K)
                                    all_goals
                                      refine AW_cond rfl (fun hc7 => ?_) (fun hc7 => ?_)
                                      · try simp [decB_true, decB_false, eqB_true, eqB_false] at hc7
                                        all_goals
                                          refine AW_re rfl rfl fun K hK => ?_
                                          simp (disch := omega) [wrap64, List.getElem?_eq_getElem, toNat_pred, DtCatalog.cells, DtCSet.cells, DtCSnap.cells, decB_true, decB_false]
                                          repeat' first | (exfalso; omega) | (refine ⟨fun _ => ?_, fun _ => ?_⟩) | (refine ⟨by omega, ?_⟩) | (intro _)
                                          all_goals (refine hK _ ?_; clear hK K)
                                          all_goals
                                            refine AW_id ?_
                                            refine AW_re rfl rfl fun K hK => ?_
                                            simp (disch := omega) [wrap64, List.getElem?_eq_getElem, toNat_pred, DtCatalog.cells, DtCSet.cells, DtCSnap.cells, decB_true, decB_false]
                                            repeat' first | (exfalso; omega) | (refine ⟨fun _ => ?_, fun _ => ?_⟩) | (refine ⟨by omega, ?_⟩) | (intro _)
                                            all_goals (refine hK _ ?_; clear hK K)
                                            all_goals
                                              refine ⟨_, LeS.ko [(1, .s x), (2, .ptr 48 0), (5, (.g (.int .i64 (sumZ (cntS x) (c.fSets.take i) + sumZ (cntP x) ((c.fSets[i]).fSnaps.take (k + 1)))))), (14, .sl 2 (c.fSets.map DtCSet.cells)), (15, (.g (.int .i64 ((c.fSets.length : Nat))))), (16, (.g (.int .i64 ((i : Nat))))), (21, .sl 3 ((c.fSets[i]).fSnaps.map DtCSnap.cells)), (22, (.g (.int .i64 (((c.fSets[i]).fSnaps.length : Nat))))), (23, (.g (.int .i64 (((k + 1) : Nat)))))] [(48, .cells (DtCatalog.cells c))] (by simp [KpE, upd_app, lkE_app, lk_cons, DtCatalog.cells, DtCSet.cells, sumZ_nil]; simp_all [cntP, boolZ, decB_t, decB_f]; try omega) (by simp [KpO, upd_app, lk_cons, lk_nil, formOb_nn, DtCatalog.cells, DtCSet.cells, sumZ_nil]; try rfl) (by rfl) (by simp) (by rfl), _, ?_, k + 1, rfl, ?_, rfl⟩
                                              · omega
                                              · omega
                                      · try simp [decB_true, decB_false, eqB_true, eqB_false] at hc7
                                        all_goals
                                          refine AW_skip ?_
                                          refine AW_id ?_
                                          refine AW_re rfl rfl fun K hK => ?_
                                          simp (disch := omega) [wrap64, List.getElem?_eq_getElem, toNat_pred, DtCatalog.cells, DtCSet.cells, DtCSnap.cells, decB_true, decB_false]
                                          repeat' first | (exfalso; omega) | (refine ⟨fun _ => ?_, fun _ => ?_⟩) | (refine ⟨by omega, ?_⟩) | (intro _)
                                          all_goals (refine hK _ ?_; clear hK K)
                                          all_goals
                                            refine ⟨_, LeS.ko [(1, .s x), (2, .ptr 48 0), (5, (.g (.int .i64 (sumZ (cntS x) (c.fSets.take i) + sumZ (cntP x) ((c.fSets[i]).fSnaps.take (k + 1)))))), (14, .sl 2 (c.fSets.map DtCSet.cells)), (15, (.g (.int .i64 ((c.fSets.length : Nat))))), (16, (.g (.int .i64 ((i : Nat))))), (21, .sl 3 ((c.fSets[i]).fSnaps.map DtCSnap.cells)), (22, (.g (.int .i64 (((c.fSets[i]).fSnaps.length : Nat))))), (23, (.g (.int .i64 (((k + 1) : Nat)))))] [(48, .cells (DtCatalog.cells c))] (by simp [KpE, upd_app, lkE_app, lk_cons, DtCatalog.cells, DtCSet.cells, sumZ_nil]; simp_all [cntP, boolZ, decB_t, decB_f]; try omega) (by simp [KpO, upd_app, lk_cons, lk_nil, formOb_nn, DtCatalog.cells, DtCSet.cells, sumZ_nil]; try rfl) (by rfl) (by simp) (by rfl), _, ?_, k + 1, rfl, ?_, rfl⟩
                                            · omega
                                            · omega
                              · try simp [decB_true, decB_false, eqB_true, eqB_false] at hc6
                                all_goals
                                  have hk2 : k = (c.fSets[i]).fSnaps.length := by omega
                                  subst hk2
                                  have hfull : sumZ (cntP x) (List.take (c.fSets[i]).fSnaps.length (c.fSets[i]).fSnaps) = cntS x c.fSets[i] := by rw [List.take_length]; rfl
                                  have hfull2 : sumZ (cntP x) (c.fSets[i]).fSnaps = cntS x c.fSets[i] := rfl
                                  refine AW_exit ?_
                                  refine AW_id ?_
                                  refine AW_re rfl rfl fun K hK => ?_
                                  simp (disch := omega) [wrap64, List.getElem?_eq_getElem, toNat_pred, DtCatalog.cells, DtCSet.cells, DtCSnap.cells, decB_true, decB_false]
                                  repeat' first | (exfalso; omega) | (refine ⟨fun _ => ?_, fun _ => ?_⟩) | (refine ⟨by omega, ?_⟩) | (intro _)
                                  all_goals (refine hK _ ?_; clear hK K)
                                  all_goals
                                    refine ⟨_, LeS.ko [(1, .s x), (2, .ptr 48 0), (5, (.g (.int .i64 (sumZ (cntS x) (c.fSets.take (i + 1)))))), (14, .sl 2 (c.fSets.map DtCSet.cells)), (15, (.g (.int .i64 ((c.fSets.length : Nat))))), (16, (.g (.int .i64 (((i + 1) : Nat)))))] [(48, .cells (DtCatalog.cells c))] (by simp [KpE, upd_app, lkE_app, lk_cons, DtCatalog.cells, DtCSet.cells, sumZ_nil]; first | rfl | omega) (by simp [KpO, upd_app, lk_cons, lk_nil, formOb_nn, DtCatalog.cells, DtCSet.cells, sumZ_nil]; try rfl) (by rfl) (by simp) (by rfl), _, ?_, i + 1, rfl, ?_, rfl⟩
                                    · omega
                                    · exact ⟨by omega, trivial⟩
                  · try simp [decB_true, decB_false, eqB_true, eqB_false] at hc5
                    all_goals
                      refine AW_exit ?_
                      refine AW_id ?_
                      refine AW_r rfl rfl fun K hK => ?_
                      simp (disch := omega) [wrap64, List.getElem?_eq_getElem, toNat_pred, DtCatalog.cells, DtCSet.cells, DtCSnap.cells, decB_true, decB_false]
                      repeat' first | (exfalso; omega) | (refine ⟨fun _ => ?_, fun _ => ?_⟩) | (refine ⟨by omega, ?_⟩) | (intro _)
                      all_goals (refine hK _ ?_; clear hK K)
                      all_goals
                        refine AW_ret (end_s ?_)
                        simp (disch := omega) [wrap64, List.getElem?_eq_getElem, toNat_pred, DtCatalog.cells, DtCSet.cells, DtCSnap.cells, decB_true, decB_false]
                        all_goals first | exact refs_out (.inr (by assumption)) (.inr (by omega)) | (rw [refs, decB_f (by assumption)]; rfl)
theorem lawRefsOf (u : DtCatalog) (hw : DtCatalog.wf u) (x : List UInt8) (hx : wfL x) : PCall Try.prog 5 [.agg (DtCatalog.cells u), .s x] (.g (.bool (true))) := by
  have hq := DtCatalog.sz_nonneg u
  have hx2 : x.length ≤ 9223372036854775807 := hx
  by_cases h : (1048576 : Int) - DtCatalog.sz u < 0
  · have e : szR 1048576 (DtCatalog.sz u) = -1 := by unfold szR; rw [if_pos h]
    refine gcall_of_walk Try.func5 (by rfl) (by rfl) (by rw [Try.ntmps5]; exact Nat.le_of_ble_eq_true rfl) rfl (by decide) ?_
    rw [Try.ntmps5]
    refine AW_k [(0, _), (1, _)] ⟨rfl, rfl, trivial⟩ ?_
    refine AW_r rfl rfl fun K hK => ?_
    simp (disch := omega) [wrap64, List.getElem?_eq_getElem, toNat_pred, e, DtCatalog.cells]
    repeat' first | (exfalso; omega) | (refine ⟨fun _ => ?_, fun _ => ?_⟩) | (refine ⟨by omega, ?_⟩) | (intro _)
    all_goals (refine hK _ ?_; clear hK K)
    all_goals
      refine AW_seq ?_
      refine AW_r rfl rfl fun K hK => ?_
      simp (disch := omega) [wrap64, List.getElem?_eq_getElem, toNat_pred, e, DtCatalog.cells]
      repeat' first | (exfalso; omega) | (refine ⟨fun _ => ?_, fun _ => ?_⟩) | (refine ⟨by omega, ?_⟩) | (intro _)
      all_goals (refine hK _ ?_; clear hK K)
      all_goals
        refine AW_cond rfl (fun hc8 => ?_) (fun hc8 => ?_)
        · try simp [decB_true, decB_false, eqB_true, eqB_false] at hc8
          all_goals
            refine AW_r rfl rfl fun K hK => ?_
            simp (disch := omega) [wrap64, List.getElem?_eq_getElem, toNat_pred, e, DtCatalog.cells]
            repeat' first | (exfalso; omega) | (refine ⟨fun _ => ?_, fun _ => ?_⟩) | (refine ⟨by omega, ?_⟩) | (intro _)
            all_goals (refine hK _ ?_; clear hK K)
            all_goals
              refine AW_ret (end_s ?_)
              simp (disch := omega) [wrap64, List.getElem?_eq_getElem, toNat_pred, e, DtCatalog.cells]
              all_goals first | omega | (simp_all; done) | (simp [List.take_of_length_le]; done) | ((try simp_all); (try simp (disch := omega) only [wrap64, Int.tdiv_eq_ediv_of_nonneg, Int.tmod_eq_emod_of_nonneg, and_true, true_and]); done) | ((try simp_all); (try simp (disch := omega) only [wrap64, Int.tdiv_eq_ediv_of_nonneg, Int.tmod_eq_emod_of_nonneg, and_true, true_and] at *); omega)
        · try simp [decB_true, decB_false, eqB_true, eqB_false] at hc8
          all_goals
            refine AW_skip ?_
            refine AW_id ?_
            refine AW_r rfl rfl fun K hK => ?_
            simp (disch := omega) [wrap64, List.getElem?_eq_getElem, toNat_pred, e, DtCatalog.cells]
            repeat' first | (exfalso; omega) | (refine ⟨fun _ => ?_, fun _ => ?_⟩) | (refine ⟨by omega, ?_⟩) | (intro _)
            all_goals (refine hK _ ?_; clear hK K)
            all_goals
              refine AW_r rfl rfl fun K hK => ?_
              simp (disch := omega) [wrap64, List.getElem?_eq_getElem, toNat_pred, e, DtCatalog.cells]
              repeat' first | (exfalso; omega) | (refine CKd_v (am2s_cons (am2_agg rfl) (am2s_cons am2_g am2s_nil)) (szCatalog _ _ (by omega) hw) rfl ?_; simp (disch := omega) [wrap64, List.getElem?_eq_getElem, toNat_pred, e, DtCatalog.cells]) | (refine ⟨fun _ => ?_, fun _ => ?_⟩) | (refine ⟨by omega, ?_⟩) | (intro _)
              all_goals (refine hK _ ?_; clear hK K)
              all_goals
                refine AW_seq ?_
                refine AW_r rfl rfl fun K hK => ?_
                simp (disch := omega) [wrap64, List.getElem?_eq_getElem, toNat_pred, e, DtCatalog.cells]
                repeat' first | (exfalso; omega) | (refine ⟨fun _ => ?_, fun _ => ?_⟩) | (refine ⟨by omega, ?_⟩) | (intro _)
                all_goals (refine hK _ ?_; clear hK K)
                all_goals
                  refine AW_cond rfl (fun hc9 => ?_) (fun hc9 => ?_)
                  · try simp [decB_true, decB_false, eqB_true, eqB_false] at hc9
                    all_goals
                      refine AW_r rfl rfl fun K hK => ?_
                      simp (disch := omega) [wrap64, List.getElem?_eq_getElem, toNat_pred, e, DtCatalog.cells]
                      repeat' first | (exfalso; omega) | (refine ⟨fun _ => ?_, fun _ => ?_⟩) | (refine ⟨by omega, ?_⟩) | (intro _)
                      all_goals (refine hK _ ?_; clear hK K)
                      all_goals
                        refine AW_ret (end_s ?_)
                        simp (disch := omega) [wrap64, List.getElem?_eq_getElem, toNat_pred, e, DtCatalog.cells]
                        all_goals first | omega | (simp_all; done) | (simp [List.take_of_length_le]; done) | ((try simp_all); (try simp (disch := omega) only [wrap64, Int.tdiv_eq_ediv_of_nonneg, Int.tmod_eq_emod_of_nonneg, and_true, true_and]); done) | ((try simp_all); (try simp (disch := omega) only [wrap64, Int.tdiv_eq_ediv_of_nonneg, Int.tmod_eq_emod_of_nonneg, and_true, true_and] at *); omega)
                  · try simp [decB_true, decB_false, eqB_true, eqB_false] at hc9
                    all_goals
                      refine AW_skip ?_
                      refine AW_id ?_
                      refine AW_r rfl rfl fun K hK => ?_
                      simp (disch := omega) [wrap64, List.getElem?_eq_getElem, toNat_pred, e, DtCatalog.cells]
                      repeat' first | (exfalso; omega) | (refine ⟨fun _ => ?_, fun _ => ?_⟩) | (refine ⟨by omega, ?_⟩) | (intro _)
                      all_goals (refine hK _ ?_; clear hK K)
                      all_goals
                        refine AW_r rfl rfl fun K hK => ?_
                        simp (disch := omega) [wrap64, List.getElem?_eq_getElem, toNat_pred, e, DtCatalog.cells]
                        repeat' first | (exfalso; omega) | (refine ⟨fun _ => ?_, fun _ => ?_⟩) | (refine ⟨by omega, ?_⟩) | (intro _)
                        all_goals (refine hK _ ?_; clear hK K)
                        all_goals
                          refine AW_r rfl rfl fun K hK => ?_
                          simp (disch := omega) [wrap64, List.getElem?_eq_getElem, toNat_pred, e, DtCatalog.cells]
                          repeat' first | (exfalso; omega) | (refine ⟨fun _ => ?_, fun _ => ?_⟩) | (refine ⟨by omega, ?_⟩) | (intro _)
                          all_goals (refine hK _ ?_; clear hK K)
                          all_goals
                            refine AW_seq ?_
                            refine AW_r rfl rfl fun K hK => ?_
                            simp (disch := omega) [wrap64, List.getElem?_eq_getElem, toNat_pred, e, DtCatalog.cells]
                            repeat' first | (exfalso; omega) | (refine ⟨fun _ => ?_, fun _ => ?_⟩) | (refine ⟨by omega, ?_⟩) | (intro _)
                            all_goals (refine hK _ ?_; clear hK K)
                            all_goals
                              refine AW_cond rfl (fun hc10 => ?_) (fun hc10 => ?_)
                              · try simp [decB_true, decB_false, eqB_true, eqB_false] at hc10
                                all_goals
                                  refine AW_r rfl rfl fun K hK => ?_
                                  simp (disch := omega) [wrap64, List.getElem?_eq_getElem, toNat_pred, e, DtCatalog.cells]
                                  repeat' first | (exfalso; omega) | (refine ⟨fun _ => ?_, fun _ => ?_⟩) | (refine ⟨by omega, ?_⟩) | (intro _)
                                  all_goals (refine hK _ ?_; clear hK K)
                                  all_goals
                                    refine AW_ret (end_s ?_)
                                    simp (disch := omega) [wrap64, List.getElem?_eq_getElem, toNat_pred, e, DtCatalog.cells]
                                    all_goals first | omega | (simp_all; done) | (simp [List.take_of_length_le]; done) | ((try simp_all); (try simp (disch := omega) only [wrap64, Int.tdiv_eq_ediv_of_nonneg, Int.tmod_eq_emod_of_nonneg, and_true, true_and]); done) | ((try simp_all); (try simp (disch := omega) only [wrap64, Int.tdiv_eq_ediv_of_nonneg, Int.tmod_eq_emod_of_nonneg, and_true, true_and] at *); omega)
                              · try simp [decB_true, decB_false, eqB_true, eqB_false] at hc10
                                all_goals
                                  refine AW_skip ?_
                                  refine AW_id ?_
                                  refine AW_seq ?_
                                  refine AW_q rfl mix (by kernel_rfl) rfl fun K hK => ?_
                                  simp (disch := omega) [wrap64, List.getElem?_eq_getElem, toNat_pred, e, DtCatalog.cells]
                                  repeat' first | (exfalso; omega) | (refine ⟨fun _ => ?_, fun _ => ?_⟩) | (refine ⟨by omega, ?_⟩) | (intro _)
                                  all_goals (refine hK _ ?_; clear hK K)
                                  all_goals
                                    refine AW_cond rfl (fun hc11 => ?_) (fun hc11 => ?_)
                                    · try simp [decB_true, decB_false, eqB_true, eqB_false] at hc11
                                      all_goals
                                        refine AW_r rfl rfl fun K hK => ?_
                                        simp (disch := omega) [wrap64, List.getElem?_eq_getElem, toNat_pred, e, DtCatalog.cells]
                                        repeat' first | (exfalso; omega) | (refine ⟨fun _ => ?_, fun _ => ?_⟩) | (refine ⟨by omega, ?_⟩) | (intro _)
                                        all_goals (refine hK _ ?_; clear hK K)
                                        all_goals
                                          refine AW_ret (end_s ?_)
                                          simp (disch := omega) [wrap64, List.getElem?_eq_getElem, toNat_pred, e, DtCatalog.cells]
                                          all_goals first | omega | (simp_all; done) | (simp [List.take_of_length_le]; done) | ((try simp_all); (try simp (disch := omega) only [wrap64, Int.tdiv_eq_ediv_of_nonneg, Int.tmod_eq_emod_of_nonneg, and_true, true_and]); done) | ((try simp_all); (try simp (disch := omega) only [wrap64, Int.tdiv_eq_ediv_of_nonneg, Int.tmod_eq_emod_of_nonneg, and_true, true_and] at *); omega)
                                    · try simp [decB_true, decB_false, eqB_true, eqB_false] at hc11
                                      all_goals
                                        refine AW_skip ?_
                                        refine AW_id ?_
                                        refine AW_r rfl rfl fun K hK => ?_
                                        simp (disch := omega) [wrap64, List.getElem?_eq_getElem, toNat_pred, e, DtCatalog.cells]
                                        repeat' first | (exfalso; omega) | (refine ⟨fun _ => ?_, fun _ => ?_⟩) | (refine ⟨by omega, ?_⟩) | (intro _)
                                        all_goals (refine hK _ ?_; clear hK K)
                                        all_goals
                                          refine AW_ret (end_s ?_)
                                          simp (disch := omega) [wrap64, List.getElem?_eq_getElem, toNat_pred, e, DtCatalog.cells]
                                          all_goals first | omega | (simp_all; done) | (simp [List.take_of_length_le]; done) | ((try simp_all); (try simp (disch := omega) only [wrap64, Int.tdiv_eq_ediv_of_nonneg, Int.tmod_eq_emod_of_nonneg, and_true, true_and]); done) | ((try simp_all); (try simp (disch := omega) only [wrap64, Int.tdiv_eq_ediv_of_nonneg, Int.tmod_eq_emod_of_nonneg, and_true, true_and] at *); omega)
  · have e : szR 1048576 (DtCatalog.sz u) = 1048576 - DtCatalog.sz u := by unfold szR; rw [if_neg h]
    have e2 : (0 : Int) ≤ 1048576 - DtCatalog.sz u := by omega
    refine gcall_of_walk Try.func5 (by rfl) (by rfl) (by rw [Try.ntmps5]; exact Nat.le_of_ble_eq_true rfl) rfl (by decide) ?_
    rw [Try.ntmps5]
    refine AW_k [(0, _), (1, _)] ⟨rfl, rfl, trivial⟩ ?_
    refine AW_r rfl rfl fun K hK => ?_
    simp (disch := omega) [wrap64, List.getElem?_eq_getElem, toNat_pred, e, e2, eqB_self, DtCatalog.cells]
    repeat' first | (exfalso; omega) | (refine ⟨fun _ => ?_, fun _ => ?_⟩) | (refine ⟨by omega, ?_⟩) | (intro _)
    all_goals (refine hK _ ?_; clear hK K)
    all_goals
      refine AW_seq ?_
      refine AW_r rfl rfl fun K hK => ?_
      simp (disch := omega) [wrap64, List.getElem?_eq_getElem, toNat_pred, e, e2, eqB_self, DtCatalog.cells]
      repeat' first | (exfalso; omega) | (refine ⟨fun _ => ?_, fun _ => ?_⟩) | (refine ⟨by omega, ?_⟩) | (intro _)
      all_goals (refine hK _ ?_; clear hK K)
      all_goals
        refine AW_cond rfl (fun hc12 => ?_) (fun hc12 => ?_)
        · try simp [decB_true, decB_false, eqB_true, eqB_false] at hc12
          all_goals
            refine AW_r rfl rfl fun K hK => ?_
            simp (disch := omega) [wrap64, List.getElem?_eq_getElem, toNat_pred, e, e2, eqB_self, DtCatalog.cells]
            repeat' first | (exfalso; omega) | (refine ⟨fun _ => ?_, fun _ => ?_⟩) | (refine ⟨by omega, ?_⟩) | (intro _)
            all_goals (refine hK _ ?_; clear hK K)
            all_goals
              refine AW_ret (end_s ?_)
              simp (disch := omega) [wrap64, List.getElem?_eq_getElem, toNat_pred, e, e2, eqB_self, DtCatalog.cells]
              all_goals first | omega | (simp_all; done) | (simp [List.take_of_length_le]; done) | ((try simp_all); (try simp (disch := omega) only [wrap64, Int.tdiv_eq_ediv_of_nonneg, Int.tmod_eq_emod_of_nonneg, and_true, true_and]); done) | ((try simp_all); (try simp (disch := omega) only [wrap64, Int.tdiv_eq_ediv_of_nonneg, Int.tmod_eq_emod_of_nonneg, and_true, true_and] at *); omega)
        · try simp [decB_true, decB_false, eqB_true, eqB_false] at hc12
          all_goals
            refine AW_skip ?_
            refine AW_id ?_
            refine AW_r rfl rfl fun K hK => ?_
            simp (disch := omega) [wrap64, List.getElem?_eq_getElem, toNat_pred, e, e2, eqB_self, DtCatalog.cells]
            repeat' first | (exfalso; omega) | (refine ⟨fun _ => ?_, fun _ => ?_⟩) | (refine ⟨by omega, ?_⟩) | (intro _)
            all_goals (refine hK _ ?_; clear hK K)
            all_goals
              refine AW_r rfl rfl fun K hK => ?_
              simp (disch := omega) [wrap64, List.getElem?_eq_getElem, toNat_pred, e, e2, eqB_self, DtCatalog.cells]
              repeat' first | (exfalso; omega) | (refine CKd_v (am2s_cons (am2_agg rfl) (am2s_cons am2_g am2s_nil)) (szCatalog _ _ (by omega) hw) rfl ?_; simp (disch := omega) [wrap64, List.getElem?_eq_getElem, toNat_pred, e, e2, eqB_self, DtCatalog.cells]) | (refine ⟨fun _ => ?_, fun _ => ?_⟩) | (refine ⟨by omega, ?_⟩) | (intro _)
              all_goals (refine hK _ ?_; clear hK K)
              all_goals
                refine AW_seq ?_
                refine AW_r rfl rfl fun K hK => ?_
                simp (disch := omega) [wrap64, List.getElem?_eq_getElem, toNat_pred, e, e2, eqB_self, DtCatalog.cells]
                repeat' first | (exfalso; omega) | (refine ⟨fun _ => ?_, fun _ => ?_⟩) | (refine ⟨by omega, ?_⟩) | (intro _)
                all_goals (refine hK _ ?_; clear hK K)
                all_goals
                  refine AW_cond rfl (fun hc13 => ?_) (fun hc13 => ?_)
                  · try simp [decB_true, decB_false, eqB_true, eqB_false] at hc13
                    all_goals
                      refine AW_r rfl rfl fun K hK => ?_
                      simp (disch := omega) [wrap64, List.getElem?_eq_getElem, toNat_pred, e, e2, eqB_self, DtCatalog.cells]
                      repeat' first | (exfalso; omega) | (refine ⟨fun _ => ?_, fun _ => ?_⟩) | (refine ⟨by omega, ?_⟩) | (intro _)
                      all_goals (refine hK _ ?_; clear hK K)
                      all_goals
                        refine AW_ret (end_s ?_)
                        simp (disch := omega) [wrap64, List.getElem?_eq_getElem, toNat_pred, e, e2, eqB_self, DtCatalog.cells]
                        all_goals first | omega | (simp_all; done) | (simp [List.take_of_length_le]; done) | ((try simp_all); (try simp (disch := omega) only [wrap64, Int.tdiv_eq_ediv_of_nonneg, Int.tmod_eq_emod_of_nonneg, and_true, true_and]); done) | ((try simp_all); (try simp (disch := omega) only [wrap64, Int.tdiv_eq_ediv_of_nonneg, Int.tmod_eq_emod_of_nonneg, and_true, true_and] at *); omega)
                  · try simp [decB_true, decB_false, eqB_true, eqB_false] at hc13
                    all_goals
                      refine AW_skip ?_
                      refine AW_id ?_
                      refine AW_r rfl rfl fun K hK => ?_
                      simp (disch := omega) [wrap64, List.getElem?_eq_getElem, toNat_pred, e, e2, eqB_self, DtCatalog.cells]
                      repeat' first | (exfalso; omega) | (refine CKd_v (am2s_cons (am2_agg rfl) am2s_nil) (toCatalog _ (by omega)) rfl ?_; simp (disch := omega) [wrap64, List.getElem?_eq_getElem, toNat_pred, e, e2, eqB_self, DtCatalog.cells]) | (refine CKd_v (am2s_cons (am2_agg rfl) (am2s_cons am2_s am2s_nil)) (specRefsOf _ _ (by omega)) rfl ?_; simp (disch := omega) [wrap64, List.getElem?_eq_getElem, toNat_pred, e, e2, eqB_self, DtCatalog.cells]) | (refine ⟨fun _ => ?_, fun _ => ?_⟩) | (refine ⟨by omega, ?_⟩) | (intro _)
                      all_goals (refine hK _ ?_; clear hK K)
                      all_goals
                        refine AW_r rfl rfl fun K hK => ?_
                        simp (disch := omega) [wrap64, List.getElem?_eq_getElem, toNat_pred, e, e2, eqB_self, DtCatalog.cells]
                        repeat' first | (exfalso; omega) | (refine CKd_v (am2s_cons (am2_agg rfl) am2s_nil) (toCatalog _ (by omega)) rfl ?_; simp (disch := omega) [wrap64, List.getElem?_eq_getElem, toNat_pred, e, e2, eqB_self, DtCatalog.cells]) | (refine ⟨fun _ => ?_, fun _ => ?_⟩) | (refine ⟨by omega, ?_⟩) | (intro _)
                        all_goals (refine hK _ ?_; clear hK K)
                        all_goals
                          refine AW_r rfl rfl fun K hK => ?_
                          simp (disch := omega) [wrap64, List.getElem?_eq_getElem, toNat_pred, e, e2, eqB_self, DtCatalog.cells]
                          repeat' first | (exfalso; omega) | (refine CKd_v (am2s_cons (am2_agg rfl) (am2s_cons am2_s am2s_nil)) (implRefsOf _ _ (by omega)) rfl ?_; simp (disch := omega) [wrap64, List.getElem?_eq_getElem, toNat_pred, e, e2, eqB_self, DtCatalog.cells]) | (refine ⟨fun _ => ?_, fun _ => ?_⟩) | (refine ⟨by omega, ?_⟩) | (intro _)
                          all_goals (refine hK _ ?_; clear hK K)
                          all_goals
                            refine AW_seq ?_
                            refine AW_r rfl rfl fun K hK => ?_
                            simp (disch := omega) [wrap64, List.getElem?_eq_getElem, toNat_pred, e, e2, eqB_self, DtCatalog.cells]
                            repeat' first | (exfalso; omega) | (refine ⟨fun _ => ?_, fun _ => ?_⟩) | (refine ⟨by omega, ?_⟩) | (intro _)
                            all_goals (refine hK _ ?_; clear hK K)
                            all_goals
                              refine AW_cond rfl (fun hc14 => ?_) (fun hc14 => ?_)
                              · try simp [decB_true, decB_false, eqB_true, eqB_false] at hc14
                                all_goals
                                  refine AW_r rfl rfl fun K hK => ?_
                                  simp (disch := omega) [wrap64, List.getElem?_eq_getElem, toNat_pred, e, e2, eqB_self, DtCatalog.cells]
                                  repeat' first | (exfalso; omega) | (refine ⟨fun _ => ?_, fun _ => ?_⟩) | (refine ⟨by omega, ?_⟩) | (intro _)
                                  all_goals (refine hK _ ?_; clear hK K)
                                  all_goals
                                    refine AW_ret (end_s ?_)
                                    simp (disch := omega) [wrap64, List.getElem?_eq_getElem, toNat_pred, e, e2, eqB_self, DtCatalog.cells]
                                    all_goals first | omega | (simp_all; done) | (simp [List.take_of_length_le]; done) | ((try simp_all); (try simp (disch := omega) only [wrap64, Int.tdiv_eq_ediv_of_nonneg, Int.tmod_eq_emod_of_nonneg, and_true, true_and]); done) | ((try simp_all); (try simp (disch := omega) only [wrap64, Int.tdiv_eq_ediv_of_nonneg, Int.tmod_eq_emod_of_nonneg, and_true, true_and] at *); omega)
                              · try simp [decB_true, decB_false, eqB_true, eqB_false] at hc14
                                all_goals
                                  refine AW_skip ?_
                                  refine AW_id ?_
                                  refine AW_seq ?_
                                  refine AW_q rfl mix (by kernel_rfl) rfl fun K hK => ?_
                                  simp (disch := omega) [wrap64, List.getElem?_eq_getElem, toNat_pred, e, e2, eqB_self, DtCatalog.cells]
                                  repeat' first | (exfalso; omega) | (refine CKd_v (am2s_cons (am2_agg rfl) am2s_nil) (toCatalog _ (by omega)) rfl ?_; simp (disch := omega) [wrap64, List.getElem?_eq_getElem, toNat_pred, e, e2, eqB_self, DtCatalog.cells]) | (refine CKd_v (am2s_cons (am2_agg rfl) (am2s_cons (am2_agg rfl) am2s_nil)) (eqCatalog _ _ (by omega)) rfl ?_; simp (disch := omega) [wrap64, List.getElem?_eq_getElem, toNat_pred, e, e2, eqB_self, DtCatalog.cells]) | (refine ⟨fun _ => ?_, fun _ => ?_⟩) | (refine ⟨by omega, ?_⟩) | (intro _)
                                  all_goals (refine hK _ ?_; clear hK K)
                                  all_goals
                                    refine AW_cond rfl (fun hc15 => ?_) (fun hc15 => ?_)
                                    · try simp [decB_true, decB_false, eqB_true, eqB_false] at hc15
                                      all_goals
                                        refine AW_r rfl rfl fun K hK => ?_
                                        simp (disch := omega) [wrap64, List.getElem?_eq_getElem, toNat_pred, e, e2, eqB_self, DtCatalog.cells]
                                        repeat' first | (exfalso; omega) | (refine ⟨fun _ => ?_, fun _ => ?_⟩) | (refine ⟨by omega, ?_⟩) | (intro _)
                                        all_goals (refine hK _ ?_; clear hK K)
                                        all_goals
                                          refine AW_ret (end_s ?_)
                                          simp (disch := omega) [wrap64, List.getElem?_eq_getElem, toNat_pred, e, e2, eqB_self, DtCatalog.cells]
                                          all_goals first | omega | (simp_all; done) | (simp [List.take_of_length_le]; done) | ((try simp_all); (try simp (disch := omega) only [wrap64, Int.tdiv_eq_ediv_of_nonneg, Int.tmod_eq_emod_of_nonneg, and_true, true_and]); done) | ((try simp_all); (try simp (disch := omega) only [wrap64, Int.tdiv_eq_ediv_of_nonneg, Int.tmod_eq_emod_of_nonneg, and_true, true_and] at *); omega)
                                    · try simp [decB_true, decB_false, eqB_true, eqB_false] at hc15
                                      all_goals
                                        refine AW_skip ?_
                                        refine AW_id ?_
                                        refine AW_r rfl rfl fun K hK => ?_
                                        simp (disch := omega) [wrap64, List.getElem?_eq_getElem, toNat_pred, e, e2, eqB_self, DtCatalog.cells]
                                        repeat' first | (exfalso; omega) | (refine ⟨fun _ => ?_, fun _ => ?_⟩) | (refine ⟨by omega, ?_⟩) | (intro _)
                                        all_goals (refine hK _ ?_; clear hK K)
                                        all_goals
                                          refine AW_ret (end_s ?_)
                                          simp (disch := omega) [wrap64, List.getElem?_eq_getElem, toNat_pred, e, e2, eqB_self, DtCatalog.cells]
                                          all_goals first | omega | (simp_all; done) | (simp [List.take_of_length_le]; done) | ((try simp_all); (try simp (disch := omega) only [wrap64, Int.tdiv_eq_ediv_of_nonneg, Int.tmod_eq_emod_of_nonneg, and_true, true_and]); done) | ((try simp_all); (try simp (disch := omega) only [wrap64, Int.tdiv_eq_ediv_of_nonneg, Int.tmod_eq_emod_of_nonneg, and_true, true_and] at *); omega)
end Go.Proofs.Ytopdaicfhfjmgaa.Vs
