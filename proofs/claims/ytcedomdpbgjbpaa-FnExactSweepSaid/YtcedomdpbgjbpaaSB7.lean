import Derived.Test.YtcedomdpbgjbpaaSA7
open Go Go.Proofs Go.Proofs.Ytcedomdpbgjbpaa.Vs
namespace Go.Proofs.Ytcedomdpbgjbpaa.Vs
set_option linter.unusedVariables false
set_option linter.unusedSimpArgs false
set_option linter.unusedSectionVars false
set_option linter.unnecessarySimpa false
set_option linter.all false
set_option linter.unusedSimpArgs false
set_option linter.unusedVariables false
set_option maxRecDepth 100000
def snC (l : List DtCSnap) : List (List UInt8) := (l.map (·.fChunks)).flatten
def seC (l : List DtCSet) : List (List UInt8) := (l.map fun s => snC s.fSnaps).flatten
theorem snC_take (l : List DtCSnap) (k : Nat) (h : k < l.length) : snC (l.take (k + 1)) = snC (l.take k) ++ l[k].fChunks := by
  unfold snC; rw [List.take_succ_eq_append_getElem h, List.map_append, List.flatten_append]; simp only [List.map_cons, List.map_nil, List.flatten_cons, List.flatten_nil, List.append_nil]
theorem seC_take (l : List DtCSet) (k : Nat) (h : k < l.length) : seC (l.take (k + 1)) = seC (l.take k) ++ snC l[k].fSnaps := by
  unfold seC; rw [List.take_succ_eq_append_getElem h, List.map_append, List.flatten_append]; simp only [List.map_cons, List.map_nil, List.flatten_cons, List.flatten_nil, List.append_nil]
theorem snC_len : ∀ l : List DtCSnap, ((snC l).length : Int) ≤ szS DtCSnap.sz l
  | [] => by simp [snC, szS, sumZ_nil]
  | p :: l => by
    have h1 := snC_len l
    have h2 := len_szS lenZ_nonneg p.fChunks
    have e : snC (p :: l) = p.fChunks ++ snC l := by simp [snC]
    rw [e, List.length_append]
    simp only [szS, sumZ_cons, DtCSnap.sz] at *
    simp only [List.length_cons]
    omega
theorem seC_len : ∀ l : List DtCSet, ((seC l).length : Int) ≤ szS DtCSet.sz l
  | [] => by simp [seC, szS, sumZ_nil]
  | p :: l => by
    have h1 := seC_len l
    have h2 := snC_len p.fSnaps
    have e : seC (p :: l) = snC p.fSnaps ++ seC l := by simp [seC]
    rw [e, List.length_append]
    simp only [szS, sumZ_cons, DtCSet.sz] at *
    simp only [List.length_cons]
    omega
/-- The chunks up to the j-th of the k-th of the i-th. -/
theorem pre_len (c : DtCatalog) (hs : DtCatalog.sz c ≤ 1048576) (i : Nat) (hi : i < c.fSets.length) (k : Nat) (hk : k < c.fSets[i].fSnaps.length) (j : Nat) : (seC (c.fSets.take i) ++ snC (c.fSets[i].fSnaps.take k) ++ c.fSets[i].fSnaps[k].fChunks.take j).length ≤ 1048576 := by
  have h1 := seC_len c.fSets
  have h2 : seC c.fSets = seC (c.fSets.take i) ++ (snC c.fSets[i].fSnaps ++ seC (c.fSets.drop (i + 1))) := by
    conv => lhs; rw [← List.take_append_drop (i + 1) c.fSets]
    rw [show ∀ a b, seC (a ++ b) = seC a ++ seC b from fun a b => by simp [seC], seC_take _ _ hi, List.append_assoc]
  have h3 : snC c.fSets[i].fSnaps = snC (c.fSets[i].fSnaps.take k) ++ (c.fSets[i].fSnaps[k].fChunks ++ snC (c.fSets[i].fSnaps.drop (k + 1))) := by
    conv => lhs; rw [← List.take_append_drop (k + 1) c.fSets[i].fSnaps]
    rw [show ∀ a b, snC (a ++ b) = snC a ++ snC b from fun a b => by simp [snC], snC_take _ _ hk, List.append_assoc]
  have h4 := List.length_take_le' j c.fSets[i].fSnaps[k].fChunks
  have h5 := congrArg List.length h2
  have h6 := congrArg List.length h3
  simp only [List.length_append] at h5 h6 ⊢
  simp only [DtCatalog.sz, szS] at hs h1
  have h7 := sumZ_nonneg DtCSet.sz_nonneg c.fSets
  omega
theorem pre_len2 (c : DtCatalog) (hs : DtCatalog.sz c ≤ 1048576) (i : Nat) (hi : i < c.fSets.length) (k : Nat) : (seC (c.fSets.take i) ++ snC (c.fSets[i].fSnaps.take k)).length ≤ 1048576 := by
  by_cases hk : k < c.fSets[i].fSnaps.length
  · have := pre_len c hs i hi k hk 0
    simpa using this
  · have h1 := seC_len c.fSets
    have h2 : seC c.fSets = seC (c.fSets.take i) ++ (snC c.fSets[i].fSnaps ++ seC (c.fSets.drop (i + 1))) := by
      conv => lhs; rw [← List.take_append_drop (i + 1) c.fSets]
      rw [show ∀ a b, seC (a ++ b) = seC a ++ seC b from fun a b => by simp [seC], seC_take _ _ hi, List.append_assoc]
    have h5 := congrArg List.length h2
    rw [List.take_of_length_le (show c.fSets[i].fSnaps.length ≤ k by omega)]
    simp only [List.length_append] at h5 ⊢
    simp only [DtCatalog.sz, szS] at hs h1
    have h7 := sumZ_nonneg DtCSet.sz_nonneg c.fSets
    omega
theorem pre_len3 (c : DtCatalog) (hs : DtCatalog.sz c ≤ 1048576) (i : Nat) : (seC (c.fSets.take i)).length ≤ 1048576 := by
  by_cases hi : i < c.fSets.length
  · have := pre_len2 c hs i hi 0
    simpa [snC] using this
  · have h1 := seC_len c.fSets
    rw [List.take_of_length_le (by omega)]
    simp only [DtCatalog.sz, szS] at hs h1
    have h7 := sumZ_nonneg DtCSet.sz_nonneg c.fSets
    omega
theorem catSz (c : DtCatalog) (hs : DtCatalog.sz c ≤ 1048576) : c.fSets.length ≤ 1048576 ∧ (∀ i (h : i < c.fSets.length), c.fSets[i].fSnaps.length ≤ 1048576) ∧ ∀ i (h : i < c.fSets.length) k (h2 : k < c.fSets[i].fSnaps.length), c.fSets[i].fSnaps[k].fChunks.length ≤ 1048576 := by
  have h0 := sumZ_nonneg DtCSet.sz_nonneg c.fSets
  simp only [DtCatalog.sz, szS] at hs
  refine ⟨by omega, fun i h => ?_, fun i h k h2 => ?_⟩
  · have h1 := sumZ_mem_le DtCSet.sz_nonneg c.fSets c.fSets[i] (List.getElem_mem _)
    have h2 := sumZ_nonneg DtCSnap.sz_nonneg c.fSets[i].fSnaps
    simp only [DtCSet.sz, szS] at h1
    omega
  · have h1 := sumZ_mem_le DtCSet.sz_nonneg c.fSets c.fSets[i] (List.getElem_mem _)
    have h3 := sumZ_mem_le DtCSnap.sz_nonneg c.fSets[i].fSnaps c.fSets[i].fSnaps[k] (List.getElem_mem _)
    have h4 := sumZ_nonneg lenZ_nonneg c.fSets[i].fSnaps[k].fChunks
    simp only [DtCSet.sz, szS] at h1
    simp only [DtCSnap.sz, szS] at h3
    omega
noncomputable def allL (c : DtCatalog) : List (List UInt8) := bif decB (CatP c) then setS (seC c.fSets) else []
theorem allL_t {c : DtCatalog} (h : CatP c) : allL c = setS (seC c.fSets) := by unfold allL; rw [decB_t h]; rfl
theorem allL_f {c : DtCatalog} (h : ¬ CatP c) : allL c = [] := by unfold allL; rw [decB_f h]; rfl
theorem foldS_len : ∀ (xs l : List (List UInt8)), (xs.foldl putS l).length ≤ l.length + xs.length
  | [], l => by simp
  | x :: xs, l => by
    have h1 := foldS_len xs (putS l x)
    have h2 : (putS l x).length ≤ l.length + 1 := ins_len x (decide (x ∈ l)) l
    simp only [List.foldl_cons, List.length_cons]
    omega
theorem compactS (l : List (List UInt8)) (hl : l.length ≤ 1048576) : XCall Try.prog 40 [.arr 8 0 l.length] [.own 1 ((sortS l).map cS)] (.arr 8 0 (setS l).length) [.own 1 ((setS l).map cS)] [] := by
  have := compactX (sortS l) (by rw [sortS_len]; omega)
  rw [sortS_len] at this
  exact this
theorem implAll (c : DtCatalog) (hs : DtCatalog.sz c ≤ 1048576) : XCall Try.prog 10 [.agg (DtCatalog.cells c)] [] (.arr 16 0 (allL c).length) [] [.own 1 ((allL c).map cS)] := by
  have ⟨hl, hl2, hl3⟩ := catSz c hs
  have hsl := pre_len3 c hs c.fSets.length
  rw [List.take_length] at hsl
  refine xcall_of_walk Try.func10 (by rfl) (by rfl) (by rw [Try.ntmps10]; exact Nat.le_of_ble_eq_true rfl) rfl (by simp) rfl rfl ?_
  rw [Try.ntmps10]
  refine AW_x0   ?_
  refine AW_k [(0, _)] ⟨rfl, trivial⟩ ?_
  refine AW_x rfl rfl fun K hK => ?_
  simp (disch := omega) [wrap64, List.getElem?_eq_getElem, toNat_pred, DtCatalog.cells, DtCSet.cells, DtCSnap.cells, cS, take_map_n]
  repeat' first | (exfalso; omega) | (refine ⟨fun _ => ?_, fun _ => ?_⟩) | (refine ⟨by omega, ?_⟩) | (intro _)
  all_goals (refine hK _ ?_; clear hK K)
  all_goals
    refine AW_seq ?_
    refine AW_x rfl rfl fun K hK => ?_
    simp (disch := omega) [wrap64, List.getElem?_eq_getElem, toNat_pred, DtCatalog.cells, DtCSet.cells, DtCSnap.cells, cS, take_map_n]
    repeat' first | (exfalso; omega) | (refine XKd_v (am2s_cons (am2_agg rfl) am2s_nil) (implCatOk _ (by omega)) rfl ?_; simp (disch := omega) [wrap64, List.getElem?_eq_getElem, toNat_pred, DtCatalog.cells, DtCSet.cells, DtCSnap.cells, cS, take_map_n]) | (refine XKd_p (implCatOk _ (by omega)) (by rfl) ?_ ?_; (focus (simp (disch := omega) [wrap64, List.getElem?_eq_getElem, toNat_pred, DtCatalog.cells, DtCSet.cells, DtCSnap.cells, cS, take_map_n, take_map_n]; done)); simp (disch := omega) [wrap64, List.getElem?_eq_getElem, toNat_pred, DtCatalog.cells, DtCSet.cells, DtCSnap.cells, cS, take_map_n]) | (refine ⟨fun _ => ?_, fun _ => ?_⟩) | (refine ⟨by omega, ?_⟩) | (intro _)
    all_goals (refine hK _ ?_; clear hK K)
    all_goals
      refine AW_cond rfl (fun hc1 => ?_) (fun hc1 => ?_)
      · try simp [decB_true, decB_false, eqB_true, eqB_false] at hc1
        all_goals
          refine AW_x rfl rfl fun K hK => ?_
          simp (disch := omega) [wrap64, List.getElem?_eq_getElem, toNat_pred, DtCatalog.cells, DtCSet.cells, DtCSnap.cells, cS, take_map_n]
          repeat' first | (exfalso; omega) | (refine ⟨fun _ => ?_, fun _ => ?_⟩) | (refine ⟨by omega, ?_⟩) | (intro _)
          all_goals (refine hK _ ?_; clear hK K)
          all_goals
            refine AW_ret (end_x [1000] [(1000, 1)] (by simp [List.range_succ, lk_cons, lk_nil, upd_app]) (by simp) ?_)
            simp (disch := omega) [wrap64, List.getElem?_eq_getElem, toNat_pred, DtCatalog.cells, DtCSet.cells, DtCSnap.cells, cS, take_map_n]
            all_goals first | (rw [allL_f hc1]; done) | (rw [allL_f hc1]; simp; done) | (rw [allL_t hc1]; exact ⟨rfl, rfl⟩) | trace_state
      · try simp [decB_true, decB_false, eqB_true, eqB_false] at hc1
        all_goals
          refine AW_skip ?_
          refine AW_id ?_
          refine AW_x rfl rfl fun K hK => ?_
          simp (disch := omega) [wrap64, List.getElem?_eq_getElem, toNat_pred, DtCatalog.cells, DtCSet.cells, DtCSnap.cells, cS, take_map_n]
          repeat' first | (exfalso; omega) | (refine ⟨fun _ => ?_, fun _ => ?_⟩) | (refine ⟨by omega, ?_⟩) | (intro _)
          all_goals (refine hK _ ?_; clear hK K)
          all_goals
            refine AW_seq ?_
            refine AW_x rfl rfl fun K hK => ?_
            simp (disch := omega) [wrap64, List.getElem?_eq_getElem, toNat_pred, DtCatalog.cells, DtCSet.cells, DtCSnap.cells, cS, take_map_n]
            repeat' first | (exfalso; omega) | (refine ⟨fun _ => ?_, fun _ => ?_⟩) | (refine ⟨by omega, ?_⟩) | (intro _)
            all_goals (refine hK _ ?_; clear hK K)
            all_goals
              refine AW_block ?_
              refine AW_loopS (fun mM sS => ∃ (i : Nat) (bcc : List (List UInt8)), mM = c.fSets.length - i ∧ (i ≤ c.fSets.length ∧ bcc = seC (c.fSets.take i)) ∧ sS = { env := lkE [(3, .arr 192 0 bcc.length), (13, .sl 2 (c.fSets.map DtCSet.cells)), (14, (.g (.int .i64 ((c.fSets.length : Nat))))), (15, (.g (.int .i64 ((i : Nat)))))], ob := lk [(192, .flat 1 (bcc.map cS))] }) ?_ ?_
              · refine ⟨_, LeS.kx [(192, 192)] [(3, .arr 192 0 ([]).length), (13, .sl 2 (c.fSets.map DtCSet.cells)), (14, (.g (.int .i64 ((c.fSets.length : Nat))))), (15, (.g (.int .i64 (((0) : Nat)))))] [(192, .flat 1 (([]).map cS))] (by simp [KpR, renV2, renV, upd_app, lkE_app, lk_cons, lk_nil, DtCatalog.cells, DtCSet.cells]; try rfl) (by simp [KpOX, renO, plO, cvO, renV, pl1, lk_cons, lk_nil, upd_app, DtCatalog.cells, DtCSet.cells]; try rfl) (by rfl) (by simp) (by simp) (by rfl) (by simp [formsX, List.range_succ, lk_cons, lk_nil]), _, 0, [], rfl, ?_, rfl⟩
                · simp [seC]
              · rintro mM sS ⟨i, bcc, rfl, ⟨hi, hbcc⟩, rfl⟩
                have hb3 := pre_len3 c hs i
                refine AW_x rfl rfl fun K hK => ?_
                simp (disch := omega) [wrap64, List.getElem?_eq_getElem, toNat_pred, DtCatalog.cells, DtCSet.cells, DtCSnap.cells, cS, take_map_n]
                repeat' first | (exfalso; omega) | (refine ⟨fun _ => ?_, fun _ => ?_⟩) | (refine ⟨by omega, ?_⟩) | (intro _)
                all_goals (refine hK _ ?_; clear hK K)
                all_goals
                  refine AW_seq ?_
                  refine AW_cond rfl (fun hc2 => ?_) (fun hc2 => ?_)
                  · try simp [decB_true, decB_false, eqB_true, eqB_false] at hc2
                    all_goals
                      have hl2' := hl2 i (by omega)
                      have hst := seC_take c.fSets i (by omega)
                      refine AW_skip ?_
                      refine AW_id ?_
                      refine AW_seq ?_
                      refine AW_block ?_
                      refine AW_x rfl rfl fun K hK => ?_
                      simp (disch := omega) [wrap64, List.getElem?_eq_getElem, toNat_pred, DtCatalog.cells, DtCSet.cells, DtCSnap.cells, cS, take_map_n]
                      repeat' first | (exfalso; omega) | (refine ⟨fun _ => ?_, fun _ => ?_⟩) | (refine ⟨by omega, ?_⟩) | (intro _)
                      all_goals (refine hK _ ?_; clear hK K)
                      all_goals
                        refine AW_x rfl rfl fun K hK => ?_
                        simp (disch := omega) [wrap64, List.getElem?_eq_getElem, toNat_pred, DtCatalog.cells, DtCSet.cells, DtCSnap.cells, cS, take_map_n]
                        repeat' first | (exfalso; omega) | (refine ⟨fun _ => ?_, fun _ => ?_⟩) | (refine ⟨by omega, ?_⟩) | (intro _)
                        all_goals (refine hK _ ?_; clear hK K)
                        all_goals
                          refine AW_block ?_
                          refine AW_loopS (fun mM sS => ∃ (k : Nat) (acc : List (List UInt8)), mM = (c.fSets[i]).fSnaps.length - k ∧ (k ≤ (c.fSets[i]).fSnaps.length ∧ acc = seC (c.fSets.take i) ++ snC ((c.fSets[i]).fSnaps.take k)) ∧ sS = { env := lkE [(3, .arr 192 0 acc.length), (13, .sl 2 (c.fSets.map DtCSet.cells)), (14, (.g (.int .i64 ((c.fSets.length : Nat))))), (15, (.g (.int .i64 ((i : Nat))))), (20, .sl 3 ((c.fSets[i]).fSnaps.map DtCSnap.cells)), (21, (.g (.int .i64 (((c.fSets[i]).fSnaps.length : Nat))))), (22, (.g (.int .i64 ((k : Nat)))))], ob := lk [(192, .flat 1 (acc.map cS))] }) ?_ ?_
                          · refine ⟨_, LeS.kx [(192, 192)] [(3, .arr 192 0 (bcc).length), (13, .sl 2 (c.fSets.map DtCSet.cells)), (14, (.g (.int .i64 ((c.fSets.length : Nat))))), (15, (.g (.int .i64 ((i : Nat))))), (20, .sl 3 ((c.fSets[i]).fSnaps.map DtCSnap.cells)), (21, (.g (.int .i64 (((c.fSets[i]).fSnaps.length : Nat))))), (22, (.g (.int .i64 (((0) : Nat)))))] [(192, .flat 1 ((bcc).map cS))] (by simp [KpR, renV2, renV, upd_app, lkE_app, lk_cons, lk_nil, DtCatalog.cells, DtCSet.cells, DtCSnap.cells]; try rfl) (by simp [KpOX, renO, plO, cvO, renV, pl1, lk_cons, lk_nil, upd_app, DtCatalog.cells, DtCSet.cells, DtCSnap.cells]; try rfl) (by rfl) (by simp) (by simp) (by rfl) (by simp [formsX, List.range_succ, lk_cons, lk_nil]), _, 0, bcc, rfl, ?_, rfl⟩
                            · exact ⟨by omega, by rw [hbcc]; simp [snC]⟩
                          · rintro mM sS ⟨k, acc, rfl, ⟨hk, hacc⟩, rfl⟩
                            have hb2 : acc.length ≤ 1048576 := by rw [hacc]; exact pre_len2 c hs i (by omega) k
                            refine AW_x rfl rfl fun K hK => ?_
                            simp (disch := omega) [wrap64, List.getElem?_eq_getElem, toNat_pred, DtCatalog.cells, DtCSet.cells, DtCSnap.cells, cS, take_map_n]
                            repeat' first | (exfalso; omega) | (refine ⟨fun _ => ?_, fun _ => ?_⟩) | (refine ⟨by omega, ?_⟩) | (intro _)
                            all_goals (refine hK _ ?_; clear hK K)
                            all_goals
                              refine AW_seq ?_
                              refine AW_cond rfl (fun hc3 => ?_) (fun hc3 => ?_)
                              · try simp [decB_true, decB_false, eqB_true, eqB_false] at hc3
                                all_goals
                                  have hl3' := hl3 i (by omega) k (by omega)
                                  have hsk := snC_take (c.fSets[i]).fSnaps k (by omega)
                                  refine AW_skip ?_
                                  refine AW_id ?_
                                  refine AW_seq ?_
                                  refine AW_block ?_
                                  refine AW_x rfl rfl fun K hK => ?_
                                  simp (disch := omega) [wrap64, List.getElem?_eq_getElem, toNat_pred, DtCatalog.cells, DtCSet.cells, DtCSnap.cells, cS, take_map_n]
                                  repeat' first | (exfalso; omega) | (refine ⟨fun _ => ?_, fun _ => ?_⟩) | (refine ⟨by omega, ?_⟩) | (intro _)
                                  all_goals (refine hK _ ?_; clear hK K)
                                  all_goals
                                    refine AW_xe rfl rfl fun K hK => ?_
                                    simp (disch := omega) [wrap64, List.getElem?_eq_getElem, toNat_pred, DtCatalog.cells, DtCSet.cells, DtCSnap.cells, cS, take_map_n]
                                    repeat' first | (exfalso; omega) | (refine ⟨fun _ => ?_, fun _ => ?_⟩) | (refine ⟨by omega, ?_⟩) | (intro _)
                                    all_goals (refine hK _ ?_; clear hK K)
                                    all_goals
                                      refine AW_id ?_
                                      refine AW_xe rfl rfl fun K hK => ?_
                                      simp (disch := omega) [wrap64, List.getElem?_eq_getElem, toNat_pred, DtCatalog.cells, DtCSet.cells, DtCSnap.cells, cS, take_map_n]
                                      repeat' first | (exfalso; omega) | (refine ⟨fun _ => ?_, fun _ => ?_⟩) | (refine ⟨by omega, ?_⟩) | (intro _)
                                      all_goals (refine hK _ ?_; clear hK K)
                                      all_goals
                                        refine ⟨_, LeS.kx [(192, 480)] [(3, .arr 192 0 (acc ++ (c.fSets[i]).fSnaps[k].fChunks).length), (13, .sl 2 (c.fSets.map DtCSet.cells)), (14, (.g (.int .i64 ((c.fSets.length : Nat))))), (15, (.g (.int .i64 ((i : Nat))))), (20, .sl 3 ((c.fSets[i]).fSnaps.map DtCSnap.cells)), (21, (.g (.int .i64 (((c.fSets[i]).fSnaps.length : Nat))))), (22, (.g (.int .i64 (((k + 1) : Nat)))))] [(192, .flat 1 ((acc ++ (c.fSets[i]).fSnaps[k].fChunks).map cS))] (by simp [KpR, renV2, renV, upd_app, lkE_app, lk_cons, lk_nil, DtCatalog.cells, DtCSet.cells, DtCSnap.cells]; try rfl) (by simp [KpOX, renO, plO, cvO, renV, pl1, lk_cons, lk_nil, upd_app, DtCatalog.cells, DtCSet.cells, DtCSnap.cells]; try rfl) (by rfl) (by simp) (by simp) (by rfl) (by simp [formsX, List.range_succ, lk_cons, lk_nil]), _, ?_, k + 1, acc ++ (c.fSets[i]).fSnaps[k].fChunks, rfl, ?_, rfl⟩
                                        · omega
                                        · exact ⟨by omega, by rw [hacc, hsk, List.append_assoc]⟩
                              · try simp [decB_true, decB_false, eqB_true, eqB_false] at hc3
                                all_goals
                                  have hk2 : k = (c.fSets[i]).fSnaps.length := by omega
                                  subst hk2
                                  have hfull : acc = seC (c.fSets.take i) ++ snC c.fSets[i].fSnaps := by rw [hacc, List.take_length]
                                  refine AW_exit ?_
                                  refine AW_id ?_
                                  refine AW_xe rfl rfl fun K hK => ?_
                                  simp (disch := omega) [wrap64, List.getElem?_eq_getElem, toNat_pred, DtCatalog.cells, DtCSet.cells, DtCSnap.cells, cS, take_map_n]
                                  repeat' first | (exfalso; omega) | (refine ⟨fun _ => ?_, fun _ => ?_⟩) | (refine ⟨by omega, ?_⟩) | (intro _)
                                  all_goals (refine hK _ ?_; clear hK K)
                                  all_goals
                                    refine ⟨_, LeS.kx [(192, 192)] [(3, .arr 192 0 (acc).length), (13, .sl 2 (c.fSets.map DtCSet.cells)), (14, (.g (.int .i64 ((c.fSets.length : Nat))))), (15, (.g (.int .i64 (((i + 1) : Nat)))))] [(192, .flat 1 ((acc).map cS))] (by simp [KpR, renV2, renV, upd_app, lkE_app, lk_cons, lk_nil, DtCatalog.cells, DtCSet.cells]; try rfl) (by simp [KpOX, renO, plO, cvO, renV, pl1, lk_cons, lk_nil, upd_app, DtCatalog.cells, DtCSet.cells]; try rfl) (by rfl) (by simp) (by simp) (by rfl) (by simp [formsX, List.range_succ, lk_cons, lk_nil]), _, ?_, i + 1, acc, rfl, ?_, rfl⟩
                                    · omega
                                    · exact ⟨by omega, by rw [hst, hfull]⟩
                  · try simp [decB_true, decB_false, eqB_true, eqB_false] at hc2
                    all_goals
                      have hi2 : i = c.fSets.length := by omega
                      subst hi2
                      rw [List.take_length] at hbcc
                      subst hbcc
                      refine AW_exit ?_
                      refine AW_id ?_
                      refine AW_x rfl rfl fun K hK => ?_
                      simp (disch := omega) [wrap64, List.getElem?_eq_getElem, toNat_pred, DtCatalog.cells, DtCSet.cells, DtCSnap.cells, cS, take_map_n]
                      repeat' first | (exfalso; omega) | (refine XKd_x [192] false [] (sortX (seC c.fSets) (by omega)) ?_ ?_ ?_; (focus (simp [List.range_succ, nmC]; done)); (focus (simp (disch := omega) [wrap64, List.getElem?_eq_getElem, toNat_pred, DtCatalog.cells, DtCSet.cells, DtCSnap.cells, cS, take_map_n, take_map_n]; done)); simp (disch := omega) [wrap64, List.getElem?_eq_getElem, toNat_pred, DtCatalog.cells, DtCSet.cells, DtCSnap.cells, cS, take_map_n]) | (refine ⟨fun _ => ?_, fun _ => ?_⟩) | (refine ⟨by omega, ?_⟩) | (intro _)
                      all_goals (refine hK _ ?_; clear hK K)
                      all_goals
                        refine AW_x rfl rfl fun K hK => ?_
                        simp (disch := omega) [wrap64, List.getElem?_eq_getElem, toNat_pred, DtCatalog.cells, DtCSet.cells, DtCSnap.cells, cS, take_map_n]
                        repeat' first | (exfalso; omega) | (refine XKd_x [192] false [] (compactS (seC c.fSets) (by omega)) ?_ ?_ ?_; (focus (simp [List.range_succ, nmC]; done)); (focus (simp (disch := omega) [wrap64, List.getElem?_eq_getElem, toNat_pred, DtCatalog.cells, DtCSet.cells, DtCSnap.cells, cS, take_map_n, take_map_n]; done)); simp (disch := omega) [wrap64, List.getElem?_eq_getElem, toNat_pred, DtCatalog.cells, DtCSet.cells, DtCSnap.cells, cS, take_map_n]) | (refine ⟨fun _ => ?_, fun _ => ?_⟩) | (refine ⟨by omega, ?_⟩) | (intro _)
                        all_goals (refine hK _ ?_; clear hK K)
                        all_goals
                          refine AW_ret (end_x [192] [] (by simp [List.range_succ, lk_cons, lk_nil, upd_app]) (by simp) ?_)
                          simp (disch := omega) [wrap64, List.getElem?_eq_getElem, toNat_pred, DtCatalog.cells, DtCSet.cells, DtCSnap.cells, cS, take_map_n]
                          all_goals first | (rw [allL_f hc1]; done) | (rw [allL_f hc1]; simp; done) | (rw [allL_t hc1]; exact ⟨rfl, rfl⟩) | trace_state
theorem all_out {c : DtCatalog} {i : Nat} {bcc : List (List UInt8)} (hb : bcc = (seC (c.fSets.take i)).foldl putS []) (hcp : i = 0 ∨ CatP c) (h : ¬ CatP c ∨ c.fSets.length ≤ i) : allL c = bcc := by
  by_cases hp : CatP c
  · have h2 : c.fSets.length ≤ i := by rcases h with h | h; exact absurd hp h; exact h
    rw [allL_t hp, hb, List.take_of_length_le h2, foldS_set]
  · have h0 : i = 0 := by rcases hcp with h | h; exact h; exact absurd h hp
    subst h0
    rw [allL_f hp, hb]; rfl
theorem specAll (c : DtCatalog) (hs : DtCatalog.sz c ≤ 1048576) : XCall Try.prog 8 [.agg (DtCatalog.cells c)] [] (.arr 16 0 (allL c).length) [] [.own 1 ((allL c).map cS)] := by
  have ⟨hl, hl2, hl3⟩ := catSz c hs
  have hsl := pre_len3 c hs c.fSets.length
  rw [List.take_length] at hsl
  refine xcall_of_walk Try.func8 (by rfl) (by rfl) (by rw [Try.ntmps8]; exact Nat.le_of_ble_eq_true rfl) rfl (by simp) rfl rfl ?_
  rw [Try.ntmps8]
  refine AW_x0   ?_
  refine AW_k [(0, _)] ⟨rfl, trivial⟩ ?_
  refine AW_x rfl rfl fun K hK => ?_
  simp (disch := omega) [wrap64, List.getElem?_eq_getElem, toNat_pred, DtCatalog.cells, DtCSet.cells, DtCSnap.cells, cS, take_map_n]
  repeat' first | (exfalso; omega) | (refine ⟨fun _ => ?_, fun _ => ?_⟩) | (refine ⟨by omega, ?_⟩) | (intro _)
  all_goals (refine hK _ ?_; clear hK K)
  all_goals
    refine AW_x rfl rfl fun K hK => ?_
    simp (disch := omega) [wrap64, List.getElem?_eq_getElem, toNat_pred, DtCatalog.cells, DtCSet.cells, DtCSnap.cells, cS, take_map_n]
    repeat' first | (exfalso; omega) | (refine ⟨fun _ => ?_, fun _ => ?_⟩) | (refine ⟨by omega, ?_⟩) | (intro _)
    all_goals (refine hK _ ?_; clear hK K)
    all_goals
      refine AW_seq ?_
      refine AW_x rfl rfl fun K hK => ?_
      simp (disch := omega) [wrap64, List.getElem?_eq_getElem, toNat_pred, DtCatalog.cells, DtCSet.cells, DtCSnap.cells, cS, take_map_n]
      repeat' first | (exfalso; omega) | (refine ⟨fun _ => ?_, fun _ => ?_⟩) | (refine ⟨by omega, ?_⟩) | (intro _)
      all_goals (refine hK _ ?_; clear hK K)
      all_goals
        refine AW_block ?_
        refine AW_loopS (fun mM sS => ∃ (i : Nat) (bcc : List (List UInt8)), mM = c.fSets.length - i ∧ (i ≤ c.fSets.length ∧ bcc = (seC (c.fSets.take i)).foldl putS [] ∧ (i = 0 ∨ CatP c)) ∧ sS = { env := lkE [(1, .ptr 32 0), (3, .arr 128 0 bcc.length), (4, (.g (.int .i64 ((i : Nat)))))], ob := lk [(32, .cells (DtCatalog.cells c)), (128, .own 1 (bcc.map cS))] }) ?_ ?_
        · refine ⟨_, LeS.kx [(32, 32), (128, 128)] [(1, .ptr 32 0), (3, .arr 128 0 ([]).length), (4, (.g (.int .i64 (((0) : Nat)))))] [(32, .cells (DtCatalog.cells c)), (128, .own 1 (([]).map cS))] (by simp [KpR, renV2, renV, upd_app, lkE_app, lk_cons, lk_nil, DtCatalog.cells, DtCSet.cells, scR_rep, scR]; try rfl) (by simp [KpOX, renO, plO, cvO, renV, pl1, lk_cons, lk_nil, upd_app, DtCatalog.cells, DtCSet.cells, scR_rep, scR]; try rfl) (by rfl) (by simp) (by simp) (by rfl) (by simp [formsX, List.range_succ, lk_cons, lk_nil]), _, 0, [], rfl, ?_, rfl⟩
          · simp [seC]
        · rintro mM sS ⟨i, bcc, rfl, ⟨hi, hbcc, hcp⟩, rfl⟩
          have hb3 := pre_len3 c hs i
          refine AW_seq ?_
          refine AW_x rfl rfl fun K hK => ?_
          simp (disch := omega) [wrap64, List.getElem?_eq_getElem, toNat_pred, DtCatalog.cells, DtCSet.cells, DtCSnap.cells, cS, take_map_n]
          repeat' first | (exfalso; omega) | (refine XKd_v (am2s_cons (am2_agg rfl) am2s_nil) (specCatOk _ (by omega)) rfl ?_; simp (disch := omega) [wrap64, List.getElem?_eq_getElem, toNat_pred, DtCatalog.cells, DtCSet.cells, DtCSnap.cells, cS, take_map_n]) | (refine XKd_p (specCatOk _ (by omega)) (by rfl) ?_ ?_; (focus (simp (disch := omega) [wrap64, List.getElem?_eq_getElem, toNat_pred, DtCatalog.cells, DtCSet.cells, DtCSnap.cells, cS, take_map_n, take_map_n]; done)); simp (disch := omega) [wrap64, List.getElem?_eq_getElem, toNat_pred, DtCatalog.cells, DtCSet.cells, DtCSnap.cells, cS, take_map_n]) | (refine ⟨fun _ => ?_, fun _ => ?_⟩) | (refine ⟨by omega, ?_⟩) | (intro _)
          all_goals (refine hK _ ?_; clear hK K)
          all_goals
            refine AW_cond rfl (fun hc4 => ?_) (fun hc4 => ?_)
            · try simp [decB_true, decB_false, eqB_true, eqB_false] at hc4
              all_goals
                have hl2' := hl2 i (by omega)
                have hst := seC_take c.fSets i (by omega)
                refine AW_skip ?_
                refine AW_id ?_
                refine AW_seq ?_
                refine AW_block ?_
                refine AW_x rfl rfl fun K hK => ?_
                simp (disch := omega) [wrap64, List.getElem?_eq_getElem, toNat_pred, DtCatalog.cells, DtCSet.cells, DtCSnap.cells, cS, take_map_n]
                repeat' first | (exfalso; omega) | (refine ⟨fun _ => ?_, fun _ => ?_⟩) | (refine ⟨by omega, ?_⟩) | (intro _)
                all_goals (refine hK _ ?_; clear hK K)
                all_goals
                  refine AW_block ?_
                  refine AW_loopS (fun mM sS => ∃ (k : Nat) (acc : List (List UInt8)), mM = (c.fSets[i]).fSnaps.length - k ∧ (k ≤ (c.fSets[i]).fSnaps.length ∧ acc = (seC (c.fSets.take i) ++ snC ((c.fSets[i]).fSnaps.take k)).foldl putS []) ∧ sS = { env := lkE [(1, .ptr 32 0), (3, .arr 128 0 acc.length), (4, (.g (.int .i64 ((i : Nat))))), (5, (.g (.int .i64 ((k : Nat)))))], ob := lk [(32, .cells (DtCatalog.cells c)), (128, .own 1 (acc.map cS))] }) ?_ ?_
                  · refine ⟨_, LeS.kx [(32, 32), (128, 128)] [(1, .ptr 32 0), (3, .arr 128 0 (bcc).length), (4, (.g (.int .i64 ((i : Nat))))), (5, (.g (.int .i64 (((0) : Nat)))))] [(32, .cells (DtCatalog.cells c)), (128, .own 1 ((bcc).map cS))] (by simp [KpR, renV2, renV, upd_app, lkE_app, lk_cons, lk_nil, DtCatalog.cells, DtCSet.cells, DtCSnap.cells]; try rfl) (by simp [KpOX, renO, plO, cvO, renV, pl1, lk_cons, lk_nil, upd_app, DtCatalog.cells, DtCSet.cells, DtCSnap.cells]; try rfl) (by rfl) (by simp) (by simp) (by rfl) (by simp [formsX, List.range_succ, lk_cons, lk_nil]), _, 0, bcc, rfl, ?_, rfl⟩
                    · exact ⟨by omega, by rw [hbcc]; simp [snC]⟩
                  · rintro mM sS ⟨k, acc, rfl, ⟨hk, hacc⟩, rfl⟩
                    refine AW_seq ?_
                    refine AW_x rfl rfl fun K hK => ?_
                    simp (disch := omega) [wrap64, List.getElem?_eq_getElem, toNat_pred, DtCatalog.cells, DtCSet.cells, DtCSnap.cells, cS, take_map_n]
                    repeat' first | (exfalso; omega) | (refine ⟨fun _ => ?_, fun _ => ?_⟩) | (refine ⟨by omega, ?_⟩) | (intro _)
                    all_goals (refine hK _ ?_; clear hK K)
                    all_goals
                      refine AW_cond rfl (fun hc5 => ?_) (fun hc5 => ?_)
                      · try simp [decB_true, decB_false, eqB_true, eqB_false] at hc5
                        all_goals
                          have hl3' := hl3 i (by omega) k (by omega)
                          have hsk := snC_take (c.fSets[i]).fSnaps k (by omega)
                          refine AW_skip ?_
                          refine AW_id ?_
                          refine AW_seq ?_
                          refine AW_block ?_
                          refine AW_x rfl rfl fun K hK => ?_
                          simp (disch := omega) [wrap64, List.getElem?_eq_getElem, toNat_pred, DtCatalog.cells, DtCSet.cells, DtCSnap.cells, cS, take_map_n]
                          repeat' first | (exfalso; omega) | (refine ⟨fun _ => ?_, fun _ => ?_⟩) | (refine ⟨by omega, ?_⟩) | (intro _)
                          all_goals (refine hK _ ?_; clear hK K)
                          all_goals
                            refine AW_block ?_
                            refine AW_loopS (fun mM sS => ∃ (j : Nat) (ecc : List (List UInt8)), mM = ((c.fSets[i]).fSnaps[k]).fChunks.length - j ∧ (j ≤ ((c.fSets[i]).fSnaps[k]).fChunks.length ∧ ecc = (seC (c.fSets.take i) ++ snC ((c.fSets[i]).fSnaps.take k) ++ ((c.fSets[i]).fSnaps[k]).fChunks.take j).foldl putS []) ∧ sS = { env := lkE [(1, .ptr 32 0), (3, .arr 128 0 ecc.length), (4, (.g (.int .i64 ((i : Nat))))), (5, (.g (.int .i64 ((k : Nat))))), (6, (.g (.int .i64 ((j : Nat)))))], ob := lk [(32, .cells (DtCatalog.cells c)), (128, .own 1 (ecc.map cS))] }) ?_ ?_
                            · refine ⟨_, LeS.kx [(32, 32), (128, 128)] [(1, .ptr 32 0), (3, .arr 128 0 (acc).length), (4, (.g (.int .i64 ((i : Nat))))), (5, (.g (.int .i64 ((k : Nat))))), (6, (.g (.int .i64 (((0) : Nat)))))] [(32, .cells (DtCatalog.cells c)), (128, .own 1 ((acc).map cS))] (by simp [KpR, renV2, renV, upd_app, lkE_app, lk_cons, lk_nil, DtCatalog.cells, DtCSet.cells, DtCSnap.cells]; try rfl) (by simp [KpOX, renO, plO, cvO, renV, pl1, lk_cons, lk_nil, upd_app, DtCatalog.cells, DtCSet.cells, DtCSnap.cells]; try rfl) (by rfl) (by simp) (by simp) (by rfl) (by simp [formsX, List.range_succ, lk_cons, lk_nil]), _, 0, acc, rfl, ?_, rfl⟩
                              · exact ⟨by omega, by rw [hacc]; simp⟩
                            · rintro mM sS ⟨j, ecc, rfl, ⟨hj, hecc⟩, rfl⟩
                              have hb2 : ecc.length ≤ 1048576 := by rw [hecc]; have h1 := foldS_len (seC (c.fSets.take i) ++ snC ((c.fSets[i]).fSnaps.take k) ++ ((c.fSets[i]).fSnaps[k]).fChunks.take j) []; have h2 := pre_len c hs i (by omega) k (by omega) j; simp only [List.length_nil] at h1; omega
                              refine AW_seq ?_
                              refine AW_x rfl rfl fun K hK => ?_
                              simp (disch := omega) [wrap64, List.getElem?_eq_getElem, toNat_pred, DtCatalog.cells, DtCSet.cells, DtCSnap.cells, cS, take_map_n]
                              repeat' first | (exfalso; omega) | (refine ⟨fun _ => ?_, fun _ => ?_⟩) | (refine ⟨by omega, ?_⟩) | (intro _)
                              all_goals (refine hK _ ?_; clear hK K)
                              all_goals
                                refine AW_cond rfl (fun hc6 => ?_) (fun hc6 => ?_)
                                · try simp [decB_true, decB_false, eqB_true, eqB_false] at hc6
                                  all_goals
                                    have hsj : ((c.fSets[i]).fSnaps[k]).fChunks.take (j + 1) = ((c.fSets[i]).fSnaps[k]).fChunks.take j ++ [((c.fSets[i]).fSnaps[k]).fChunks[j]] := List.take_succ_eq_append_getElem (by omega)
                                    refine AW_skip ?_
                                    refine AW_id ?_
                                    refine AW_seq ?_
                                    refine AW_block ?_
                                    refine AW_xe rfl rfl fun K hK => ?_
                                    simp (disch := omega) [wrap64, List.getElem?_eq_getElem, toNat_pred, DtCatalog.cells, DtCSet.cells, DtCSnap.cells, cS, take_map_n]
                                    repeat' first | (exfalso; omega) | (refine XKd_x [] true [] (putX ecc ((c.fSets[i]).fSnaps[k]).fChunks[j] (by omega)) ?_ ?_ ?_; (focus (simp [List.range_succ, nmC]; done)); (focus (simp (disch := omega) [wrap64, List.getElem?_eq_getElem, toNat_pred, DtCatalog.cells, DtCSet.cells, DtCSnap.cells, cS, take_map_n, take_map_n]; done)); simp (disch := omega) [wrap64, List.getElem?_eq_getElem, toNat_pred, DtCatalog.cells, DtCSet.cells, DtCSnap.cells, cS, take_map_n]) | (refine ⟨fun _ => ?_, fun _ => ?_⟩) | (refine ⟨by omega, ?_⟩) | (intro _)
                                    all_goals (refine hK _ ?_; clear hK K)
                                    all_goals
                                      refine AW_id ?_
                                      refine AW_xe rfl rfl fun K hK => ?_
                                      simp (disch := omega) [wrap64, List.getElem?_eq_getElem, toNat_pred, DtCatalog.cells, DtCSet.cells, DtCSnap.cells, cS, take_map_n]
                                      repeat' first | (exfalso; omega) | (refine ⟨fun _ => ?_, fun _ => ?_⟩) | (refine ⟨by omega, ?_⟩) | (intro _)
                                      all_goals (refine hK _ ?_; clear hK K)
                                      all_goals
                                        refine ⟨_, LeS.kx [(32, 32), (128, 960)] [(1, .ptr 32 0), (3, .arr 128 0 (putS ecc ((c.fSets[i]).fSnaps[k]).fChunks[j]).length), (4, (.g (.int .i64 ((i : Nat))))), (5, (.g (.int .i64 ((k : Nat))))), (6, (.g (.int .i64 (((j + 1) : Nat)))))] [(32, .cells (DtCatalog.cells c)), (128, .own 1 ((putS ecc ((c.fSets[i]).fSnaps[k]).fChunks[j]).map cS))] (by simp [KpR, renV2, renV, upd_app, lkE_app, lk_cons, lk_nil, DtCatalog.cells, DtCSet.cells, DtCSnap.cells]; try rfl) (by simp [KpOX, renO, plO, cvO, renV, pl1, lk_cons, lk_nil, upd_app, DtCatalog.cells, DtCSet.cells, DtCSnap.cells]; try rfl) (by rfl) (by simp) (by simp) (by rfl) (by simp [formsX, List.range_succ, lk_cons, lk_nil]), _, ?_, j + 1, putS ecc ((c.fSets[i]).fSnaps[k]).fChunks[j], rfl, ?_, rfl⟩
                                        · omega
                                        · exact ⟨by omega, by rw [hsj, ← List.append_assoc, List.foldl_append, ← hecc]; rfl⟩
                                · try simp [decB_true, decB_false, eqB_true, eqB_false] at hc6
                                  all_goals
                                    have hj2 : j = ((c.fSets[i]).fSnaps[k]).fChunks.length := by omega
                                    subst hj2
                                    have hful2 : ecc = (seC (c.fSets.take i) ++ snC ((c.fSets[i]).fSnaps.take k) ++ ((c.fSets[i]).fSnaps[k]).fChunks).foldl putS [] := by rw [hecc, List.take_length]
                                    refine AW_exit ?_
                                    refine AW_id ?_
                                    refine AW_xe rfl rfl fun K hK => ?_
                                    simp (disch := omega) [wrap64, List.getElem?_eq_getElem, toNat_pred, DtCatalog.cells, DtCSet.cells, DtCSnap.cells, cS, take_map_n]
                                    repeat' first | (exfalso; omega) | (refine ⟨fun _ => ?_, fun _ => ?_⟩) | (refine ⟨by omega, ?_⟩) | (intro _)
                                    all_goals (refine hK _ ?_; clear hK K)
                                    all_goals
                                      refine ⟨_, LeS.kx [(32, 32), (128, 128)] [(1, .ptr 32 0), (3, .arr 128 0 (ecc).length), (4, (.g (.int .i64 ((i : Nat))))), (5, (.g (.int .i64 (((k + 1) : Nat)))))] [(32, .cells (DtCatalog.cells c)), (128, .own 1 ((ecc).map cS))] (by simp [KpR, renV2, renV, upd_app, lkE_app, lk_cons, lk_nil, DtCatalog.cells, DtCSet.cells, DtCSnap.cells]; try rfl) (by simp [KpOX, renO, plO, cvO, renV, pl1, lk_cons, lk_nil, upd_app, DtCatalog.cells, DtCSet.cells, DtCSnap.cells]; try rfl) (by rfl) (by simp) (by simp) (by rfl) (by simp [formsX, List.range_succ, lk_cons, lk_nil]), _, ?_, k + 1, ecc, rfl, ?_, rfl⟩
                                      · omega
                                      · exact ⟨by omega, by rw [hsk, ← List.append_assoc, hful2]⟩
                      · try simp [decB_true, decB_false, eqB_true, eqB_false] at hc5
                        all_goals
                          have hk2 : k = (c.fSets[i]).fSnaps.length := by omega
                          subst hk2
                          have hfull : acc = (seC (c.fSets.take i) ++ snC c.fSets[i].fSnaps).foldl putS [] := by rw [hacc, List.take_length]
                          refine AW_exit ?_
                          refine AW_id ?_
                          refine AW_xe rfl rfl fun K hK => ?_
                          simp (disch := omega) [wrap64, List.getElem?_eq_getElem, toNat_pred, DtCatalog.cells, DtCSet.cells, DtCSnap.cells, cS, take_map_n]
                          repeat' first | (exfalso; omega) | (refine ⟨fun _ => ?_, fun _ => ?_⟩) | (refine ⟨by omega, ?_⟩) | (intro _)
                          all_goals (refine hK _ ?_; clear hK K)
                          all_goals
                            refine ⟨_, LeS.kx [(32, 32), (128, 128)] [(1, .ptr 32 0), (3, .arr 128 0 (acc).length), (4, (.g (.int .i64 (((i + 1) : Nat)))))] [(32, .cells (DtCatalog.cells c)), (128, .own 1 ((acc).map cS))] (by simp [KpR, renV2, renV, upd_app, lkE_app, lk_cons, lk_nil, DtCatalog.cells, DtCSet.cells, scR_rep, scR]; try rfl) (by simp [KpOX, renO, plO, cvO, renV, pl1, lk_cons, lk_nil, upd_app, DtCatalog.cells, DtCSet.cells, scR_rep, scR]; try rfl) (by rfl) (by simp) (by simp) (by rfl) (by simp [formsX, List.range_succ, lk_cons, lk_nil]), _, ?_, i + 1, acc, rfl, ?_, rfl⟩
                            · omega
                            · exact ⟨by omega, by rw [hst, hfull], .inr (by grind)⟩
            · try simp [decB_true, decB_false, eqB_true, eqB_false] at hc4
              all_goals
                refine AW_exit ?_
                refine AW_id ?_
                refine AW_x rfl rfl fun K hK => ?_
                simp (disch := omega) [wrap64, List.getElem?_eq_getElem, toNat_pred, DtCatalog.cells, DtCSet.cells, DtCSnap.cells, cS, take_map_n]
                repeat' first | (exfalso; omega) | (refine ⟨fun _ => ?_, fun _ => ?_⟩) | (refine ⟨by omega, ?_⟩) | (intro _)
                all_goals (refine hK _ ?_; clear hK K)
                all_goals
                  refine AW_ret (end_x [128] [] (by simp [List.range_succ, lk_cons, lk_nil, upd_app]) (by simp) ?_)
                  simp (disch := omega) [wrap64, List.getElem?_eq_getElem, toNat_pred, DtCatalog.cells, DtCSet.cells, DtCSnap.cells, cS, take_map_n]
                  all_goals first | (rw [all_out hbcc hcp (.inl (by assumption))]; exact ⟨rfl, rfl⟩) | (rw [all_out hbcc hcp (.inr (by omega))]; exact ⟨rfl, rfl⟩) | trace_state
end Go.Proofs.Ytcedomdpbgjbpaa.Vs
