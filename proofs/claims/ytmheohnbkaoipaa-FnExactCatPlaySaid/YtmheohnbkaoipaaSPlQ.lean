import Derived.Test.YtmheohnbkaoipaaSCpQ
open Go Go.Proofs Go.Proofs.Ytmheohnbkaoipaa.Vs
namespace Go.Proofs.Ytmheohnbkaoipaa.Vs
set_option linter.all false
set_option linter.unusedSimpArgs false
set_option linter.unusedVariables false
set_option maxRecDepth 100000
set_option maxHeartbeats 1000000
theorem chunks_sz (m : DtCmd) (hm : DtCmd.sz m ≤ 1048576) : m.fChunks.length ≤ 1048576 := by
  have := len_szS lenZ_nonneg m.fChunks
  simp only [DtCmd.sz] at hm
  omega
theorem implCatC (c : DtCatalog) (m : DtCmd) (hs : DtCatalog.sz c ≤ 1048576) (hm : DtCmd.sz m ≤ 1048576) : XCall Try.prog 13 [.agg (DtCatalog.cells c), .agg (DtCmd.cells m)] [] (.tup [.agg [.arr 16 0 (catC c m).fSets.length], .s (catR c m)]) [] [.own 2 ((catC c m).fSets.map DtCSet.cells)] := implCatDo c m hs hm (chunks_sz m hm)
theorem specCatC (c : DtCatalog) (m : DtCmd) (hs : DtCatalog.sz c ≤ 1048576) (hm : DtCmd.sz m ≤ 1048576) : XCall Try.prog 10 [.agg (DtCatalog.cells c), .agg (DtCmd.cells m)] [] (.tup [.agg [.arr 16 0 (catC c m).fSets.length], .s (catR c m)]) [] [.own 2 ((catC c m).fSets.map DtCSet.cells)] := specCatDo c m hs hm (chunks_sz m hm)
noncomputable def playS (l : List DtCmd) : DtCatalog × List (List UInt8) := l.foldl (fun x m => (catC x.1 m, x.2 ++ [catR x.1 m])) ({ fSets := [] }, [])
noncomputable def playC (l : List DtCmd) : DtCatalog := (playS l).1
noncomputable def playR (l : List DtCmd) : List (List UInt8) := (playS l).2
theorem play_take (l : List DtCmd) (i : Nat) (h : i < l.length) : playC (l.take (i + 1)) = catC (playC (l.take i)) l[i] ∧ playR (l.take (i + 1)) = playR (l.take i) ++ [catR (playC (l.take i)) l[i]] := by
  unfold playC playR playS
  rw [List.take_succ_eq_append_getElem h, List.foldl_append]
  exact ⟨rfl, rfl⟩
theorem playC_ok (l : List DtCmd) : CatP (playC l) := by
  have key : ∀ (l : List DtCmd) (x : DtCatalog × List (List UInt8)), CatP x.1 → CatP (l.foldl (fun x m => (catC x.1 m, x.2 ++ [catR x.1 m])) x).1 := by
    intro l
    induction l with
    | nil => intro x hx; exact hx
    | cons m l ih => intro x hx; exact ih _ (catP_step x.1 m)
  exact key l _ catP_nil
theorem playC_sz (l : List DtCmd) : DtCatalog.sz (playC l) ≤ 1048576 := by have := catP_sz (playC_ok l); omega
theorem playR_len (l : List DtCmd) : (playR l).length = l.length := by
  have key : ∀ (l : List DtCmd) (x : DtCatalog × List (List UInt8)), (l.foldl (fun x m => (catC x.1 m, x.2 ++ [catR x.1 m])) x).2.length = x.2.length + l.length := by
    intro l
    induction l with
    | nil => intro x; rfl
    | cons m l ih => intro x; rw [List.foldl_cons, ih]; simp; omega
  have := key l ({ fSets := [] }, [])
  unfold playR playS
  rw [this]; simp
theorem playR_lenT (l : List DtCmd) (i : Nat) (h : i ≤ l.length) : (playR (l.take i)).length = i := by rw [playR_len, List.length_take]; omega
theorem cmd_sz (l : List DtCmd) (hs : szS DtCmd.sz l ≤ 1048576) (i : Nat) (h : i < l.length) : DtCmd.sz l[i] ≤ 1048576 := by
  have h1 := sumZ_mem_le DtCmd.sz_nonneg l l[i] (List.getElem_mem _)
  unfold szS at hs; omega
attribute [local simp] DtCatalog.cells DtCmd.cells take_map_n and_assoc scR_cS cS
attribute [-simp] aAppC aAppZ
theorem implPlay (l : List DtCmd) (hs : szS DtCmd.sz l ≤ 1048576) (hn : l.length ≤ 1048576) : XCall Try.prog 22 [.sl 8 (l.map DtCmd.cells)] [] (.tup [.agg [.arr 16 0 (playC l).fSets.length], .arr 17 0 l.length]) [] [.own 2 ((playC l).fSets.map DtCSet.cells), .own 1 ((playR l).map cS)] := by
  refine xcall_of_walk Try.func22 (by rfl) (by rfl) (by rw [Try.ntmps22]; exact Nat.le_of_ble_eq_true rfl) rfl (by simp) rfl rfl ?_
  rw [Try.ntmps22]
  refine AW_x0   ?_
  refine AW_k [(0, _)] ⟨rfl, trivial⟩ ?_
  refine AW_x rfl rfl fun K hK => ?_
  simp (disch := omega)
  repeat' first | (refine ⟨by omega, ?_⟩) | (intro _)
  refine hK _ ?_; clear hK K
  refine AW_x rfl rfl fun K hK => ?_
  simp (disch := omega)
  repeat' first | (refine ⟨by omega, ?_⟩) | (simp (disch := omega)) | (intro _)
  refine hK _ ?_; clear hK K
  refine AW_x rfl rfl fun K hK => ?_
  simp (disch := omega)
  repeat' first | (refine ⟨by omega, ?_⟩) | (simp (disch := omega)) | (intro _)
  refine hK _ ?_; clear hK K
  refine AW_seq ?_
  refine AW_x rfl rfl fun K hK => ?_
  simp (disch := omega)
  repeat' first | (refine ⟨by omega, ?_⟩) | (simp (disch := omega)) | (intro _)
  refine hK _ ?_; clear hK K
  refine AW_block ?_
  refine AW_loopS (fun mM sS => ∃ (i : Nat), mM = l.length - i ∧ (i ≤ l.length) ∧ sS = { env := lkE [(2, .ptr 48 0), (4, .ptr 80 0), (5, .arr 501 0 i), (12, .sl 8 (l.map DtCmd.cells)), (13, (.g (.int .i64 ((l.length : Nat))))), (14, (.g (.int .i64 ((i : Nat)))))], ob := lk [(48, .cells [.g (.slice none 0 0)]), (80, .cells [.arr 500 0 (playC (l.take i)).fSets.length]), (500, .own 2 ((playC (l.take i)).fSets.map DtCSet.cells)), (501, .win 1 ((playR (l.take i)).map cS))] }) ?_ ?_
  · refine ⟨_, LeS.trans (LeS.znc (cs := [.g (.slice none 0 0)]) 500 2 80 0 (by simp [upd_app, lk_cons, lk_nil, lkE_app]) (by simp [upd_app, lk_cons, lk_nil, lkE_app]) (by rfl)) (LeS.kx [(48, 48), (80, 80), (500, 500), (501, 192)] [(2, .ptr 48 0), (4, .ptr 80 0), (5, .arr 501 0 (0)), (12, .sl 8 (l.map DtCmd.cells)), (13, (.g (.int .i64 ((l.length : Nat))))), (14, (.g (.int .i64 (((0) : Nat)))))] [(48, .cells [.g (.slice none 0 0)]), (80, .cells [.arr 500 0 (playC (l.take (0))).fSets.length]), (500, .own 2 ((playC (l.take (0))).fSets.map DtCSet.cells)), (501, .win 1 ((playR (l.take (0))).map cS))] (by simp [KpR, renV2, renV, upd_app, lkE_app, lk_cons, lk_nil]; first | omega | (rw [htc]; done) | (rw [htc]; rfl) | trace_state) (by simp [KpOX, renO, plO, cvO, renV, pl1, lk_cons, lk_nil, upd_app]; first | rfl | exact ⟨rfl, rfl, rfl⟩ | (rw [htc, htr]; simp [cS]; done) | trace_state) (by rfl) (by simp) (by simp) (by rfl) (by simp [formsX, List.range_succ, lk_cons, lk_nil])), _, 0, rfl, ?_, rfl⟩
    · simp
  · rintro mM sS ⟨i, rfl, hi, rfl⟩
    refine AW_x rfl rfl fun K hK => ?_
    simp (disch := omega)
    repeat' first | (refine ⟨by omega, ?_⟩) | (intro _)
    refine hK _ ?_; clear hK K
    refine AW_seq ?_
    refine AW_cond rfl (fun hc1 => ?_) (fun hc1 => ?_)
    · try simp [decB_true, decB_false, eqB_true, eqB_false] at hc1
      all_goals
       have ⟨htc, htr⟩ := play_take l i (by omega)
       have hrl := playR_lenT l i hi
       refine AW_skip ?_
       refine AW_id ?_
       refine AW_seq ?_
       refine AW_block ?_
       refine AW_x rfl rfl fun K hK => ?_
       simp (disch := omega)
       repeat' first | (exfalso; omega) | (refine ⟨fun _ => ?_, fun _ => ?_⟩) | (refine ⟨by omega, ?_⟩) | (simp (disch := omega)) | (intro _)
       all_goals (refine hK _ ?_; clear hK K)
       all_goals
        refine AW_x rfl rfl fun K hK => ?_
        simp (disch := omega)
        repeat' first | (exfalso; omega) | (refine XKd_x [] true [] (implCatC (playC (l.take i)) l[i] (playC_sz _) (cmd_sz l hs i (by omega))) ?_ ?_ ?_; (focus (simp [List.range_succ, nmC]; done)); (focus (simp (disch := omega) [take_map_n]; done)); simp (disch := omega)) | (refine ⟨by omega, ?_⟩) | (simp (disch := omega)) | (intro _)
        refine hK _ ?_; clear hK K
        refine AW_x rfl rfl fun K hK => ?_
        simp (disch := omega)
        repeat' first | (refine ⟨by omega, ?_⟩) | (simp (disch := omega)) | (intro _)
        refine hK _ ?_; clear hK K
        refine AW_xe rfl rfl fun K hK => ?_
        simp (disch := omega)
        repeat' first | (refine ⟨by omega, ?_⟩) | (simp (disch := omega)) | (intro _)
        refine hK _ ?_; clear hK K
        refine AW_id ?_
        refine AW_xe rfl rfl fun K hK => ?_
        simp (disch := omega)
        repeat' first | (refine ⟨by omega, ?_⟩) | (intro _)
        refine hK _ ?_; clear hK K
        refine ⟨_, LeS.kx [(48, 48), (80, 80), (500, 352), (501, 464)] [(2, .ptr 48 0), (4, .ptr 80 0), (5, .arr 501 0 (i + 1)), (12, .sl 8 (l.map DtCmd.cells)), (13, (.g (.int .i64 ((l.length : Nat))))), (14, (.g (.int .i64 (((i + 1) : Nat)))))] [(48, .cells [.g (.slice none 0 0)]), (80, .cells [.arr 500 0 (playC (l.take (i + 1))).fSets.length]), (500, .own 2 ((playC (l.take (i + 1))).fSets.map DtCSet.cells)), (501, .win 1 ((playR (l.take (i + 1))).map cS))] (by simp [KpR, renV2, renV, upd_app, lkE_app, lk_cons, lk_nil]; first | omega | (rw [htc]; done) | (rw [htc]; rfl) | trace_state) (by simp [KpOX, renO, plO, cvO, renV, pl1, lk_cons, lk_nil, upd_app]; first | rfl | exact ⟨rfl, rfl, rfl⟩ | (rw [htc, htr]; simp [cS]; done) | trace_state) (by rfl) (by simp) (by simp) (by rfl) (by simp [formsX, List.range_succ, lk_cons, lk_nil]), _, ?_, i + 1, rfl, ?_, rfl⟩
        · omega
        · omega
    try simp [decB_true, decB_false, eqB_true, eqB_false] at hc1
    have hil : i = l.length := by omega
    refine AW_exit ?_
    refine AW_id ?_
    refine AW_x rfl rfl fun K hK => ?_
    simp (disch := omega)
    repeat' first | (exfalso; omega) | (refine ⟨fun _ => ?_, fun _ => ?_⟩) | (refine ⟨by omega, ?_⟩) | (simp (disch := omega)) | (intro _)
    all_goals (refine hK _ ?_; clear hK K)
    all_goals
     refine AW_ret (end_x [500, 501] [] (by simp [List.range_succ, lk_cons, lk_nil, upd_app]) (by simp) ?_)
     simp (disch := omega)
     all_goals first | (subst hil; rw [List.take_length]; exact ⟨rfl, rfl, rfl, rfl⟩) | trace_state
theorem specPlay (l : List DtCmd) (hs : szS DtCmd.sz l ≤ 1048576) (hn : l.length ≤ 1048576) : XCall Try.prog 20 [.sl 8 (l.map DtCmd.cells)] [] (.tup [.agg [.arr 16 0 (playC l).fSets.length], .arr 17 0 l.length]) [] [.own 2 ((playC l).fSets.map DtCSet.cells), .own 1 ((playR l).map cS)] := by
  refine xcall_of_walk Try.func20 (by rfl) (by rfl) (by rw [Try.ntmps20]; exact Nat.le_of_ble_eq_true rfl) rfl (by simp) rfl rfl ?_
  rw [Try.ntmps20]
  refine AW_x0   ?_
  refine AW_k [(0, _)] ⟨rfl, trivial⟩ ?_
  refine AW_x rfl rfl fun K hK => ?_
  simp (disch := omega)
  repeat' first | (refine ⟨by omega, ?_⟩) | (intro _)
  refine hK _ ?_; clear hK K
  refine AW_x rfl rfl fun K hK => ?_
  simp (disch := omega)
  repeat' first | (refine ⟨by omega, ?_⟩) | (simp (disch := omega)) | (intro _)
  refine hK _ ?_; clear hK K
  refine AW_x rfl rfl fun K hK => ?_
  simp (disch := omega)
  repeat' first | (refine ⟨by omega, ?_⟩) | (simp (disch := omega)) | (intro _)
  refine hK _ ?_; clear hK K
  refine AW_seq ?_
  refine AW_x rfl rfl fun K hK => ?_
  simp (disch := omega)
  repeat' first | (refine ⟨by omega, ?_⟩) | (intro _)
  refine hK _ ?_; clear hK K
  refine AW_block ?_
  refine AW_loopS (fun mM sS => ∃ (i : Nat), mM = l.length - i ∧ (i ≤ l.length) ∧ sS = { env := lkE [(0, .sl 8 (l.map DtCmd.cells)), (2, .ptr 48 0), (4, .ptr 80 0), (5, .arr 501 0 i), (6, (.g (.int .i64 ((i : Nat)))))], ob := lk [(48, .cells [.g (.slice none 0 0)]), (80, .cells [.arr 500 0 (playC (l.take i)).fSets.length]), (500, .own 2 ((playC (l.take i)).fSets.map DtCSet.cells)), (501, .win 1 ((playR (l.take i)).map cS))] }) ?_ ?_
  · refine ⟨_, LeS.trans (LeS.znc (cs := [.g (.slice none 0 0)]) 500 2 80 0 (by simp [upd_app, lk_cons, lk_nil, lkE_app]) (by simp [upd_app, lk_cons, lk_nil, lkE_app]) (by rfl)) (LeS.kx [(48, 48), (80, 80), (500, 500), (501, 176)] [(0, .sl 8 (l.map DtCmd.cells)), (2, .ptr 48 0), (4, .ptr 80 0), (5, .arr 501 0 (0)), (6, (.g (.int .i64 (((0) : Nat)))))] [(48, .cells [.g (.slice none 0 0)]), (80, .cells [.arr 500 0 (playC (l.take (0))).fSets.length]), (500, .own 2 ((playC (l.take (0))).fSets.map DtCSet.cells)), (501, .win 1 ((playR (l.take (0))).map cS))] (by simp [KpR, renV2, renV, upd_app, lkE_app, lk_cons, lk_nil]; first | omega | (rw [htc]; done) | (rw [htc]; rfl) | trace_state) (by simp [KpOX, renO, plO, cvO, renV, pl1, lk_cons, lk_nil, upd_app]; first | rfl | exact ⟨rfl, rfl, rfl⟩ | (rw [htc, htr]; simp [cS]; done) | trace_state) (by rfl) (by simp) (by simp) (by rfl) (by simp [formsX, List.range_succ, lk_cons, lk_nil])), _, 0, rfl, ?_, rfl⟩
    · simp
  · rintro mM sS ⟨i, rfl, hi, rfl⟩
    refine AW_seq ?_
    refine AW_x rfl rfl fun K hK => ?_
    simp (disch := omega)
    repeat' first | (refine ⟨by omega, ?_⟩) | (simp (disch := omega)) | (intro _)
    refine hK _ ?_; clear hK K
    refine AW_cond rfl (fun hc2 => ?_) (fun hc2 => ?_)
    · try simp [decB_true, decB_false, eqB_true, eqB_false] at hc2
      all_goals
       have ⟨htc, htr⟩ := play_take l i (by omega)
       have hrl := playR_lenT l i hi
       refine AW_skip ?_
       refine AW_id ?_
       refine AW_seq ?_
       refine AW_block ?_
       refine AW_d rfl mix (by kernel_rfl) (by kernel_rfl) fun K hK => ?_
       simp (disch := omega)
       repeat' first | (exfalso; omega) | (refine DKd_y [] true [] (specCatC (playC (l.take i)) l[i] (playC_sz _) (cmd_sz l hs i (by omega))) ?_ (fun st' hst => ?_) ?_; (focus (simp [List.range_succ, nmC]; done)); (focus (simp (disch := omega) [nmC, List.range_succ] at hst; simp (disch := omega) [hst, take_map_n, nmC, List.range_succ]; done)); simp (disch := omega)) | (refine ⟨fun _ => ?_, fun _ => ?_⟩) | (refine ⟨by omega, ?_⟩) | (simp (disch := omega)) | (intro _)
       all_goals (refine hK _ _ (by kernel_rfl) ?_; clear hK K)
       all_goals
        refine AW_x rfl rfl fun K hK => ?_
        simp (disch := omega)
        repeat' first | (refine ⟨by omega, ?_⟩) | (simp (disch := omega)) | (intro _)
        refine hK _ ?_; clear hK K
        refine AW_xe rfl rfl fun K hK => ?_
        simp (disch := omega)
        repeat' first | (refine ⟨by omega, ?_⟩) | (simp (disch := omega)) | (intro _)
        refine hK _ ?_; clear hK K
        refine AW_id ?_
        refine AW_xe rfl rfl fun K hK => ?_
        simp (disch := omega)
        repeat' first | (refine ⟨by omega, ?_⟩) | (intro _)
        refine hK _ ?_; clear hK K
        refine ⟨_, LeS.kx [(48, 48), (80, 80), (500, 384), (501, 496)] [(0, .sl 8 (l.map DtCmd.cells)), (2, .ptr 48 0), (4, .ptr 80 0), (5, .arr 501 0 (i + 1)), (6, (.g (.int .i64 (((i + 1) : Nat)))))] [(48, .cells [.g (.slice none 0 0)]), (80, .cells [.arr 500 0 (playC (l.take (i + 1))).fSets.length]), (500, .own 2 ((playC (l.take (i + 1))).fSets.map DtCSet.cells)), (501, .win 1 ((playR (l.take (i + 1))).map cS))] (by simp [KpR, renV2, renV, upd_app, lkE_app, lk_cons, lk_nil]; first | omega | (rw [htc]; done) | (rw [htc]; rfl) | trace_state) (by simp [KpOX, renO, plO, cvO, renV, pl1, lk_cons, lk_nil, upd_app]; first | rfl | exact ⟨rfl, rfl, rfl⟩ | (rw [htc, htr]; simp [cS]; done) | trace_state) (by rfl) (by simp) (by simp) (by rfl) (by simp [formsX, List.range_succ, lk_cons, lk_nil]), _, ?_, i + 1, rfl, ?_, rfl⟩
        · omega
        · omega
    try simp [decB_true, decB_false, eqB_true, eqB_false] at hc2
    have hil : i = l.length := by omega
    refine AW_exit ?_
    refine AW_id ?_
    refine AW_x rfl rfl fun K hK => ?_
    simp (disch := omega)
    repeat' first | (exfalso; omega) | (refine ⟨fun _ => ?_, fun _ => ?_⟩) | (refine ⟨by omega, ?_⟩) | (simp (disch := omega)) | (intro _)
    all_goals (refine hK _ ?_; clear hK K)
    all_goals
     refine AW_ret (end_x [500, 501] [] (by simp [List.range_succ, lk_cons, lk_nil, upd_app]) (by simp) ?_)
     simp (disch := omega)
     all_goals first | (subst hil; rw [List.take_length]; exact ⟨rfl, rfl, rfl, rfl⟩) | trace_state
end Go.Proofs.Ytmheohnbkaoipaa.Vs
