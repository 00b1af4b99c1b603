import Derived.Test.YtcedomdpbgjbpaaSE7
open Go Go.Proofs Go.Proofs.Ytcedomdpbgjbpaa.Vs
namespace Go.Proofs.Ytcedomdpbgjbpaa.Vs
set_option linter.unusedVariables false
set_option linter.unusedSimpArgs false
set_option linter.unusedSectionVars false
set_option linter.unnecessarySimpa false
set_option linter.all false
set_option linter.unusedSimpArgs false
set_option linter.unusedVariables false
set_option maxRecDepth 100000
abbrev UpV := DtUp × (Nat → Value)
def upV (z : UpV) : List AV := ux z.2 0 (DtUp.cells z.1)
def upP (z : UpV) : List (AV × Value) := pkc z.2 0 (DtUp.cells z.1)
theorem upV_c (z : UpV) : upV z = [.s z.1.fChunk, .g (z.2 1), .g (.int .i64 z.1.fEpoch)] := rfl
theorem scR_upV (zs : List UpV) : scR (zs.map upV) = true := scR_map _ (fun _ => rfl) zs
theorem AW_splitUp {nt : Nat} {fs : List Nat} {Q : AExit → St → Prop} {st : St} {c : Code} (n pk : Nat) {us : List DtUp} (hob : st.ob n = some (.own 3 (us.map DtUp.cells))) (hpk : st.ob pk = none)
    (h : ∀ zs : List UpV, zs.map (·.1) = us → (∀ z ∈ zs, ∀ j, (z.2 j).oneCell' = true) → AW Try.prog nt fs c Q { st with ob := upd (upd st.ob pk (some (.park (zs.flatMap upP)))) n (some (.win 3 (zs.map upV))) }) : AW Try.prog nt fs c Q st :=
  AW_split DtUp.cells n pk hob hpk h
theorem joinUp {fs : List Nat} {st : St} (n pk : Nat) {ks zs : List UpV} (hn : st.ob n = some (.win 3 (ks.map upV))) (hpk : st.ob pk = some (.park (zs.flatMap upP))) (hs : ks.Sublist zs) : LeS fs st { st with ob := upd (upd st.ob pk (some .dead)) n (some (.own 3 (ks.map fun z => DtUp.cells z.1))) } :=
  LeS.join DtUp.cells (fun _ => rfl) n pk hn hpk hs
noncomputable def inM (c : DtCatalog) (u : DtUps) (x : DtUp) : Bool := decB (x.fChunk ∈ markedL c u)
noncomputable def swpU (c : DtCatalog) (u : DtUps) : DtUps := bif decB (UpsOkP u) then (bif decB (CatP c) then { fEpoch := u.fEpoch, fList := u.fList.filter (inM c u) } else u) else { fEpoch := 0, fList := [] }
noncomputable def swpG (c : DtCatalog) (u : DtUps) : List (List UInt8) := bif decB (UpsOkP u) && decB (CatP c) then (u.fList.filter (fun x => !inM c u x)).map (·.fChunk) else []
theorem swp_f {c : DtCatalog} {u : DtUps} (h : ¬ UpsOkP u) : swpU c u = { fEpoch := 0, fList := [] } ∧ swpG c u = [] := by unfold swpU swpG; rw [decB_f h]; exact ⟨rfl, rfl⟩
theorem swp_c {c : DtCatalog} {u : DtUps} (h : UpsOkP u) (k : ¬ CatP c) : swpU c u = u ∧ swpG c u = [] := by unfold swpU swpG; rw [decB_t h, decB_f k]; exact ⟨rfl, rfl⟩
theorem swp_t {c : DtCatalog} {u : DtUps} (h : UpsOkP u) (k : CatP c) : swpU c u = { fEpoch := u.fEpoch, fList := u.fList.filter (inM c u) } ∧ swpG c u = (u.fList.filter (fun x => !inM c u x)).map (·.fChunk) := by unfold swpU swpG; rw [decB_t h, decB_t k]; exact ⟨rfl, rfl⟩
theorem filt_take {α : Type} (p : α → Bool) (l : List α) (i : Nat) (h : i < l.length) : (l.take (i + 1)).filter p = (l.take i).filter p ++ (if p l[i] = true then [l[i]] else []) := by
  rw [List.take_succ_eq_append_getElem h, List.filter_append]
  congr 1
  by_cases hp : p l[i] = true <;> simp [hp]
theorem filt_fst (p : DtUp → Bool) (zs : List UpV) : (zs.filter fun z => p z.1).map (fun z => DtUp.cells z.1) = ((zs.map (·.1)).filter p).map DtUp.cells := by
  rw [List.filter_map, List.map_map]; rfl
theorem filt_fst2 (p : DtUp → Bool) (zs : List UpV) : (zs.filter fun z => p z.1).map (fun z => z.1.fChunk) = ((zs.map (·.1)).filter p).map (·.fChunk) := by
  rw [List.filter_map, List.map_map]; rfl
theorem swp_fin (c : DtCatalog) (u : DtUps) (zs : List UpV) (hz : zs.map (·.1) = u.fList) : ((u.fList.filter (inM c u)).length = (zs.filter fun z => inM c u z.1).length ∧ ((u.fList.filter (fun x => !inM c u x)).map (·.fChunk)).length = (zs.filter fun z => !inM c u z.1).length) ∧
    (u.fList.filter (inM c u)).map DtUp.cells = (zs.filter fun z => inM c u z.1).map (fun z => DtUp.cells z.1) ∧ ((u.fList.filter (fun x => !inM c u x)).map (·.fChunk)).map cS = (zs.filter fun z => !inM c u z.1).map (fun z => [AV.s z.1.fChunk]) := by
  have h1 := filt_fst (inM c u) zs
  have h2 := filt_fst2 (fun x => !inM c u x) zs
  rw [hz] at h1 h2
  have l1 := congrArg List.length h1
  have l2 := congrArg List.length h2
  simp only [List.length_map] at l1 l2
  refine ⟨⟨l1.symm, by rw [List.length_map]; exact l2.symm⟩, h1.symm, ?_⟩
  rw [← h2, List.map_map]; rfl
theorem implSweepX (c : DtCatalog) (hs : DtCatalog.sz c ≤ 1048576) (u : DtUps) (hu : DtUps.sz u ≤ 1048576) : XCall Try.prog 32 [.agg (DtCatalog.cells c), .agg (DtUps.cells u)] [] (.tup [.agg [(.g (.int .i64 ((swpU c u).fEpoch))), .arr 16 0 (swpU c u).fList.length], .arr 17 0 (swpG c u).length]) [] [.own 3 ((swpU c u).fList.map DtUp.cells), .own 1 ((swpG c u).map cS)] := by
  have ⟨hl, hl2⟩ := upSz u hu
  have hml := mkdL_len c u u.fList
  have hmm : (markedL c u).length ≤ 1048576 := by by_cases hc : CatP c <;> by_cases hk : UpsOkP u <;> first | (rw [markedL_t hc hk]; omega) | (rw [markedL_f (.inl hc)]; simp; done) | (rw [markedL_f (.inr hk)]; simp; done)
  refine xcall_of_walk Try.func32 (by rfl) (by rfl) (by rw [Try.ntmps32]; exact Nat.le_of_ble_eq_true rfl) rfl (by simp) rfl rfl ?_
  rw [Try.ntmps32]
  refine AW_x0   ?_
  refine AW_k [(0, _), (1, _)] ⟨rfl, rfl, trivial⟩ ?_
  refine AW_x rfl rfl fun K hK => ?_
  simp (disch := omega) [wrap64, List.getElem?_eq_getElem, toNat_pred, DtCatalog.cells, DtUps.cells, cS, take_map_n, upV_c]
  repeat' first | (exfalso; omega) | (refine ⟨fun _ => ?_, fun _ => ?_⟩) | (refine ⟨by omega, ?_⟩) | (intro _)
  all_goals (refine hK _ ?_; clear hK K)
  all_goals
    refine AW_seq ?_
    refine AW_x rfl rfl fun K hK => ?_
    simp (disch := omega) [wrap64, List.getElem?_eq_getElem, toNat_pred, DtCatalog.cells, DtUps.cells, cS, take_map_n, upV_c]
    repeat' first | (exfalso; omega) | (refine XKd_v (am2s_cons (am2_agg rfl) am2s_nil) (implUpsOk _ (by omega)) rfl ?_; simp (disch := omega) [wrap64, List.getElem?_eq_getElem, toNat_pred, DtCatalog.cells, DtUps.cells, cS, take_map_n, upV_c]) | (refine XKd_p (implUpsOk _ (by omega)) (by rfl) ?_ ?_; (focus (simp (disch := omega) [wrap64, List.getElem?_eq_getElem, toNat_pred, DtCatalog.cells, DtUps.cells, cS, take_map_n, upV_c, take_map_n]; done)); simp (disch := omega) [wrap64, List.getElem?_eq_getElem, toNat_pred, DtCatalog.cells, DtUps.cells, cS, take_map_n, upV_c]) | (refine ⟨fun _ => ?_, fun _ => ?_⟩) | (refine ⟨by omega, ?_⟩) | (intro _)
    all_goals (refine hK _ ?_; clear hK K)
    all_goals
      refine AW_cond rfl (fun hc1 => ?_) (fun hc1 => ?_)
      · try simp [decB_true, decB_false, eqB_true, eqB_false] at hc1
        all_goals
          refine AW_x rfl rfl fun K hK => ?_
          simp (disch := omega) [wrap64, List.getElem?_eq_getElem, toNat_pred, DtCatalog.cells, DtUps.cells, cS, take_map_n, upV_c]
          repeat' first | (exfalso; omega) | (refine ⟨fun _ => ?_, fun _ => ?_⟩) | (refine ⟨by omega, ?_⟩) | (intro _)
          all_goals (refine hK _ ?_; clear hK K)
          all_goals
            refine AW_ret (end_x [1000, 1001] [(1000, 3), (1001, 1)] (by simp [List.range_succ, lk_cons, lk_nil, upd_app]) (by simp) ?_)
            simp (disch := omega) [wrap64, List.getElem?_eq_getElem, toNat_pred, DtCatalog.cells, DtUps.cells, cS, take_map_n, upV_c]
            all_goals first | (have ⟨h1, h2⟩ := swp_f (c := c) ‹¬ UpsOkP u›; rw [h1, h2]; exact ⟨⟨⟨rfl, rfl⟩, rfl⟩, rfl, rfl⟩) | (have ⟨h1, h2⟩ := swp_c ‹UpsOkP u› ‹¬ CatP c›; rw [h1, h2]; exact ⟨⟨⟨rfl, rfl⟩, rfl⟩, rfl, rfl⟩) | (have ⟨h1, h2⟩ := swp_t ‹UpsOkP u› ‹CatP c›; rw [h1, h2]; subst hks hgs; obtain ⟨⟨g1, g2⟩, g3, g4⟩ := swp_fin c u zs hz; exact ⟨⟨⟨rfl, g1⟩, g2⟩, g3, g4, scR_map _ (fun _ => rfl) _⟩) | trace_state
      · try simp [decB_true, decB_false, eqB_true, eqB_false] at hc1
        all_goals
          refine AW_skip ?_
          refine AW_id ?_
          refine AW_seq ?_
          refine AW_x rfl rfl fun K hK => ?_
          simp (disch := omega) [wrap64, List.getElem?_eq_getElem, toNat_pred, DtCatalog.cells, DtUps.cells, cS, take_map_n, upV_c]
          repeat' first | (exfalso; omega) | (refine XKd_v (am2s_cons (am2_agg rfl) am2s_nil) (implCatOk _ (by omega)) rfl ?_; simp (disch := omega) [wrap64, List.getElem?_eq_getElem, toNat_pred, DtCatalog.cells, DtUps.cells, cS, take_map_n, upV_c]) | (refine XKd_p (implCatOk _ (by omega)) (by rfl) ?_ ?_; (focus (simp (disch := omega) [wrap64, List.getElem?_eq_getElem, toNat_pred, DtCatalog.cells, DtUps.cells, cS, take_map_n, upV_c, take_map_n]; done)); simp (disch := omega) [wrap64, List.getElem?_eq_getElem, toNat_pred, DtCatalog.cells, DtUps.cells, cS, take_map_n, upV_c]) | (refine ⟨fun _ => ?_, fun _ => ?_⟩) | (refine ⟨by omega, ?_⟩) | (intro _)
          all_goals (refine hK _ ?_; clear hK K)
          all_goals
            refine AW_cond rfl (fun hc2 => ?_) (fun hc2 => ?_)
            · try simp [decB_true, decB_false, eqB_true, eqB_false] at hc2
              all_goals
                refine AW_x rfl rfl fun K hK => ?_
                simp (disch := omega) [wrap64, List.getElem?_eq_getElem, toNat_pred, DtCatalog.cells, DtUps.cells, cS, take_map_n, upV_c]
                repeat' first | (exfalso; omega) | (refine XKd_x [] true [] (copyUpsX u (by omega)) ?_ ?_ ?_; (focus (simp [List.range_succ, nmC]; done)); (focus (simp (disch := omega) [wrap64, List.getElem?_eq_getElem, toNat_pred, DtCatalog.cells, DtUps.cells, cS, take_map_n, upV_c, take_map_n]; done)); simp (disch := omega) [wrap64, List.getElem?_eq_getElem, toNat_pred, DtCatalog.cells, DtUps.cells, cS, take_map_n, upV_c]) | (refine ⟨fun _ => ?_, fun _ => ?_⟩) | (refine ⟨by omega, ?_⟩) | (intro _)
                all_goals (refine hK _ ?_; clear hK K)
                all_goals
                  refine AW_ret (end_x [320, 1001] [(1001, 1)] (by simp [List.range_succ, lk_cons, lk_nil, upd_app]) (by simp) ?_)
                  simp (disch := omega) [wrap64, List.getElem?_eq_getElem, toNat_pred, DtCatalog.cells, DtUps.cells, cS, take_map_n, upV_c]
                  all_goals first | (have ⟨h1, h2⟩ := swp_f (c := c) ‹¬ UpsOkP u›; rw [h1, h2]; exact ⟨⟨⟨rfl, rfl⟩, rfl⟩, rfl, rfl⟩) | (have ⟨h1, h2⟩ := swp_c ‹UpsOkP u› ‹¬ CatP c›; rw [h1, h2]; exact ⟨⟨⟨rfl, rfl⟩, rfl⟩, rfl, rfl⟩) | (have ⟨h1, h2⟩ := swp_t ‹UpsOkP u› ‹CatP c›; rw [h1, h2]; subst hks hgs; obtain ⟨⟨g1, g2⟩, g3, g4⟩ := swp_fin c u zs hz; exact ⟨⟨⟨rfl, g1⟩, g2⟩, g3, g4, scR_map _ (fun _ => rfl) _⟩) | trace_state
            · try simp [decB_true, decB_false, eqB_true, eqB_false] at hc2
              all_goals
                refine AW_skip ?_
                refine AW_id ?_
                refine AW_x rfl rfl fun K hK => ?_
                simp (disch := omega) [wrap64, List.getElem?_eq_getElem, toNat_pred, DtCatalog.cells, DtUps.cells, cS, take_map_n, upV_c]
                repeat' first | (exfalso; omega) | (refine XKd_x [] true [] (implMarked c (by omega) u (by omega)) ?_ ?_ ?_; (focus (simp [List.range_succ, nmC]; done)); (focus (simp (disch := omega) [wrap64, List.getElem?_eq_getElem, toNat_pred, DtCatalog.cells, DtUps.cells, cS, take_map_n, upV_c, take_map_n]; done)); simp (disch := omega) [wrap64, List.getElem?_eq_getElem, toNat_pred, DtCatalog.cells, DtUps.cells, cS, take_map_n, upV_c]) | (refine ⟨fun _ => ?_, fun _ => ?_⟩) | (refine ⟨by omega, ?_⟩) | (intro _)
                all_goals (refine hK _ ?_; clear hK K)
                all_goals
                  refine AW_x rfl rfl fun K hK => ?_
                  simp (disch := omega) [wrap64, List.getElem?_eq_getElem, toNat_pred, DtCatalog.cells, DtUps.cells, cS, take_map_n, upV_c]
                  repeat' first | (exfalso; omega) | (refine ⟨fun _ => ?_, fun _ => ?_⟩) | (refine ⟨by omega, ?_⟩) | (intro _)
                  all_goals (refine hK _ ?_; clear hK K)
                  all_goals
                    refine AW_x rfl rfl fun K hK => ?_
                    simp (disch := omega) [wrap64, List.getElem?_eq_getElem, toNat_pred, DtCatalog.cells, DtUps.cells, cS, take_map_n, upV_c]
                    repeat' first | (exfalso; omega) | (refine ⟨fun _ => ?_, fun _ => ?_⟩) | (refine ⟨by omega, ?_⟩) | (intro _)
                    all_goals (refine hK _ ?_; clear hK K)
                    all_goals
                      refine AW_seq ?_
                      refine AW_x rfl rfl fun K hK => ?_
                      simp (disch := omega) [wrap64, List.getElem?_eq_getElem, toNat_pred, DtCatalog.cells, DtUps.cells, cS, take_map_n, upV_c]
                      repeat' first | (exfalso; omega) | (refine XKd_x [] true [] (copyUpsX u (by omega)) ?_ ?_ ?_; (focus (simp [List.range_succ, nmC]; done)); (focus (simp (disch := omega) [wrap64, List.getElem?_eq_getElem, toNat_pred, DtCatalog.cells, DtUps.cells, cS, take_map_n, upV_c, take_map_n]; done)); simp (disch := omega) [wrap64, List.getElem?_eq_getElem, toNat_pred, DtCatalog.cells, DtUps.cells, cS, take_map_n, upV_c]) | (refine ⟨fun _ => ?_, fun _ => ?_⟩) | (refine ⟨by omega, ?_⟩) | (intro _)
                      all_goals (refine hK _ ?_; clear hK K)
                      all_goals
                        refine AW_block ?_
                        refine AW_splitUp (us := u.fList) 464 901 (by simp [upd_app, lk_cons, lk_nil]) (by simp [upd_app, lk_cons, lk_nil]) fun zs hz hv => ?_
                        have hzl : zs.length = u.fList.length := by rw [← hz]; simp
                        refine AW_loopS (fun mM sS => ∃ (i : Nat) (ks : List UpV) (gs : List UpV), mM = zs.length - i ∧ (i ≤ zs.length ∧ ks = (zs.take i).filter (fun z => inM c u z.1) ∧ gs = (zs.take i).filter (fun z => !inM c u z.1)) ∧ sS = { env := lkE [(4, .ptr 80 0), (6, .arr 368 0 (markedL c u).length), (7, .ptr 128 0), (8, .arr 432 0 gs.length), (29, .arr 464 0 zs.length), (30, (.g (.int .i64 ((zs.length : Nat))))), (31, (.g (.int .i64 ((i : Nat)))))], ob := lk [(80, .cells [(.g (.int .i64 (0))), .g (.slice none 0 0)]), (128, .cells [(.g (.int .i64 (u.fEpoch))), .arr 900 0 ks.length]), (368, .own 1 ((markedL c u).map cS)), (432, .flat 1 (gs.map (fun z : UpV => cS z.1.fChunk))), (464, .win 3 (zs.map upV)), (900, .win 3 (ks.map upV)), (901, .park (zs.flatMap upP))] }) ?_ ?_
                        · refine ⟨_, LeS.trans (LeS.znc (cs := [(.g (.int .i64 (u.fEpoch))), .g (.slice none 0 0)]) 900 3 128 1 (by simp [upd_app, lk_cons, lk_nil, lkE_app]) (by simp [upd_app, lk_cons, lk_nil, lkE_app, DtUps.cells, scR_upV, upV_c, cS]) (by rfl)) (LeS.kx [(80, 80), (128, 128), (368, 368), (432, 432), (464, 464), (900, 900), (901, 901)] [(4, .ptr 80 0), (6, .arr 368 0 (markedL c u).length), (7, .ptr 128 0), (8, .arr 432 0 ([]).length), (29, .arr 464 0 zs.length), (30, (.g (.int .i64 ((zs.length : Nat))))), (31, (.g (.int .i64 (((0) : Nat)))))] [(80, .cells [(.g (.int .i64 (0))), .g (.slice none 0 0)]), (128, .cells [(.g (.int .i64 (u.fEpoch))), .arr 900 0 ([]).length]), (368, .own 1 ((markedL c u).map cS)), (432, .flat 1 (([]).map (fun z : UpV => cS z.1.fChunk))), (464, .win 3 (zs.map upV)), (900, .win 3 (([]).map upV)), (901, .park (zs.flatMap upP))] (by simp [KpR, renV2, renV, upd_app, lkE_app, lk_cons, lk_nil, DtUps.cells, scR_upV, upV_c, cS]; try (first | rfl | omega)) (by simp [KpOX, renO, plO, cvO, renV, pl1, lk_cons, lk_nil, upd_app, DtUps.cells, scR_upV, upV_c, cS]; try rfl) (by rfl) (by simp) (by simp) (by rfl) (by simp [formsX, List.range_succ, lk_cons, lk_nil])), _, 0, [], [], rfl, ?_, rfl⟩
                          · simp
                        · rintro mM sS ⟨i, ks, gs, rfl, ⟨hi, hks, hgs⟩, rfl⟩
                          have hk1 : ks.length ≤ 1048576 := by rw [hks]; have h1 := List.length_filter_le (fun z : UpV => inM c u z.1) (zs.take i); have h2 := List.length_take_le' i zs; omega
                          have hg1 : gs.length ≤ 1048576 := by rw [hgs]; have h1 := List.length_filter_le (fun z : UpV => !inM c u z.1) (zs.take i); have h2 := List.length_take_le' i zs; omega
                          refine AW_x rfl rfl fun K hK => ?_
                          simp (disch := omega) [wrap64, List.getElem?_eq_getElem, toNat_pred, DtCatalog.cells, DtUps.cells, cS, take_map_n, upV_c]
                          repeat' first | (exfalso; omega) | (refine ⟨fun _ => ?_, fun _ => ?_⟩) | (refine ⟨by omega, ?_⟩) | (intro _)
                          all_goals (refine hK _ ?_; clear hK K)
                          all_goals
                            refine AW_seq ?_
                            refine AW_cond rfl (fun hc3 => ?_) (fun hc3 => ?_)
                            · try simp [decB_true, decB_false, eqB_true, eqB_false] at hc3
                              all_goals
                                have hv1 : (zs[i].2 1).oneCell' = true := hv _ (List.getElem_mem _) 1
                                simp only [Value.oneCell'] at hv1
                                have hf1 := filt_take (fun z : UpV => inM c u z.1) zs i (by omega)
                                have hf2 := filt_take (fun z : UpV => !inM c u z.1) zs i (by omega)
                                refine AW_skip ?_
                                refine AW_id ?_
                                refine AW_seq ?_
                                refine AW_block ?_
                                refine AW_x rfl rfl fun K hK => ?_
                                simp (disch := omega) [wrap64, List.getElem?_eq_getElem, toNat_pred, DtCatalog.cells, DtUps.cells, cS, take_map_n, upV_c, hv1]
                                repeat' first | (exfalso; omega) | (refine ⟨fun _ => ?_, fun _ => ?_⟩) | (refine ⟨by omega, ?_⟩) | (intro _)
                                all_goals (refine hK _ ?_; clear hK K)
                                all_goals
                                  refine AW_x rfl rfl fun K hK => ?_
                                  simp (disch := omega) [wrap64, List.getElem?_eq_getElem, toNat_pred, DtCatalog.cells, DtUps.cells, cS, take_map_n, upV_c, hv1]
                                  repeat' first | (exfalso; omega) | (refine XKd_v (am2s_cons am2_sl (am2s_cons am2_s am2s_nil)) (containsS (markedL c u) (zs[i]).1.fChunk (by omega)) rfl ?_; simp (disch := omega) [wrap64, List.getElem?_eq_getElem, toNat_pred, DtCatalog.cells, DtUps.cells, cS, take_map_n, upV_c, hv1]) | (refine XKd_p (containsS (markedL c u) (zs[i]).1.fChunk (by omega)) (by rfl) ?_ ?_; (focus (simp (disch := omega) [wrap64, List.getElem?_eq_getElem, toNat_pred, DtCatalog.cells, DtUps.cells, cS, take_map_n, upV_c, hv1, take_map_n]; done)); simp (disch := omega) [wrap64, List.getElem?_eq_getElem, toNat_pred, DtCatalog.cells, DtUps.cells, cS, take_map_n, upV_c, hv1]) | (refine ⟨fun _ => ?_, fun _ => ?_⟩) | (refine ⟨by omega, ?_⟩) | (intro _)
                                  all_goals (refine hK _ ?_; clear hK K)
                                  all_goals
                                    refine AW_cond rfl (fun hc4 => ?_) (fun hc4 => ?_)
                                    · try simp [decB_true, decB_false, eqB_true, eqB_false] at hc4
                                      all_goals
                                        refine AW_xe rfl rfl fun K hK => ?_
                                        simp (disch := omega) [wrap64, List.getElem?_eq_getElem, toNat_pred, DtCatalog.cells, DtUps.cells, cS, take_map_n, upV_c, hv1]
                                        repeat' first | (exfalso; omega) | (refine ⟨fun _ => ?_, fun _ => ?_⟩) | (refine ⟨by omega, ?_⟩) | (intro _)
                                        all_goals (refine hK _ ?_; clear hK K)
                                        all_goals
                                          refine AW_id ?_
                                          refine AW_xe rfl rfl fun K hK => ?_
                                          simp (disch := omega) [wrap64, List.getElem?_eq_getElem, toNat_pred, DtCatalog.cells, DtUps.cells, cS, take_map_n, upV_c, hv1]
                                          repeat' first | (exfalso; omega) | (refine ⟨fun _ => ?_, fun _ => ?_⟩) | (refine ⟨by omega, ?_⟩) | (intro _)
                                          all_goals (refine hK _ ?_; clear hK K)
                                          all_goals
                                            refine ⟨_, LeS.kx [(80, 80), (128, 128), (368, 368), (432, 432), (464, 464), (900, 704), (901, 901)] [(4, .ptr 80 0), (6, .arr 368 0 (markedL c u).length), (7, .ptr 128 0), (8, .arr 432 0 (gs).length), (29, .arr 464 0 zs.length), (30, (.g (.int .i64 ((zs.length : Nat))))), (31, (.g (.int .i64 (((i + 1) : Nat)))))] [(80, .cells [(.g (.int .i64 (0))), .g (.slice none 0 0)]), (128, .cells [(.g (.int .i64 (u.fEpoch))), .arr 900 0 (ks ++ [zs[i]]).length]), (368, .own 1 ((markedL c u).map cS)), (432, .flat 1 ((gs).map (fun z : UpV => cS z.1.fChunk))), (464, .win 3 (zs.map upV)), (900, .win 3 ((ks ++ [zs[i]]).map upV)), (901, .park (zs.flatMap upP))] (by simp [KpR, renV2, renV, upd_app, lkE_app, lk_cons, lk_nil, DtUps.cells, scR_upV, upV_c, cS]; try (first | rfl | omega)) (by simp [KpOX, renO, plO, cvO, renV, pl1, lk_cons, lk_nil, upd_app, DtUps.cells, scR_upV, upV_c, cS]; try rfl) (by rfl) (by simp) (by simp) (by rfl) (by simp [formsX, List.range_succ, lk_cons, lk_nil]), _, ?_, i + 1, ks ++ [zs[i]], gs, rfl, ?_, rfl⟩
                                            · omega
                                            · refine ⟨by omega, ?_, ?_⟩
                                              · rw [hf1, hks]; cases hin : inM c u zs[i].1 <;> first | (simp; done) | (exfalso; simp_all [inM, decB_true, decB_false]; done)
                                              · rw [hf2, hgs]; cases hin : inM c u zs[i].1 <;> first | (simp; done) | (exfalso; simp_all [inM, decB_true, decB_false]; done)
                                    · try simp [decB_true, decB_false, eqB_true, eqB_false] at hc4
                                      all_goals
                                        refine AW_xe rfl rfl fun K hK => ?_
                                        simp (disch := omega) [wrap64, List.getElem?_eq_getElem, toNat_pred, DtCatalog.cells, DtUps.cells, cS, take_map_n, upV_c, hv1]
                                        repeat' first | (exfalso; omega) | (refine ⟨fun _ => ?_, fun _ => ?_⟩) | (refine ⟨by omega, ?_⟩) | (intro _)
                                        all_goals (refine hK _ ?_; clear hK K)
                                        all_goals
                                          refine AW_id ?_
                                          refine AW_xe rfl rfl fun K hK => ?_
                                          simp (disch := omega) [wrap64, List.getElem?_eq_getElem, toNat_pred, DtCatalog.cells, DtUps.cells, cS, take_map_n, upV_c, hv1]
                                          repeat' first | (exfalso; omega) | (refine ⟨fun _ => ?_, fun _ => ?_⟩) | (refine ⟨by omega, ?_⟩) | (intro _)
                                          all_goals (refine hK _ ?_; clear hK K)
                                          all_goals
                                            refine ⟨_, LeS.kx [(80, 80), (128, 128), (368, 368), (432, 800), (464, 464), (900, 900), (901, 901)] [(4, .ptr 80 0), (6, .arr 368 0 (markedL c u).length), (7, .ptr 128 0), (8, .arr 432 0 (gs ++ [zs[i]]).length), (29, .arr 464 0 zs.length), (30, (.g (.int .i64 ((zs.length : Nat))))), (31, (.g (.int .i64 (((i + 1) : Nat)))))] [(80, .cells [(.g (.int .i64 (0))), .g (.slice none 0 0)]), (128, .cells [(.g (.int .i64 (u.fEpoch))), .arr 900 0 (ks).length]), (368, .own 1 ((markedL c u).map cS)), (432, .flat 1 ((gs ++ [zs[i]]).map (fun z : UpV => cS z.1.fChunk))), (464, .win 3 (zs.map upV)), (900, .win 3 ((ks).map upV)), (901, .park (zs.flatMap upP))] (by simp [KpR, renV2, renV, upd_app, lkE_app, lk_cons, lk_nil, DtUps.cells, scR_upV, upV_c, cS]; try (first | rfl | omega)) (by simp [KpOX, renO, plO, cvO, renV, pl1, lk_cons, lk_nil, upd_app, DtUps.cells, scR_upV, upV_c, cS]; try rfl) (by rfl) (by simp) (by simp) (by rfl) (by simp [formsX, List.range_succ, lk_cons, lk_nil]), _, ?_, i + 1, ks, gs ++ [zs[i]], rfl, ?_, rfl⟩
                                            · omega
                                            · refine ⟨by omega, ?_, ?_⟩
                                              · rw [hf1, hks]; cases hin : inM c u zs[i].1 <;> first | (simp; done) | (exfalso; simp_all [inM, decB_true, decB_false]; done)
                                              · rw [hf2, hgs]; cases hin : inM c u zs[i].1 <;> first | (simp; done) | (exfalso; simp_all [inM, decB_true, decB_false]; done)
                            · try simp [decB_true, decB_false, eqB_true, eqB_false] at hc3
                              all_goals
                                have hi2 : i = zs.length := by omega
                                subst hi2
                                rw [List.take_length] at hks hgs
                                refine AW_le (joinUp (ks := ks) (zs := zs) 900 901 (by simp [upd_app, lk_cons, lk_nil]) (by simp [upd_app, lk_cons, lk_nil]) (by rw [hks]; exact List.filter_sublist)) ?_
                                refine AW_exit ?_
                                refine AW_id ?_
                                refine AW_x rfl rfl fun K hK => ?_
                                simp (disch := omega) [wrap64, List.getElem?_eq_getElem, toNat_pred, DtCatalog.cells, DtUps.cells, cS, take_map_n, upV_c]
                                repeat' first | (exfalso; omega) | (refine ⟨fun _ => ?_, fun _ => ?_⟩) | (refine ⟨by omega, ?_⟩) | (intro _)
                                all_goals (refine hK _ ?_; clear hK K)
                                all_goals
                                  refine AW_ret (end_x [900, 432] [] (by simp [List.range_succ, lk_cons, lk_nil, upd_app]) (by simp) ?_)
                                  simp (disch := omega) [wrap64, List.getElem?_eq_getElem, toNat_pred, DtCatalog.cells, DtUps.cells, cS, take_map_n, upV_c]
                                  all_goals first | (have ⟨h1, h2⟩ := swp_f (c := c) ‹¬ UpsOkP u›; rw [h1, h2]; exact ⟨⟨⟨rfl, rfl⟩, rfl⟩, rfl, rfl⟩) | (have ⟨h1, h2⟩ := swp_c ‹UpsOkP u› ‹¬ CatP c›; rw [h1, h2]; exact ⟨⟨⟨rfl, rfl⟩, rfl⟩, rfl, rfl⟩) | (have ⟨h1, h2⟩ := swp_t ‹UpsOkP u› ‹CatP c›; rw [h1, h2]; subst hks hgs; obtain ⟨⟨g1, g2⟩, g3, g4⟩ := swp_fin c u zs hz; exact ⟨⟨⟨rfl, g1⟩, g2⟩, g3, g4, scR_map _ (fun _ => rfl) _⟩) | trace_state
theorem specSweepX (c : DtCatalog) (hs : DtCatalog.sz c ≤ 1048576) (u : DtUps) (hu : DtUps.sz u ≤ 1048576) : XCall Try.prog 31 [.agg (DtCatalog.cells c), .agg (DtUps.cells u)] [] (.tup [.agg [(.g (.int .i64 ((swpU c u).fEpoch))), .arr 16 0 (swpU c u).fList.length], .arr 17 0 (swpG c u).length]) [] [.own 3 ((swpU c u).fList.map DtUp.cells), .own 1 ((swpG c u).map cS)] := by
  have ⟨hl, hl2⟩ := upSz u hu
  have hml := mkdL_len c u u.fList
  have hmm : (markedL c u).length ≤ 1048576 := by by_cases hc : CatP c <;> by_cases hk : UpsOkP u <;> first | (rw [markedL_t hc hk]; omega) | (rw [markedL_f (.inl hc)]; simp; done) | (rw [markedL_f (.inr hk)]; simp; done)
  refine xcall_of_walk Try.func31 (by rfl) (by rfl) (by rw [Try.ntmps31]; exact Nat.le_of_ble_eq_true rfl) rfl (by simp) rfl rfl ?_
  rw [Try.ntmps31]
  refine AW_x0   ?_
  refine AW_k [(0, _), (1, _)] ⟨rfl, rfl, trivial⟩ ?_
  refine AW_x rfl rfl fun K hK => ?_
  simp (disch := omega) [wrap64, List.getElem?_eq_getElem, toNat_pred, DtCatalog.cells, DtUps.cells, cS, take_map_n, upV_c]
  repeat' first | (exfalso; omega) | (refine ⟨fun _ => ?_, fun _ => ?_⟩) | (refine ⟨by omega, ?_⟩) | (intro _)
  all_goals (refine hK _ ?_; clear hK K)
  all_goals
    refine AW_x rfl rfl fun K hK => ?_
    simp (disch := omega) [wrap64, List.getElem?_eq_getElem, toNat_pred, DtCatalog.cells, DtUps.cells, cS, take_map_n, upV_c]
    repeat' first | (exfalso; omega) | (refine ⟨fun _ => ?_, fun _ => ?_⟩) | (refine ⟨by omega, ?_⟩) | (intro _)
    all_goals (refine hK _ ?_; clear hK K)
    all_goals
      refine AW_seq ?_
      refine AW_x rfl rfl fun K hK => ?_
      simp (disch := omega) [wrap64, List.getElem?_eq_getElem, toNat_pred, DtCatalog.cells, DtUps.cells, cS, take_map_n, upV_c]
      repeat' first | (exfalso; omega) | (refine XKd_v (am2s_cons (am2_agg rfl) am2s_nil) (specUpsOk _ (by omega)) rfl ?_; simp (disch := omega) [wrap64, List.getElem?_eq_getElem, toNat_pred, DtCatalog.cells, DtUps.cells, cS, take_map_n, upV_c]) | (refine XKd_p (specUpsOk _ (by omega)) (by rfl) ?_ ?_; (focus (simp (disch := omega) [wrap64, List.getElem?_eq_getElem, toNat_pred, DtCatalog.cells, DtUps.cells, cS, take_map_n, upV_c, take_map_n]; done)); simp (disch := omega) [wrap64, List.getElem?_eq_getElem, toNat_pred, DtCatalog.cells, DtUps.cells, cS, take_map_n, upV_c]) | (refine ⟨fun _ => ?_, fun _ => ?_⟩) | (refine ⟨by omega, ?_⟩) | (intro _)
      all_goals (refine hK _ ?_; clear hK K)
      all_goals
        refine AW_cond rfl (fun hc5 => ?_) (fun hc5 => ?_)
        · try simp [decB_true, decB_false, eqB_true, eqB_false] at hc5
          all_goals
            refine AW_x rfl rfl fun K hK => ?_
            simp (disch := omega) [wrap64, List.getElem?_eq_getElem, toNat_pred, DtCatalog.cells, DtUps.cells, cS, take_map_n, upV_c]
            repeat' first | (exfalso; omega) | (refine ⟨fun _ => ?_, fun _ => ?_⟩) | (refine ⟨by omega, ?_⟩) | (intro _)
            all_goals (refine hK _ ?_; clear hK K)
            all_goals
              refine AW_ret (end_x [1000, 192] [(1000, 3)] (by simp [List.range_succ, lk_cons, lk_nil, upd_app]) (by simp) ?_)
              simp (disch := omega) [wrap64, List.getElem?_eq_getElem, toNat_pred, DtCatalog.cells, DtUps.cells, cS, take_map_n, upV_c]
              all_goals first | (have ⟨h1, h2⟩ := swp_f (c := c) ‹¬ UpsOkP u›; rw [h1, h2]; exact ⟨⟨⟨rfl, rfl⟩, rfl⟩, rfl, rfl⟩) | (have ⟨h1, h2⟩ := swp_c ‹UpsOkP u› ‹¬ CatP c›; rw [h1, h2]; exact ⟨⟨⟨rfl, rfl⟩, rfl⟩, rfl, rfl⟩) | (have ⟨h1, h2⟩ := swp_t ‹UpsOkP u› ‹CatP c›; rw [h1, h2]; subst hks hgs; obtain ⟨⟨g1, g2⟩, g3, g4⟩ := swp_fin c u zs hz; exact ⟨⟨⟨rfl, g1⟩, g2⟩, g3, g4, scR_map _ (fun _ => rfl) _⟩) | trace_state
        · try simp [decB_true, decB_false, eqB_true, eqB_false] at hc5
          all_goals
            refine AW_skip ?_
            refine AW_id ?_
            refine AW_x rfl rfl fun K hK => ?_
            simp (disch := omega) [wrap64, List.getElem?_eq_getElem, toNat_pred, DtCatalog.cells, DtUps.cells, cS, take_map_n, upV_c]
            repeat' first | (exfalso; omega) | (refine XKd_x [] true [] (l18CopyX u (by omega)) ?_ ?_ ?_; (focus (simp [List.range_succ, nmC]; done)); (focus (simp (disch := omega) [wrap64, List.getElem?_eq_getElem, toNat_pred, DtCatalog.cells, DtUps.cells, cS, take_map_n, upV_c, take_map_n]; done)); simp (disch := omega) [wrap64, List.getElem?_eq_getElem, toNat_pred, DtCatalog.cells, DtUps.cells, cS, take_map_n, upV_c]) | (refine ⟨fun _ => ?_, fun _ => ?_⟩) | (refine ⟨by omega, ?_⟩) | (intro _)
            all_goals (refine hK _ ?_; clear hK K)
            all_goals
              refine AW_seq ?_
              refine AW_x rfl rfl fun K hK => ?_
              simp (disch := omega) [wrap64, List.getElem?_eq_getElem, toNat_pred, DtCatalog.cells, DtUps.cells, cS, take_map_n, upV_c]
              repeat' first | (exfalso; omega) | (refine XKd_v (am2s_cons (am2_agg rfl) am2s_nil) (specCatOk _ (by omega)) rfl ?_; simp (disch := omega) [wrap64, List.getElem?_eq_getElem, toNat_pred, DtCatalog.cells, DtUps.cells, cS, take_map_n, upV_c]) | (refine XKd_p (specCatOk _ (by omega)) (by rfl) ?_ ?_; (focus (simp (disch := omega) [wrap64, List.getElem?_eq_getElem, toNat_pred, DtCatalog.cells, DtUps.cells, cS, take_map_n, upV_c, take_map_n]; done)); simp (disch := omega) [wrap64, List.getElem?_eq_getElem, toNat_pred, DtCatalog.cells, DtUps.cells, cS, take_map_n, upV_c]) | (refine ⟨fun _ => ?_, fun _ => ?_⟩) | (refine ⟨by omega, ?_⟩) | (intro _)
              all_goals (refine hK _ ?_; clear hK K)
              all_goals
                refine AW_cond rfl (fun hc6 => ?_) (fun hc6 => ?_)
                · try simp [decB_true, decB_false, eqB_true, eqB_false] at hc6
                  all_goals
                    refine AW_x rfl rfl fun K hK => ?_
                    simp (disch := omega) [wrap64, List.getElem?_eq_getElem, toNat_pred, DtCatalog.cells, DtUps.cells, cS, take_map_n, upV_c]
                    repeat' first | (exfalso; omega) | (refine ⟨fun _ => ?_, fun _ => ?_⟩) | (refine ⟨by omega, ?_⟩) | (intro _)
                    all_goals (refine hK _ ?_; clear hK K)
                    all_goals
                      refine AW_ret (end_x [304, 192] [] (by simp [List.range_succ, lk_cons, lk_nil, upd_app]) (by simp) ?_)
                      simp (disch := omega) [wrap64, List.getElem?_eq_getElem, toNat_pred, DtCatalog.cells, DtUps.cells, cS, take_map_n, upV_c]
                      all_goals first | (have ⟨h1, h2⟩ := swp_f (c := c) ‹¬ UpsOkP u›; rw [h1, h2]; exact ⟨⟨⟨rfl, rfl⟩, rfl⟩, rfl, rfl⟩) | (have ⟨h1, h2⟩ := swp_c ‹UpsOkP u› ‹¬ CatP c›; rw [h1, h2]; exact ⟨⟨⟨rfl, rfl⟩, rfl⟩, rfl, rfl⟩) | (have ⟨h1, h2⟩ := swp_t ‹UpsOkP u› ‹CatP c›; rw [h1, h2]; subst hks hgs; obtain ⟨⟨g1, g2⟩, g3, g4⟩ := swp_fin c u zs hz; exact ⟨⟨⟨rfl, g1⟩, g2⟩, g3, g4, scR_map _ (fun _ => rfl) _⟩) | trace_state
                · try simp [decB_true, decB_false, eqB_true, eqB_false] at hc6
                  all_goals
                    refine AW_skip ?_
                    refine AW_id ?_
                    refine AW_x rfl rfl fun K hK => ?_
                    simp (disch := omega) [wrap64, List.getElem?_eq_getElem, toNat_pred, DtCatalog.cells, DtUps.cells, cS, take_map_n, upV_c]
                    repeat' first | (exfalso; omega) | (refine XKd_x [] true [] (specMarked c (by omega) u (by omega)) ?_ ?_ ?_; (focus (simp [List.range_succ, nmC]; done)); (focus (simp (disch := omega) [wrap64, List.getElem?_eq_getElem, toNat_pred, DtCatalog.cells, DtUps.cells, cS, take_map_n, upV_c, take_map_n]; done)); simp (disch := omega) [wrap64, List.getElem?_eq_getElem, toNat_pred, DtCatalog.cells, DtUps.cells, cS, take_map_n, upV_c]) | (refine ⟨fun _ => ?_, fun _ => ?_⟩) | (refine ⟨by omega, ?_⟩) | (intro _)
                    all_goals (refine hK _ ?_; clear hK K)
                    all_goals
                      refine AW_x rfl rfl fun K hK => ?_
                      simp (disch := omega) [wrap64, List.getElem?_eq_getElem, toNat_pred, DtCatalog.cells, DtUps.cells, cS, take_map_n, upV_c]
                      repeat' first | (exfalso; omega) | (refine ⟨fun _ => ?_, fun _ => ?_⟩) | (refine ⟨by omega, ?_⟩) | (intro _)
                      all_goals (refine hK _ ?_; clear hK K)
                      all_goals
                        refine AW_seq ?_
                        refine AW_x rfl rfl fun K hK => ?_
                        simp (disch := omega) [wrap64, List.getElem?_eq_getElem, toNat_pred, DtCatalog.cells, DtUps.cells, cS, take_map_n, upV_c]
                        repeat' first | (exfalso; omega) | (refine ⟨fun _ => ?_, fun _ => ?_⟩) | (refine ⟨by omega, ?_⟩) | (intro _)
                        all_goals (refine hK _ ?_; clear hK K)
                        all_goals
                          refine AW_block ?_
                          refine AW_splitUp (us := u.fList) 304 901 (by simp [upd_app, lk_cons, lk_nil]) (by simp [upd_app, lk_cons, lk_nil]) fun zs hz hv => ?_
                          have hzl : zs.length = u.fList.length := by rw [← hz]; simp
                          refine AW_loopS (fun mM sS => ∃ (i : Nat) (ks : List UpV) (gs : List UpV), mM = zs.length - i ∧ (i ≤ zs.length ∧ ks = (zs.take i).filter (fun z => inM c u z.1) ∧ gs = (zs.take i).filter (fun z => !inM c u z.1)) ∧ sS = { env := lkE [(4, .ptr 80 0), (6, .arr 192 0 gs.length), (7, .ptr 128 0), (8, .arr 432 0 (markedL c u).length), (9, .arr 448 0 ks.length), (10, (.g (.int .i64 ((i : Nat)))))], ob := lk [(80, .cells [(.g (.int .i64 (0))), .g (.slice none 0 0)]), (128, .cells [(.g (.int .i64 (u.fEpoch))), .arr 304 0 zs.length]), (192, .flat 1 (gs.map (fun z : UpV => cS z.1.fChunk))), (304, .win 3 (zs.map upV)), (432, .own 1 ((markedL c u).map cS)), (448, .win 3 (ks.map upV)), (901, .park (zs.flatMap upP))] }) ?_ ?_
                          · refine ⟨_, LeS.kx [(80, 80), (128, 128), (192, 192), (304, 304), (432, 432), (448, 448), (901, 901)] [(4, .ptr 80 0), (6, .arr 192 0 ([]).length), (7, .ptr 128 0), (8, .arr 432 0 (markedL c u).length), (9, .arr 448 0 ([]).length), (10, (.g (.int .i64 (((0) : Nat)))))] [(80, .cells [(.g (.int .i64 (0))), .g (.slice none 0 0)]), (128, .cells [(.g (.int .i64 (u.fEpoch))), .arr 304 0 zs.length]), (192, .flat 1 (([]).map (fun z : UpV => cS z.1.fChunk))), (304, .win 3 (zs.map upV)), (432, .own 1 ((markedL c u).map cS)), (448, .win 3 (([]).map upV)), (901, .park (zs.flatMap upP))] (by simp [KpR, renV2, renV, upd_app, lkE_app, lk_cons, lk_nil, DtUps.cells, scR_upV, upV_c, cS]; try (first | rfl | omega)) (by simp [KpOX, renO, plO, cvO, renV, pl1, lk_cons, lk_nil, upd_app, DtUps.cells, scR_upV, upV_c, cS]; try (first | rfl | omega)) (by rfl) (by simp) (by simp) (by rfl) (by simp [formsX, List.range_succ, lk_cons, lk_nil]), _, 0, [], [], rfl, ?_, rfl⟩
                            · simp
                          · rintro mM sS ⟨i, ks, gs, rfl, ⟨hi, hks, hgs⟩, rfl⟩
                            have hk1 : ks.length ≤ 1048576 := by rw [hks]; have h1 := List.length_filter_le (fun z : UpV => inM c u z.1) (zs.take i); have h2 := List.length_take_le' i zs; omega
                            have hg1 : gs.length ≤ 1048576 := by rw [hgs]; have h1 := List.length_filter_le (fun z : UpV => !inM c u z.1) (zs.take i); have h2 := List.length_take_le' i zs; omega
                            refine AW_seq ?_
                            refine AW_x rfl rfl fun K hK => ?_
                            simp (disch := omega) [wrap64, List.getElem?_eq_getElem, toNat_pred, DtCatalog.cells, DtUps.cells, cS, take_map_n, upV_c]
                            repeat' first | (exfalso; omega) | (refine ⟨fun _ => ?_, fun _ => ?_⟩) | (refine ⟨by omega, ?_⟩) | (intro _)
                            all_goals (refine hK _ ?_; clear hK K)
                            all_goals
                              refine AW_cond rfl (fun hc7 => ?_) (fun hc7 => ?_)
                              · try simp [decB_true, decB_false, eqB_true, eqB_false] at hc7
                                all_goals
                                  have hv1 : (zs[i].2 1).oneCell' = true := hv _ (List.getElem_mem _) 1
                                  simp only [Value.oneCell'] at hv1
                                  have hf1 := filt_take (fun z : UpV => inM c u z.1) zs i (by omega)
                                  have hf2 := filt_take (fun z : UpV => !inM c u z.1) zs i (by omega)
                                  refine AW_skip ?_
                                  refine AW_id ?_
                                  refine AW_seq ?_
                                  refine AW_block ?_
                                  refine AW_x rfl rfl fun K hK => ?_
                                  simp (disch := omega) [wrap64, List.getElem?_eq_getElem, toNat_pred, DtCatalog.cells, DtUps.cells, cS, take_map_n, upV_c, hv1]
                                  repeat' first | (exfalso; omega) | (refine XKd_v (am2s_cons am2_sl (am2s_cons am2_s am2s_nil)) (l15In (markedL c u) (zs[i]).1.fChunk (by omega)) rfl ?_; simp (disch := omega) [wrap64, List.getElem?_eq_getElem, toNat_pred, DtCatalog.cells, DtUps.cells, cS, take_map_n, upV_c, hv1]) | (refine XKd_p (l15In (markedL c u) (zs[i]).1.fChunk (by omega)) (by rfl) ?_ ?_; (focus (simp (disch := omega) [wrap64, List.getElem?_eq_getElem, toNat_pred, DtCatalog.cells, DtUps.cells, cS, take_map_n, upV_c, hv1, take_map_n]; done)); simp (disch := omega) [wrap64, List.getElem?_eq_getElem, toNat_pred, DtCatalog.cells, DtUps.cells, cS, take_map_n, upV_c, hv1]) | (refine ⟨fun _ => ?_, fun _ => ?_⟩) | (refine ⟨by omega, ?_⟩) | (intro _)
                                  all_goals (refine hK _ ?_; clear hK K)
                                  all_goals
                                    refine AW_cond rfl (fun hc8 => ?_) (fun hc8 => ?_)
                                    · try simp [decB_true, decB_false, eqB_true, eqB_false] at hc8
                                      all_goals
                                        refine AW_xe rfl rfl fun K hK => ?_
                                        simp (disch := omega) [wrap64, List.getElem?_eq_getElem, toNat_pred, DtCatalog.cells, DtUps.cells, cS, take_map_n, upV_c, hv1]
                                        repeat' first | (exfalso; omega) | (refine ⟨fun _ => ?_, fun _ => ?_⟩) | (refine ⟨by omega, ?_⟩) | (intro _)
                                        all_goals (refine hK _ ?_; clear hK K)
                                        all_goals
                                          refine AW_id ?_
                                          refine AW_xe rfl rfl fun K hK => ?_
                                          simp (disch := omega) [wrap64, List.getElem?_eq_getElem, toNat_pred, DtCatalog.cells, DtUps.cells, cS, take_map_n, upV_c, hv1]
                                          repeat' first | (exfalso; omega) | (refine ⟨fun _ => ?_, fun _ => ?_⟩) | (refine ⟨by omega, ?_⟩) | (intro _)
                                          all_goals (refine hK _ ?_; clear hK K)
                                          all_goals
                                            refine ⟨_, LeS.kx [(80, 80), (128, 128), (192, 192), (304, 304), (432, 432), (448, 816), (901, 901)] [(4, .ptr 80 0), (6, .arr 192 0 (gs).length), (7, .ptr 128 0), (8, .arr 432 0 (markedL c u).length), (9, .arr 448 0 (ks ++ [zs[i]]).length), (10, (.g (.int .i64 (((i + 1) : Nat)))))] [(80, .cells [(.g (.int .i64 (0))), .g (.slice none 0 0)]), (128, .cells [(.g (.int .i64 (u.fEpoch))), .arr 304 0 zs.length]), (192, .flat 1 ((gs).map (fun z : UpV => cS z.1.fChunk))), (304, .win 3 (zs.map upV)), (432, .own 1 ((markedL c u).map cS)), (448, .win 3 ((ks ++ [zs[i]]).map upV)), (901, .park (zs.flatMap upP))] (by simp [KpR, renV2, renV, upd_app, lkE_app, lk_cons, lk_nil, DtUps.cells, scR_upV, upV_c, cS]; try (first | rfl | omega)) (by simp [KpOX, renO, plO, cvO, renV, pl1, lk_cons, lk_nil, upd_app, DtUps.cells, scR_upV, upV_c, cS]; try (first | rfl | omega)) (by rfl) (by simp) (by simp) (by rfl) (by simp [formsX, List.range_succ, lk_cons, lk_nil]), _, ?_, i + 1, ks ++ [zs[i]], gs, rfl, ?_, rfl⟩
                                            · omega
                                            · refine ⟨by omega, ?_, ?_⟩
                                              · rw [hf1, hks]; cases hin : inM c u zs[i].1 <;> first | (simp; done) | (exfalso; simp_all [inM, decB_true, decB_false]; done)
                                              · rw [hf2, hgs]; cases hin : inM c u zs[i].1 <;> first | (simp; done) | (exfalso; simp_all [inM, decB_true, decB_false]; done)
                                    · try simp [decB_true, decB_false, eqB_true, eqB_false] at hc8
                                      all_goals
                                        refine AW_xe rfl rfl fun K hK => ?_
                                        simp (disch := omega) [wrap64, List.getElem?_eq_getElem, toNat_pred, DtCatalog.cells, DtUps.cells, cS, take_map_n, upV_c, hv1]
                                        repeat' first | (exfalso; omega) | (refine ⟨fun _ => ?_, fun _ => ?_⟩) | (refine ⟨by omega, ?_⟩) | (intro _)
                                        all_goals (refine hK _ ?_; clear hK K)
                                        all_goals
                                          refine AW_id ?_
                                          refine AW_xe rfl rfl fun K hK => ?_
                                          simp (disch := omega) [wrap64, List.getElem?_eq_getElem, toNat_pred, DtCatalog.cells, DtUps.cells, cS, take_map_n, upV_c, hv1]
                                          repeat' first | (exfalso; omega) | (refine ⟨fun _ => ?_, fun _ => ?_⟩) | (refine ⟨by omega, ?_⟩) | (intro _)
                                          all_goals (refine hK _ ?_; clear hK K)
                                          all_goals
                                            refine ⟨_, LeS.kx [(80, 80), (128, 128), (192, 960), (304, 304), (432, 432), (448, 448), (901, 901)] [(4, .ptr 80 0), (6, .arr 192 0 (gs ++ [zs[i]]).length), (7, .ptr 128 0), (8, .arr 432 0 (markedL c u).length), (9, .arr 448 0 (ks).length), (10, (.g (.int .i64 (((i + 1) : Nat)))))] [(80, .cells [(.g (.int .i64 (0))), .g (.slice none 0 0)]), (128, .cells [(.g (.int .i64 (u.fEpoch))), .arr 304 0 zs.length]), (192, .flat 1 ((gs ++ [zs[i]]).map (fun z : UpV => cS z.1.fChunk))), (304, .win 3 (zs.map upV)), (432, .own 1 ((markedL c u).map cS)), (448, .win 3 ((ks).map upV)), (901, .park (zs.flatMap upP))] (by simp [KpR, renV2, renV, upd_app, lkE_app, lk_cons, lk_nil, DtUps.cells, scR_upV, upV_c, cS]; try (first | rfl | omega)) (by simp [KpOX, renO, plO, cvO, renV, pl1, lk_cons, lk_nil, upd_app, DtUps.cells, scR_upV, upV_c, cS]; try (first | rfl | omega)) (by rfl) (by simp) (by simp) (by rfl) (by simp [formsX, List.range_succ, lk_cons, lk_nil]), _, ?_, i + 1, ks, gs ++ [zs[i]], rfl, ?_, rfl⟩
                                            · omega
                                            · refine ⟨by omega, ?_, ?_⟩
                                              · rw [hf1, hks]; cases hin : inM c u zs[i].1 <;> first | (simp; done) | (exfalso; simp_all [inM, decB_true, decB_false]; done)
                                              · rw [hf2, hgs]; cases hin : inM c u zs[i].1 <;> first | (simp; done) | (exfalso; simp_all [inM, decB_true, decB_false]; done)
                              · try simp [decB_true, decB_false, eqB_true, eqB_false] at hc7
                                all_goals
                                  have hi2 : i = zs.length := by omega
                                  subst hi2
                                  rw [List.take_length] at hks hgs
                                  refine AW_le (joinUp (ks := ks) (zs := zs) 448 901 (by simp [upd_app, lk_cons, lk_nil]) (by simp [upd_app, lk_cons, lk_nil]) (by rw [hks]; exact List.filter_sublist)) ?_
                                  refine AW_exit ?_
                                  refine AW_id ?_
                                  refine AW_x rfl rfl fun K hK => ?_
                                  simp (disch := omega) [wrap64, List.getElem?_eq_getElem, toNat_pred, DtCatalog.cells, DtUps.cells, cS, take_map_n, upV_c]
                                  repeat' first | (exfalso; omega) | (refine ⟨fun _ => ?_, fun _ => ?_⟩) | (refine ⟨by omega, ?_⟩) | (intro _)
                                  all_goals (refine hK _ ?_; clear hK K)
                                  all_goals
                                    refine AW_x rfl rfl fun K hK => ?_
                                    simp (disch := omega) [wrap64, List.getElem?_eq_getElem, toNat_pred, DtCatalog.cells, DtUps.cells, cS, take_map_n, upV_c]
                                    repeat' first | (exfalso; omega) | (refine ⟨fun _ => ?_, fun _ => ?_⟩) | (refine ⟨by omega, ?_⟩) | (intro _)
                                    all_goals (refine hK _ ?_; clear hK K)
                                    all_goals
                                      refine AW_ret (end_x [448, 192] [] (by simp [List.range_succ, lk_cons, lk_nil, upd_app]) (by simp) ?_)
                                      simp (disch := omega) [wrap64, List.getElem?_eq_getElem, toNat_pred, DtCatalog.cells, DtUps.cells, cS, take_map_n, upV_c]
                                      all_goals first | (have ⟨h1, h2⟩ := swp_f (c := c) ‹¬ UpsOkP u›; rw [h1, h2]; exact ⟨⟨⟨rfl, rfl⟩, rfl⟩, rfl, rfl⟩) | (have ⟨h1, h2⟩ := swp_c ‹UpsOkP u› ‹¬ CatP c›; rw [h1, h2]; exact ⟨⟨⟨rfl, rfl⟩, rfl⟩, rfl, rfl⟩) | (have ⟨h1, h2⟩ := swp_t ‹UpsOkP u› ‹CatP c›; rw [h1, h2]; subst hks hgs; obtain ⟨⟨g1, g2⟩, g3, g4⟩ := swp_fin c u zs hz; exact ⟨⟨⟨rfl, g1⟩, g2⟩, g3, g4, scR_map _ (fun _ => rfl) _⟩) | trace_state
end Go.Proofs.Ytcedomdpbgjbpaa.Vs
