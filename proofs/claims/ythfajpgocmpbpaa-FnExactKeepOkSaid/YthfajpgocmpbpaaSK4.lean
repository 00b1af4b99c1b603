import Derived.Test.YthfajpgocmpbpaaSK2
open Go Go.Proofs Go.Proofs.Ythfajpgocmpbpaa.Vs
namespace Go.Proofs.Ythfajpgocmpbpaa.Vs
set_option linter.unusedVariables false
set_option linter.unusedSimpArgs false
set_option linter.unusedSectionVars false
set_option linter.unnecessarySimpa false
set_option linter.all false
set_option linter.unusedSimpArgs false
theorem implKeepOk (xs : List Int) (a b c : Int) (hn : xs.length ≤ 1048576) : PCall Try.prog 19 [.sl 1 (xs.map cI), .agg [.g (.int .i64 a), .g (.int .i64 b), .g (.int .i64 c)]] (.g (.bool (keepOk xs a b c))) := by
  refine gcall_of_walk Try.func19 (by rfl) (by rfl) (by rw [Try.ntmps19]; exact Nat.le_of_ble_eq_true rfl) rfl (by decide) ?_
  rw [Try.ntmps19]
  refine AW_r rfl rfl fun K hK => ?_
  simp [creg_nil, creg_op, creg_gd, cO, cR, cG_bool, cG_undef, ↓spl_tt, ↓spl_tf, ↓spl_ft, ↓spl_ff, spl_ct, spl_cf, putC, nmC, aop, ev, cv, updL, upd_app, upd_upd, t3, t4, t28, t30, t33, lkE_app, lk_nil, lk_cons, aLen, aBuiltin, aBin, aIntBin, aFieldAddr, placeOf, aLoad, cellsAt, aUn, aIndexAddr, st0, valCells, isOne, Value.oneCell', aStore, setCells, formOb]
  refine hK _ ?_; clear hK K
  refine AW_k [(0, .sl 1 (xs.map cI)), (3, .ptr 64 0)] (by simp [KpE, upd_app]) ?_
  refine AW_seq (AW_r rfl rfl fun K hK => ?_)
  simp [creg_nil, creg_op, creg_gd, cO, cR, cG_bool, cG_undef, ↓spl_tt, ↓spl_tf, ↓spl_ft, ↓spl_ff, spl_ct, spl_cf, putC, nmC, aop, ev, cv, updL, upd_app, upd_upd, t3, t4, t28, t30, t33, lkE_app, lk_nil, lk_cons, aLen, aBuiltin, aBin, aIntBin, aFieldAddr, placeOf, aLoad, cellsAt, aUn, aIndexAddr, st0, valCells, isOne, Value.oneCell', aStore, setCells]
  refine hK _ ?_; clear hK K
  refine AW_block ?_
  refine AW_loopS (fun m s => ∃ i : Nat, m = xs.length - i ∧ i ≤ xs.length ∧ (∀ j, j < i → okAt xs j = true) ∧ s = { env := lkE [(0, .sl 1 (xs.map cI)), (3, .ptr 64 0), (7, .sl 1 (xs.map cI)), (8, .g (.int .i64 xs.length)), (9, .g (.int .i64 i))], ob := upd (formOb [] []) 64 (some (OB.cells [AV.g (Value.int IntKind.i64 a), AV.g (Value.int IntKind.i64 b), AV.g (Value.int IntKind.i64 c)])) }) ?_ ?_
  · exact ⟨_, LeS.kp [(0, .sl 1 (xs.map cI)), (3, .ptr 64 0), (7, .sl 1 (xs.map cI)), (8, .g (.int .i64 xs.length)), (9, .g (.int .i64 (0 : Nat)))] (by simp [KpE, upd_app, lkE_app, lk_cons]), _, 0, rfl, Nat.zero_le _, by simp, rfl⟩
  · rintro m s ⟨i, rfl, hi, hok, rfl⟩
    refine AW_r rfl rfl fun K hK => ?_
    simp [creg_nil, creg_op, creg_gd, cO, cR, cG_bool, cG_undef, ↓spl_tt, ↓spl_tf, ↓spl_ft, ↓spl_ff, spl_ct, spl_cf, putC, nmC, aop, ev, cv, updL, upd_app, upd_upd, t3, t4, t28, t30, t33, lkE_app, lk_nil, lk_cons, aLen, aBuiltin, aBin, aIntBin, aFieldAddr, placeOf, aLoad, cellsAt, aUn, aIndexAddr, st0, valCells, isOne, Value.oneCell', aStore, setCells]
    refine hK _ ?_; clear hK K
    refine AW_seq (AW_cond (t := decide (i < xs.length)) (by simp [ev, upd_app]) (fun h5 => AW_skip ?_) (fun h5 => AW_exit ?_))
    · have h5 : i < xs.length := by simpa using h5
      refine AW_k [(0, .sl 1 (xs.map cI)), (3, .ptr 64 0), (7, .sl 1 (xs.map cI)), (8, .g (.int .i64 xs.length)), (9, .g (.int .i64 i))] (by simp [KpE, upd_app, lkE_app, lk_cons]) ?_
      refine AW_seq (AW_block (AW_r rfl rfl fun K hK => ?_))
      simp [creg_nil, creg_op, creg_gd, cO, cR, cG_bool, cG_undef, ↓spl_tt, ↓spl_tf, ↓spl_ft, ↓spl_ff, spl_ct, spl_cf, putC, nmC, aop, ev, cv, updL, upd_app, upd_upd, t3, t4, t28, t30, t33, lkE_app, lk_nil, lk_cons, aLen, aBuiltin, aBin, aIntBin, aFieldAddr, placeOf, aLoad, cellsAt, aUn, aIndexAddr, st0, valCells, isOne, Value.oneCell', aStore, setCells, cI, h5]
      refine hK _ ?_; clear hK K
      refine AW_k [(0, .sl 1 (xs.map cI)), (3, .ptr 64 0), (7, .sl 1 (xs.map cI)), (8, .g (.int .i64 xs.length)), (9, .g (.int .i64 i)), (5, .g (.int .i64 i)), (6, .g (.int .i64 xs[i]))] (by simp [KpE, upd_app, lkE_app, lk_cons]) ?_
      refine AW_r rfl rfl fun K hK => ?_
      have hout : ∀ (s : St), s.env 29 = .g (.bool (!okAt xs i)) → KpE s [(0, .sl 1 (xs.map cI)), (3, .ptr 64 0), (7, .sl 1 (xs.map cI)), (8, .g (.int .i64 xs.length)), (9, .g (.int .i64 i))] → s.ob = upd (formOb [] []) 64 (some (OB.cells [AV.g (Value.int IntKind.i64 a), AV.g (Value.int IntKind.i64 b), AV.g (Value.int IntKind.i64 c)])) → K s := by
        intro s g1 g2 g4
        refine hK s (AW_cond g1 (fun h6 => AW_r rfl rfl fun K hK => ?_) (fun h6 => AW_skip ?_))
        · simp [creg_nil, creg_op, creg_gd, cO, cR, cG_bool, cG_undef, ↓spl_tt, ↓spl_tf, ↓spl_ft, ↓spl_ff, spl_ct, spl_cf, putC, nmC, aop, ev, cv, updL, upd_app, upd_upd, t3, t4, t28, t30, t33, lkE_app, lk_nil, lk_cons, aLen, aBuiltin, aBin, aIntBin, aFieldAddr, placeOf, aLoad, cellsAt, aUn, aIndexAddr, st0, valCells, isOne, Value.oneCell', aStore, setCells]
          refine hK _ (AW_ret (end_1 rfl rfl ?_))
          have : (List.range xs.length).all (okAt xs) = false := by
            rw [List.all_eq_false]
            exact ⟨i, by simpa using h5, by simpa using h6⟩
          simp [upd_app, keepOk, this]
        · refine AW_k _ g2 ?_
          rw [g4]
          refine AW_re rfl rfl fun K hK => ?_
          simp [creg_nil, creg_op, creg_gd, cO, cR, cG_bool, cG_undef, ↓spl_tt, ↓spl_tf, ↓spl_ft, ↓spl_ff, spl_ct, spl_cf, putC, nmC, aop, ev, cv, updL, upd_app, upd_upd, t3, t4, t28, t30, t33, lkE_app, lk_nil, lk_cons, aLen, aBuiltin, aBin, aIntBin, aFieldAddr, placeOf, aLoad, cellsAt, aUn, aIndexAddr, st0, valCells, isOne, Value.oneCell', aStore, setCells]
          rw [wrap64 (by omega) (by omega)]
          refine hK _ ⟨_, LeS.kp [(0, .sl 1 (xs.map cI)), (3, .ptr 64 0), (7, .sl 1 (xs.map cI)), (8, .g (.int .i64 xs.length)), (9, .g (.int .i64 ((i + 1 : Nat) : Int)))] (by simp [KpE, upd_app, lkE_app, lk_cons]), _, ?_, i + 1, rfl, h5, ?_, rfl⟩
          · omega
          · intro j hj
            by_cases hji : j = i
            · subst hji; simpa using h6
            · exact hok j (by omega)
      clear hK
      have hi0 : i = 0 ∨ ∃ k, i = k + 1 := by cases i <;> simp
      rcases hi0 with rfl | ⟨k, rfl⟩
      · simp [creg_nil, creg_op, creg_gd, cO, cR, cG_bool, cG_undef, ↓spl_tt, ↓spl_tf, ↓spl_ft, ↓spl_ff, spl_ct, spl_cf, putC, nmC, aop, ev, cv, updL, upd_app, upd_upd, t3, t4, t28, t30, t33, lkE_app, lk_nil, lk_cons, aLen, aBuiltin, aBin, aIntBin, aFieldAddr, placeOf, aLoad, cellsAt, aUn, aIndexAddr, st0, valCells, isOne, Value.oneCell', aStore, setCells, cI, h5]
        refine CKd_p (am2s_cons am2_g (am2s_cons am2_g (am2s_cons am2_g am2s_nil))) (within _ _ _) rfl ?_
        simp [creg_nil, creg_op, creg_gd, cO, cR, cG_bool, cG_undef, ↓spl_tt, ↓spl_tf, ↓spl_ft, ↓spl_ff, spl_ct, spl_cf, putC, nmC, aop, ev, cv, updL, upd_app, upd_upd, t3, t4, t28, t30, t33, lkE_app, lk_nil, lk_cons, aLen, aBuiltin, aBin, aIntBin, aFieldAddr, placeOf, aLoad, cellsAt, aUn, aIndexAddr, st0, valCells, isOne, Value.oneCell', aStore, setCells]
        refine ⟨fun h7 h8 => ?_, fun h7 => ?_⟩
        all_goals refine hout _ ?_ (by simp [KpE, upd_app, lkE_app, lk_cons]) rfl
        all_goals simp [upd_app, okAt, h5]
        all_goals omega
      · have hw : IntKind.i64.wrap (k : Int) = k := wrap64 (by omega) (by omega)
        have hk : k < xs.length := by omega
        have hk0 : (0 : Int) ≤ k + 1 := by omega
        have hk1 : ((k : Int) + 1).toNat = k + 1 := by omega
        have hk2 : (k : Int) + 1 < xs.length := by omega
        have hk3 : (0 : Int) < k + 1 := by omega
        simp [creg_nil, creg_op, creg_gd, cO, cR, cG_bool, cG_undef, ↓spl_tt, ↓spl_tf, ↓spl_ft, ↓spl_ff, spl_ct, spl_cf, putC, nmC, aop, ev, cv, updL, upd_app, upd_upd, t3, t4, t28, t30, t33, lkE_app, lk_nil, lk_cons, aLen, aBuiltin, aBin, aIntBin, aFieldAddr, placeOf, aLoad, cellsAt, aUn, aIndexAddr, st0, valCells, isOne, Value.oneCell', aStore, setCells, cI, h5, hk0, hk1, hk2]
        refine CKd_p (am2s_cons am2_g (am2s_cons am2_g (am2s_cons am2_g am2s_nil))) (within _ _ _) rfl ?_
        simp [creg_nil, creg_op, creg_gd, cO, cR, cG_bool, cG_undef, ↓spl_tt, ↓spl_tf, ↓spl_ft, ↓spl_ff, spl_ct, spl_cf, putC, nmC, aop, ev, cv, updL, upd_app, upd_upd, t3, t4, t28, t30, t33, lkE_app, lk_nil, lk_cons, aLen, aBuiltin, aBin, aIntBin, aFieldAddr, placeOf, aLoad, cellsAt, aUn, aIndexAddr, st0, valCells, isOne, Value.oneCell', aStore, setCells, cI, hw, hk, hk0, hk1, hk2, hk3, h5]
        refine ⟨fun h7 h8 => ?_, fun h7 => ?_⟩
        all_goals refine hout _ ?_ (by simp [KpE, upd_app, lkE_app, lk_cons]) rfl
        all_goals simp [upd_app, okAt, h5, hk]
        all_goals first | omega | (rw [Bool.eq_iff_iff]; simp; omega)
    · have h5 : i = xs.length := by have : ¬ i < xs.length := by simpa using h5
                                    omega
      subst h5
      have hall : (List.range xs.length).all (okAt xs) = true := by
        rw [List.all_eq_true]
        intro j hj
        exact hok j (by simpa using hj)
      refine AW_r rfl rfl fun K hK => ?_
      have hfin : ∀ s : St, s.env 4 = .g (.bool (keepOk xs a b c)) → K s := fun s h => hK s (AW_ret (end_1 rfl rfl h))
      clear hK
      simp [creg_nil, creg_op, creg_gd, cO, cR, cG_bool, cG_undef, ↓spl_tt, ↓spl_tf, ↓spl_ft, ↓spl_ff, spl_ct, spl_cf, putC, nmC, aop, ev, cv, updL, upd_app, upd_upd, t3, t4, t28, t30, t33, lkE_app, lk_nil, lk_cons, aLen, aBuiltin, aBin, aIntBin, aFieldAddr, placeOf, aLoad, cellsAt, aUn, aIndexAddr, st0, valCells, isOne, Value.oneCell', aStore, setCells]
      refine ⟨fun h1 => CKd_p (am2s_cons am2_g (am2s_cons am2_g (am2s_cons am2_g am2s_nil))) (within _ _ _) rfl ?_, fun h1 => hfin _ (by simp [upd_app, keepOk]; omega)⟩
      simp [creg_nil, creg_op, creg_gd, cO, cR, cG_bool, cG_undef, ↓spl_tt, ↓spl_tf, ↓spl_ft, ↓spl_ff, spl_ct, spl_cf, putC, nmC, aop, ev, cv, updL, upd_app, upd_upd, t3, t4, t28, t30, t33, lkE_app, lk_nil, lk_cons, aLen, aBuiltin, aBin, aIntBin, aFieldAddr, placeOf, aLoad, cellsAt, aUn, aIndexAddr, st0, valCells, isOne, Value.oneCell', aStore, setCells]
      refine ⟨fun h2 h3 => CKd_p (am2s_cons am2_g (am2s_cons am2_g (am2s_cons am2_g am2s_nil))) (within _ _ _) rfl ?_, fun h2 => hfin _ (by simp [upd_app, keepOk]; omega)⟩
      simp [creg_nil, creg_op, creg_gd, cO, cR, cG_bool, cG_undef, ↓spl_tt, ↓spl_tf, ↓spl_ft, ↓spl_ff, spl_ct, spl_cf, putC, nmC, aop, ev, cv, updL, upd_app, upd_upd, t3, t4, t28, t30, t33, lkE_app, lk_nil, lk_cons, aLen, aBuiltin, aBin, aIntBin, aFieldAddr, placeOf, aLoad, cellsAt, aUn, aIndexAddr, st0, valCells, isOne, Value.oneCell', aStore, setCells]
      refine ⟨fun h4 h5 => CKd_p (am2s_cons am2_g (am2s_cons am2_g (am2s_cons am2_g am2s_nil))) (within _ _ _) rfl ?_, fun h4 => hfin _ (by simp [upd_app, keepOk]; omega)⟩
      simp [creg_nil, creg_op, creg_gd, cO, cR, cG_bool, cG_undef, ↓spl_tt, ↓spl_tf, ↓spl_ft, ↓spl_ff, spl_ct, spl_cf, putC, nmC, aop, ev, cv, updL, upd_app, upd_upd, t3, t4, t28, t30, t33, lkE_app, lk_nil, lk_cons, aLen, aBuiltin, aBin, aIntBin, aFieldAddr, placeOf, aLoad, cellsAt, aUn, aIndexAddr, st0, valCells, isOne, Value.oneCell', aStore, setCells]
      refine hfin _ ?_
      have h1' : xs.length ≤ 30 := by omega
      simp [upd_app, keepOk, hall, h1', h2, h3, h4, h5]
end Go.Proofs.Ythfajpgocmpbpaa.Vs
