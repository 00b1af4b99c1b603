import Derived.Test.YthfajpgocmpbpaaSK1
open Go Go.Proofs Go.Proofs.Ythfajpgocmpbpaa.Vs
namespace Go.Proofs.Ythfajpgocmpbpaa.Vs
set_option linter.unusedVariables false
set_option linter.unusedSimpArgs false
set_option linter.unusedSectionVars false
set_option linter.unnecessarySimpa false
set_option linter.all false
set_option linter.unusedSimpArgs false
def okAt (xs : List Int) (j : Nat) : Bool := decide (0 ≤ xs.getD j 0) && decide (xs.getD j 0 ≤ 100000) && (decide (j = 0) || decide (xs.getD (j - 1) 0 < xs.getD j 0))
def keepOk (xs : List Int) (a b c : Int) : Bool :=
  decide (xs.length ≤ 30) && (decide (0 ≤ a) && decide (a ≤ 30)) && (decide (0 ≤ b) && decide (b ≤ 30)) && (decide (0 ≤ c) && decide (c ≤ 30)) && (List.range xs.length).all (okAt xs)
theorem specKeepOk (xs : List Int) (a b c : Int) : PCall Try.prog 16 [.sl 1 (xs.map cI), .agg [.g (.int .i64 a), .g (.int .i64 b), .g (.int .i64 c)]] (.g (.bool (keepOk xs a b c))) := by
  refine gcall_of_walk Try.func16 (by rfl) (by rfl) (by rw [Try.ntmps16]; exact Nat.le_of_ble_eq_true rfl) rfl (by decide) ?_
  rw [Try.ntmps16]
  refine AW_r rfl rfl fun K hK => ?_
  simp [creg_nil, creg_op, creg_gd, cO, cR, cG_bool, cG_undef, ↓spl_tt, ↓spl_tf, ↓spl_ft, ↓spl_ff, spl_ct, spl_cf, putC, nmC, aop, ev, cv, updL, st0, upd_app, t33, valCells, formOb, isOne, Value.oneCell']
  refine hK _ ?_; clear hK K
  refine AW_k [(0, .sl 1 (xs.map cI)), (3, .ptr 64 0), (4, .g (.bool false))] (by simp [KpE, upd_app]) ?_
  refine AW_seq (AW_r rfl rfl fun K hK => ?_)
  have hT : ∀ s : St, s.env 26 = .g (.bool true) → (keepOk xs a b c) = false → K s := by
    intro s h1 h2
    refine hK s (AW_cond_true h1 (AW_r rfl rfl fun K hK => ?_))
    simp [creg_nil, creg_op, creg_gd, cO, cR, cG_bool, cG_undef, ↓spl_tt, ↓spl_tf, ↓spl_ft, ↓spl_ff, spl_ct, spl_cf, putC, nmC, aop, ev, cv, updL, upd_app, t33, t3, t4, t28, lkE_app, lk_nil, lk_cons, aLen, aBuiltin, aBin, aIntBin, aFieldAddr, placeOf, aLoad, cellsAt, aUn]
    refine hK _ (AW_ret (end_1 rfl rfl ?_))
    simp [upd_app, h2]
  have hF : ∀ s : St, s.env 26 = .g (.bool false) → s.env 0 = .sl 1 (xs.map cI) → s.ob = (upd (formOb [] []) 64 (some (OB.cells [AV.g (Value.int IntKind.i64 a), AV.g (Value.int IntKind.i64 b), AV.g (Value.int IntKind.i64 c)]))) → keepOk xs a b c = (List.range xs.length).all (okAt xs) → xs.length ≤ 30 → K s := by
    intro s h1 h2 h3 h4 h30
    refine hK s (AW_cond_false h1 (AW_skip ?_))
    refine AW_k [(0, .sl 1 (xs.map cI))] (by simp [KpE, h2]) ?_
    rw [h3]
    clear hT hK
    refine AW_seq (AW_r rfl rfl fun K hK => ?_)
    simp [creg_nil, creg_op, creg_gd, cO, cR, cG_bool, cG_undef, ↓spl_tt, ↓spl_tf, ↓spl_ft, ↓spl_ff, spl_ct, spl_cf, putC, nmC, aop, ev, cv, updL, upd_app, t33, t3, t4, t28, lkE_app, lk_nil, lk_cons, aLen, aBuiltin, aBin, aIntBin, aFieldAddr, placeOf, aLoad, cellsAt, aUn]
    refine hK _ ?_; clear hK K
    refine AW_block ?_
    refine AW_loopS (fun m s => ∃ i : Nat, m = xs.length - i ∧ i ≤ xs.length ∧ (∀ j, j < i → okAt xs j = true) ∧ s = { env := lkE [(0, .sl 1 (xs.map cI)), (5, .g (.int .i64 i))], ob := (upd (formOb [] []) 64 (some (OB.cells [AV.g (Value.int IntKind.i64 a), AV.g (Value.int IntKind.i64 b), AV.g (Value.int IntKind.i64 c)]))) }) ?_ ?_
    · exact ⟨_, LeS.kp [(0, .sl 1 (xs.map cI)), (5, .g (.int .i64 (0 : Nat)))] (by simp [KpE, upd_app, lkE_app, lk_cons]), _, 0, rfl, Nat.zero_le _, by simp, rfl⟩
    · rintro m s ⟨i, rfl, hi, hok, rfl⟩
      refine AW_seq (AW_r rfl rfl fun K hK => ?_)
      simp [creg_nil, creg_op, creg_gd, cO, cR, cG_bool, cG_undef, ↓spl_tt, ↓spl_tf, ↓spl_ft, ↓spl_ff, spl_ct, spl_cf, putC, nmC, aop, ev, cv, updL, upd_app, t33, t3, t4, t28, lkE_app, lk_nil, lk_cons, aLen, aBuiltin, aBin, aIntBin, aFieldAddr, placeOf, aLoad, cellsAt, aUn, aIndexAddr]
      refine hK _ ?_; clear hK K
      refine AW_cond (t := decide (i < xs.length)) (by simp [ev, upd_app]) (fun h5 => AW_skip ?_) (fun h5 => AW_exit ?_)
      · have h5 : i < xs.length := by simpa using h5
        refine AW_k [(0, .sl 1 (xs.map cI)), (5, .g (.int .i64 i))] (by simp [KpE, upd_app, lkE_app, lk_cons]) ?_
        have hg : (Option.map cI xs[i]?).getD [] = [.g (.int .i64 (xs[i]?.getD 0))] := by simp [h5, cI]
        refine AW_seq (AW_block (AW_q rfl mix (by kernel_rfl) rfl fun K hK => ?_))
        have hout : ∀ (s : St), s.env 54 = .g (.bool (!okAt xs i)) → s.env 0 = .sl 1 (xs.map cI) → s.env 5 = .g (.int .i64 i) → s.ob = (upd (formOb [] []) 64 (some (OB.cells [AV.g (Value.int IntKind.i64 a), AV.g (Value.int IntKind.i64 b), AV.g (Value.int IntKind.i64 c)]))) → K s := by
          intro s g1 g2 g3 g4
          refine hK s (AW_cond g1 (fun h6 => AW_r rfl rfl fun K hK => ?_) (fun h6 => AW_skip ?_))
          · simp [creg_nil, creg_op, creg_gd, cO, cR, cG_bool, cG_undef, ↓spl_tt, ↓spl_tf, ↓spl_ft, ↓spl_ff, spl_ct, spl_cf, putC, nmC, aop, ev, cv, updL, upd_app, t33, t3, t4, t28, lkE_app, lk_nil, lk_cons, aLen, aBuiltin, aBin, aIntBin, aFieldAddr, placeOf, aLoad, cellsAt, aUn, aIndexAddr]
            refine hK _ (AW_ret (end_1 rfl rfl ?_))
            simp [upd_app, h4]
            exact ⟨i, h5, by simpa using h6⟩
          · refine AW_k [(0, .sl 1 (xs.map cI)), (5, .g (.int .i64 i))] (by simp [KpE, g2, g3]) ?_
            rw [g4]
            refine AW_re rfl rfl fun K hK => ?_
            simp [creg_nil, creg_op, creg_gd, cO, cR, cG_bool, cG_undef, ↓spl_tt, ↓spl_tf, ↓spl_ft, ↓spl_ff, spl_ct, spl_cf, putC, nmC, aop, ev, cv, updL, upd_app, t33, t3, t4, t28, lkE_app, lk_nil, lk_cons, aLen, aBuiltin, aBin, aIntBin, aFieldAddr, placeOf, aLoad, cellsAt, aUn, aIndexAddr]
            rw [wrap64 (by omega) (by omega)]
            refine hK _ ⟨_, LeS.kp [(0, .sl 1 (xs.map cI)), (5, .g (.int .i64 ((i + 1 : Nat) : Int)))] (by simp [KpE, upd_app, lkE_app, lk_cons]), _, ?_, i + 1, rfl, h5, ?_, rfl⟩
            · omega
            · intro j hj
              by_cases hji : j = i
              · subst hji; simpa using h6
              · exact hok j (by omega)
        clear hK
        have hi0 : i = 0 ∨ ∃ k, i = k + 1 := by cases i <;> simp
        rcases hi0 with rfl | ⟨k, rfl⟩
        · simp [creg_nil, creg_op, creg_gd, cO, cR, cG_bool, cG_undef, ↓spl_tt, ↓spl_tf, ↓spl_ft, ↓spl_ff, spl_ct, spl_cf, putC, nmC, aop, ev, cv, updL, upd_app, t33, t3, t4, t28, lkE_app, lk_nil, lk_cons, aLen, aBuiltin, aBin, aIntBin, aFieldAddr, placeOf, aLoad, cellsAt, aUn, aIndexAddr, cI, h5]
          refine CKd_p (am2s_cons am2_g (am2s_cons am2_g (am2s_cons am2_g am2s_nil))) (l1In _ _ _) rfl ?_
          simp [creg_nil, creg_op, creg_gd, cO, cR, cG_bool, cG_undef, ↓spl_tt, ↓spl_tf, ↓spl_ft, ↓spl_ff, spl_ct, spl_cf, putC, nmC, aop, ev, cv, updL, upd_app, t33, t3, t4, t28, lkE_app, lk_nil, lk_cons, aLen, aBuiltin, aBin, aIntBin, aFieldAddr, placeOf, aLoad, cellsAt, aUn, aIndexAddr]
          refine ⟨fun h7 h8 => ?_, fun h7 => ?_⟩
          all_goals refine hout _ ?_ (by simp [upd_app, lkE_app, lk_cons]) (by simp [upd_app, lkE_app, lk_cons]) rfl
          all_goals simp [upd_app, okAt, h5]
          all_goals omega
        · have hw : IntKind.i64.wrap (k : Int) = k := wrap64 (by omega) (by omega)
          have hk : k < xs.length := by omega
          have hk0 : (0 : Int) ≤ k + 1 := by omega
          have hk1 : ((k : Int) + 1).toNat = k + 1 := by omega
          have hk2 : (k : Int) + 1 < xs.length := by omega
          have hk3 : (0 : Int) < k + 1 := by omega
          simp [creg_nil, creg_op, creg_gd, cO, cR, cG_bool, cG_undef, ↓spl_tt, ↓spl_tf, ↓spl_ft, ↓spl_ff, spl_ct, spl_cf, putC, nmC, aop, ev, cv, updL, upd_app, t33, t3, t4, t28, lkE_app, lk_nil, lk_cons, aLen, aBuiltin, aBin, aIntBin, aFieldAddr, placeOf, aLoad, cellsAt, aUn, aIndexAddr, cI, h5, hk0, hk1, hk2]
          refine CKd_p (am2s_cons am2_g (am2s_cons am2_g (am2s_cons am2_g am2s_nil))) (l1In _ _ _) rfl ?_
          simp [creg_nil, creg_op, creg_gd, cO, cR, cG_bool, cG_undef, ↓spl_tt, ↓spl_tf, ↓spl_ft, ↓spl_ff, spl_ct, spl_cf, putC, nmC, aop, ev, cv, updL, upd_app, t33, t3, t4, t28, lkE_app, lk_nil, lk_cons, aLen, aBuiltin, aBin, aIntBin, aFieldAddr, placeOf, aLoad, cellsAt, aUn, aIndexAddr, cI, hw, hk, hk0, hk1, hk2, hk3, h5]
          refine ⟨fun h7 h8 => ?_, fun h7 => ?_⟩
          all_goals refine hout _ ?_ (by simp [upd_app, lkE_app, lk_cons]) (by simp [upd_app, lkE_app, lk_cons]) rfl
          all_goals simp [upd_app, okAt, h5, hk]
          all_goals first | omega | (rw [Bool.eq_iff_iff]; simp; omega)
      · have h5 : i = xs.length := by have : ¬ i < xs.length := by simpa using h5
                                      omega
        refine AW_r rfl rfl fun K hK => ?_
        simp [creg_nil, creg_op, creg_gd, cO, cR, cG_bool, cG_undef, ↓spl_tt, ↓spl_tf, ↓spl_ft, ↓spl_ff, spl_ct, spl_cf, putC, nmC, aop, ev, cv, updL, upd_app, t33, t3, t4, t28, lkE_app, lk_nil, lk_cons, aLen, aBuiltin, aBin, aIntBin, aFieldAddr, placeOf, aLoad, cellsAt, aUn, aIndexAddr]
        refine hK _ (AW_ret (end_1 rfl rfl ?_))
        simp [upd_app, h4]
        intro j hj
        exact hok j (by omega)
  simp [creg_nil, creg_op, creg_gd, cO, cR, cG_bool, cG_undef, ↓spl_tt, ↓spl_tf, ↓spl_ft, ↓spl_ff, spl_ct, spl_cf, putC, nmC, aop, ev, cv, updL, upd_app, t33, t3, t4, t28, lkE_app, lk_nil, lk_cons, aLen, aBuiltin, aBin, aIntBin, aFieldAddr, placeOf, aLoad, cellsAt, aUn]
  refine ⟨fun h1 => CKd_p (am2s_cons am2_g (am2s_cons am2_g (am2s_cons am2_g am2s_nil))) (l1In _ _ _) rfl ?_, fun h1 => hT _ (by simp [upd_app]) (by simp [keepOk]; omega)⟩
  simp [creg_nil, creg_op, creg_gd, cO, cR, cG_bool, cG_undef, ↓spl_tt, ↓spl_tf, ↓spl_ft, ↓spl_ff, spl_ct, spl_cf, putC, nmC, aop, ev, cv, updL, upd_app, t33, t3, t4, t28, lkE_app, lk_nil, lk_cons, aLen, aBuiltin, aBin, aIntBin, aFieldAddr, placeOf, aLoad, cellsAt, aUn]
  refine ⟨fun h2 h3 => CKd_p (am2s_cons am2_g (am2s_cons am2_g (am2s_cons am2_g am2s_nil))) (l1In _ _ _) rfl ?_, fun h2 => hT _ (by simp [upd_app]) (by simp [keepOk]; omega)⟩
  simp [creg_nil, creg_op, creg_gd, cO, cR, cG_bool, cG_undef, ↓spl_tt, ↓spl_tf, ↓spl_ft, ↓spl_ff, spl_ct, spl_cf, putC, nmC, aop, ev, cv, updL, upd_app, t33, t3, t4, t28, lkE_app, lk_nil, lk_cons, aLen, aBuiltin, aBin, aIntBin, aFieldAddr, placeOf, aLoad, cellsAt, aUn]
  refine ⟨fun h4 h5 => CKd_p (am2s_cons am2_g (am2s_cons am2_g (am2s_cons am2_g am2s_nil))) (l1In _ _ _) rfl ?_, fun h4 => hT _ (by simp [upd_app]) (by simp [keepOk]; omega)⟩
  simp [creg_nil, creg_op, creg_gd, cO, cR, cG_bool, cG_undef, ↓spl_tt, ↓spl_tf, ↓spl_ft, ↓spl_ff, spl_ct, spl_cf, putC, nmC, aop, ev, cv, updL, upd_app, t33, t3, t4, t28, lkE_app, lk_nil, lk_cons, aLen, aBuiltin, aBin, aIntBin, aFieldAddr, placeOf, aLoad, cellsAt, aUn]
  by_cases h6 : 0 ≤ c ∧ c ≤ 30
  · refine hF _ ?_ ?_ ?_ ?_ (by omega)
    · simp [upd_app, h6]
    · simp [upd_app, lkE_app, lk_cons]
    · rfl
    · simp [keepOk]; omega
  · refine hT _ ?_ ?_
    · simp [upd_app]; omega
    · simp [keepOk]; omega
end Go.Proofs.Ythfajpgocmpbpaa.Vs
