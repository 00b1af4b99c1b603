import Derived.Test.YthfajpgocmpbpaaSKB
open Go Go.Proofs Go.Proofs.Ythfajpgocmpbpaa.Vs
namespace Go.Proofs.Ythfajpgocmpbpaa.Vs
set_option linter.unusedVariables false
set_option linter.unusedSimpArgs false
set_option linter.unusedSectionVars false
set_option linter.unnecessarySimpa false
set_option linter.all false
set_option linter.unusedSimpArgs false
theorem l1In (a b c : Int) : PCall Try.prog 46 [.g (.int .i64 a), .g (.int .i64 b), .g (.int .i64 c)] (.g (.bool (decide (b ≤ a) && decide (a ≤ c)))) := by
  refine gcall_of_walk Try.func46 (by rfl) (by rfl) (by rw [Try.ntmps46]; exact Nat.le_of_ble_eq_true rfl) rfl (by decide) ?_
  rw [Try.ntmps46]
  refine AW_r rfl rfl fun K hK => ?_
  simp [creg_nil, creg_op, creg_gd, cO, cR, cG_bool, cG_undef, ↓spl_tt, ↓spl_tf, ↓spl_ft, ↓spl_ff, spl_ct, spl_cf, putC, nmC, aop, ev, cv, updL, upd_app, upd_upd, t3, t4, t28, t30, t33, lkE_app, lk_nil, lk_cons, aLen, aBuiltin, aBin, aIntBin, aFieldAddr, placeOf, aLoad, cellsAt, aUn, aIndexAddr, st0, formOb, valCells, isOne, Value.oneCell', aStore, setCells]
  refine hK _ ?_; clear hK K
  refine AW_r rfl rfl fun K hK => ?_
  simp [creg_nil, creg_op, creg_gd, cO, cR, cG_bool, cG_undef, ↓spl_tt, ↓spl_tf, ↓spl_ft, ↓spl_ff, spl_ct, spl_cf, putC, nmC, aop, ev, cv, updL, upd_app, upd_upd, t3, t4, t28, t30, t33, lkE_app, lk_nil, lk_cons, aLen, aBuiltin, aBin, aIntBin, aFieldAddr, placeOf, aLoad, cellsAt, aUn, aIndexAddr, st0, formOb, valCells, isOne, Value.oneCell', aStore, setCells]
  exact ⟨fun h => hK _ (AW_ret (end_1 rfl rfl (by simp [upd_app, h]))), fun h => hK _ (AW_ret (end_1 rfl rfl (by simp [upd_app]; omega)))⟩
theorem within (a b c : Int) : PCall Try.prog 47 [.g (.int .i64 a), .g (.int .i64 b), .g (.int .i64 c)] (.g (.bool (decide (b ≤ a) && decide (a ≤ c)))) := by
  refine gcall_of_walk Try.func47 (by rfl) (by rfl) (by rw [Try.ntmps47]; exact Nat.le_of_ble_eq_true rfl) rfl (by decide) ?_
  rw [Try.ntmps47]
  refine AW_r rfl rfl fun K hK => ?_
  simp [creg_nil, creg_op, creg_gd, cO, cR, cG_bool, cG_undef, ↓spl_tt, ↓spl_tf, ↓spl_ft, ↓spl_ff, spl_ct, spl_cf, putC, nmC, aop, ev, cv, updL, upd_app, upd_upd, t3, t4, t28, t30, t33, lkE_app, lk_nil, lk_cons, aLen, aBuiltin, aBin, aIntBin, aFieldAddr, placeOf, aLoad, cellsAt, aUn, aIndexAddr, st0, formOb, valCells, isOne, Value.oneCell', aStore, setCells]
  refine hK _ ?_; clear hK K
  refine AW_r rfl rfl fun K hK => ?_
  simp [creg_nil, creg_op, creg_gd, cO, cR, cG_bool, cG_undef, ↓spl_tt, ↓spl_tf, ↓spl_ft, ↓spl_ff, spl_ct, spl_cf, putC, nmC, aop, ev, cv, updL, upd_app, upd_upd, t3, t4, t28, t30, t33, lkE_app, lk_nil, lk_cons, aLen, aBuiltin, aBin, aIntBin, aFieldAddr, placeOf, aLoad, cellsAt, aUn, aIndexAddr, st0, formOb, valCells, isOne, Value.oneCell', aStore, setCells]
  exact ⟨fun h => hK _ (AW_ret (end_1 rfl rfl (by simp [upd_app, h]))), fun h => hK _ (AW_ret (end_1 rfl rfl (by simp [upd_app]; omega)))⟩
theorem toRule (a b c : Int) : PCall Try.prog 18 [.agg [.g (.int .i64 a), .g (.int .i64 b), .g (.int .i64 c)]] (.agg [.g (.int .i64 a), .g (.int .i64 b), .g (.int .i64 c)]) := by
  refine gcall_of_walk Try.func18 (by rfl) (by rfl) (by rw [Try.ntmps18]; exact Nat.le_of_ble_eq_true rfl) rfl (by decide) ?_
  rw [Try.ntmps18]
  refine AW_r rfl rfl fun K hK => ?_
  simp [creg_nil, creg_op, creg_gd, cO, cR, cG_bool, cG_undef, ↓spl_tt, ↓spl_tf, ↓spl_ft, ↓spl_ff, spl_ct, spl_cf, putC, nmC, aop, ev, cv, updL, upd_app, upd_upd, t3, t4, t28, t30, t33, lkE_app, lk_nil, lk_cons, aLen, aBuiltin, aBin, aIntBin, aFieldAddr, placeOf, aLoad, cellsAt, aUn, aIndexAddr, st0, formOb, valCells, isOne, Value.oneCell', aStore, setCells]
  refine hK _ ?_; clear hK K
  refine AW_r rfl rfl fun K hK => ?_
  simp [creg_nil, creg_op, creg_gd, cO, cR, cG_bool, cG_undef, ↓spl_tt, ↓spl_tf, ↓spl_ft, ↓spl_ff, spl_ct, spl_cf, putC, nmC, aop, ev, cv, updL, upd_app, upd_upd, t3, t4, t28, t30, t33, lkE_app, lk_nil, lk_cons, aLen, aBuiltin, aBin, aIntBin, aFieldAddr, placeOf, aLoad, cellsAt, aUn, aIndexAddr, st0, formOb, valCells, isOne, Value.oneCell', aStore, setCells]
  refine hK _ ?_; clear hK K
  refine AW_r rfl rfl fun K hK => ?_
  simp [creg_nil, creg_op, creg_gd, cO, cR, cG_bool, cG_undef, ↓spl_tt, ↓spl_tf, ↓spl_ft, ↓spl_ff, spl_ct, spl_cf, putC, nmC, aop, ev, cv, updL, upd_app, upd_upd, t3, t4, t28, t30, t33, lkE_app, lk_nil, lk_cons, aLen, aBuiltin, aBin, aIntBin, aFieldAddr, placeOf, aLoad, cellsAt, aUn, aIndexAddr, st0, formOb, valCells, isOne, Value.oneCell', aStore, setCells]
  refine hK _ ?_; clear hK K
  refine AW_r rfl rfl fun K hK => ?_
  simp [creg_nil, creg_op, creg_gd, cO, cR, cG_bool, cG_undef, ↓spl_tt, ↓spl_tf, ↓spl_ft, ↓spl_ff, spl_ct, spl_cf, putC, nmC, aop, ev, cv, updL, upd_app, upd_upd, t3, t4, t28, t30, t33, lkE_app, lk_nil, lk_cons, aLen, aBuiltin, aBin, aIntBin, aFieldAddr, placeOf, aLoad, cellsAt, aUn, aIndexAddr, st0, formOb, valCells, isOne, Value.oneCell', aStore, setCells]
  refine hK _ ?_; clear hK K
  refine AW_r rfl rfl fun K hK => ?_
  simp [creg_nil, creg_op, creg_gd, cO, cR, cG_bool, cG_undef, ↓spl_tt, ↓spl_tf, ↓spl_ft, ↓spl_ff, spl_ct, spl_cf, putC, nmC, aop, ev, cv, updL, upd_app, upd_upd, t3, t4, t28, t30, t33, lkE_app, lk_nil, lk_cons, aLen, aBuiltin, aBin, aIntBin, aFieldAddr, placeOf, aLoad, cellsAt, aUn, aIndexAddr, st0, formOb, valCells, isOne, Value.oneCell', aStore, setCells]
  refine hK _ ?_; clear hK K
  refine AW_r rfl rfl fun K hK => ?_
  simp [creg_nil, creg_op, creg_gd, cO, cR, cG_bool, cG_undef, ↓spl_tt, ↓spl_tf, ↓spl_ft, ↓spl_ff, spl_ct, spl_cf, putC, nmC, aop, ev, cv, updL, upd_app, upd_upd, t3, t4, t28, t30, t33, lkE_app, lk_nil, lk_cons, aLen, aBuiltin, aBin, aIntBin, aFieldAddr, placeOf, aLoad, cellsAt, aUn, aIndexAddr, st0, formOb, valCells, isOne, Value.oneCell', aStore, setCells]
  refine hK _ ?_; clear hK K
  refine AW_ret (end_cell rfl (p := True) (v := .agg [.g (.int .i64 a), .g (.int .i64 b), .g (.int .i64 c)]) (u := []) ?_ trivial (am2_agg rfl))
  simp [creg_nil, creg_op, creg_gd, cO, cR, cG_bool, cG_undef, ↓spl_tt, ↓spl_tf, ↓spl_ft, ↓spl_ff, spl_ct, spl_cf, putC, nmC, aop, ev, cv, updL, upd_app, upd_upd, t3, t4, t28, t30, t33, lkE_app, lk_nil, lk_cons, aLen, aBuiltin, aBin, aIntBin, aFieldAddr, placeOf, aLoad, cellsAt, aUn, aIndexAddr, st0, formOb, valCells, isOne, Value.oneCell', aStore, setCells]
theorem eqIntS (xs ys : List Int) (hn : xs.length ≤ 1048576) : PCall Try.prog 20 [.sl 1 (xs.map cI), .sl 1 (ys.map cI)] (.g (.bool (decide (xs = ys)))) := by
  refine gcall_of_walk Try.func20 (by rfl) (by rfl) (by rw [Try.ntmps20]; exact Nat.le_of_ble_eq_true rfl) rfl (by decide) ?_
  rw [Try.ntmps20]
  refine AW_r rfl rfl fun K hK => ?_
  simp [creg_nil, creg_op, creg_gd, cO, cR, cG_bool, cG_undef, ↓spl_tt, ↓spl_tf, ↓spl_ft, ↓spl_ff, spl_ct, spl_cf, putC, nmC, aop, ev, cv, updL, upd_app, upd_upd, t3, t4, t28, t30, t33, lkE_app, lk_nil, lk_cons, aLen, aBuiltin, aBin, aIntBin, aFieldAddr, placeOf, aLoad, cellsAt, aUn, aIndexAddr, st0, formOb, valCells, isOne, Value.oneCell', aStore, setCells]
  refine hK _ ?_; clear hK K
  refine AW_seq (AW_r rfl rfl fun K hK => ?_)
  simp [creg_nil, creg_op, creg_gd, cO, cR, cG_bool, cG_undef, ↓spl_tt, ↓spl_tf, ↓spl_ft, ↓spl_ff, spl_ct, spl_cf, putC, nmC, aop, ev, cv, updL, upd_app, upd_upd, t3, t4, t28, t30, t33, lkE_app, lk_nil, lk_cons, aLen, aBuiltin, aBin, aIntBin, aFieldAddr, placeOf, aLoad, cellsAt, aUn, aIndexAddr, st0, formOb, valCells, isOne, Value.oneCell', aStore, setCells]
  refine hK _ ?_; clear hK K
  refine AW_cond (t := ((xs.length : Int) != (ys.length : Int))) (by simp [ev, upd_app]) (fun h5 => ?_) (fun h5 => AW_skip ?_)
  · have h5 : xs.length ≠ ys.length := by simp at h5; omega
    refine AW_r rfl rfl fun K hK => ?_
    simp [creg_nil, creg_op, creg_gd, cO, cR, cG_bool, cG_undef, ↓spl_tt, ↓spl_tf, ↓spl_ft, ↓spl_ff, spl_ct, spl_cf, putC, nmC, aop, ev, cv, updL, upd_app, upd_upd, t3, t4, t28, t30, t33, lkE_app, lk_nil, lk_cons, aLen, aBuiltin, aBin, aIntBin, aFieldAddr, placeOf, aLoad, cellsAt, aUn, aIndexAddr, st0, formOb, valCells, isOne, Value.oneCell', aStore, setCells]
    refine hK _ (AW_ret (end_1 rfl rfl ?_))
    have : xs ≠ ys := by rintro rfl; exact h5 rfl
    simp [upd_app, this]
  · have h5 : xs.length = ys.length := by simp at h5; omega
    refine AW_k [(0, .sl 1 (xs.map cI)), (1, .sl 1 (ys.map cI))] (by simp [KpE, upd_app, lkE_app, lk_cons]) ?_
    refine AW_seq (AW_r rfl rfl fun K hK => ?_)
    simp [creg_nil, creg_op, creg_gd, cO, cR, cG_bool, cG_undef, ↓spl_tt, ↓spl_tf, ↓spl_ft, ↓spl_ff, spl_ct, spl_cf, putC, nmC, aop, ev, cv, updL, upd_app, upd_upd, t3, t4, t28, t30, t33, lkE_app, lk_nil, lk_cons, aLen, aBuiltin, aBin, aIntBin, aFieldAddr, placeOf, aLoad, cellsAt, aUn, aIndexAddr, st0, formOb, valCells, isOne, Value.oneCell', aStore, setCells]
    refine hK _ ?_; clear hK K
    refine AW_block ?_
    refine AW_loopS (fun m s => ∃ i : Nat, m = xs.length - i ∧ i ≤ xs.length ∧ (∀ j, j < i → xs[j]? = ys[j]?) ∧ s = { env := lkE [(0, .sl 1 (xs.map cI)), (1, .sl 1 (ys.map cI)), (5, .g (.int .i64 i))], ob := formOb [] [] }) ?_ ?_
    · exact ⟨_, LeS.kp [(0, .sl 1 (xs.map cI)), (1, .sl 1 (ys.map cI)), (5, .g (.int .i64 (0 : Nat)))] (by simp [KpE, upd_app, lkE_app, lk_cons]), _, 0, rfl, Nat.zero_le _, by simp, rfl⟩
    · rintro m s ⟨i, rfl, hi, hpre, rfl⟩
      refine AW_seq (AW_r rfl rfl fun K hK => ?_)
      simp [creg_nil, creg_op, creg_gd, cO, cR, cG_bool, cG_undef, ↓spl_tt, ↓spl_tf, ↓spl_ft, ↓spl_ff, spl_ct, spl_cf, putC, nmC, aop, ev, cv, updL, upd_app, upd_upd, t3, t4, t28, t30, t33, lkE_app, lk_nil, lk_cons, aLen, aBuiltin, aBin, aIntBin, aFieldAddr, placeOf, aLoad, cellsAt, aUn, aIndexAddr, st0, formOb, valCells, isOne, Value.oneCell', aStore, setCells]
      refine hK _ ?_; clear hK K
      refine AW_cond (t := decide (i < xs.length)) (by simp [ev, upd_app]) (fun h6 => AW_skip ?_) (fun h6 => AW_exit ?_)
      · have h6 : i < xs.length := by simpa using h6
        have h7 : i < ys.length := by omega
        refine AW_k [(0, .sl 1 (xs.map cI)), (1, .sl 1 (ys.map cI)), (5, .g (.int .i64 i))] (by simp [KpE, upd_app, lkE_app, lk_cons]) ?_
        refine AW_seq (AW_block (AW_q rfl mix (by kernel_rfl) rfl fun K hK => ?_))
        simp [creg_nil, creg_op, creg_gd, cO, cR, cG_bool, cG_undef, ↓spl_tt, ↓spl_tf, ↓spl_ft, ↓spl_ff, spl_ct, spl_cf, putC, nmC, aop, ev, cv, updL, upd_app, upd_upd, t3, t4, t28, t30, t33, lkE_app, lk_nil, lk_cons, aLen, aBuiltin, aBin, aIntBin, aFieldAddr, placeOf, aLoad, cellsAt, aUn, aIndexAddr, st0, formOb, valCells, isOne, Value.oneCell', aStore, setCells, cI, h6, h7]
        refine hK _ ?_; clear hK K
        refine AW_cond (t := decide (xs[i] ≠ ys[i])) (by simp [ev, upd_app]; try rfl) (fun h8 => ?_) (fun h8 => AW_skip ?_)
        · have h8 : xs[i] ≠ ys[i] := by simpa using h8
          refine AW_r rfl rfl fun K hK => ?_
          simp [creg_nil, creg_op, creg_gd, cO, cR, cG_bool, cG_undef, ↓spl_tt, ↓spl_tf, ↓spl_ft, ↓spl_ff, spl_ct, spl_cf, putC, nmC, aop, ev, cv, updL, upd_app, upd_upd, t3, t4, t28, t30, t33, lkE_app, lk_nil, lk_cons, aLen, aBuiltin, aBin, aIntBin, aFieldAddr, placeOf, aLoad, cellsAt, aUn, aIndexAddr, st0, formOb, valCells, isOne, Value.oneCell', aStore, setCells]
          refine hK _ (AW_ret (end_1 rfl rfl ?_))
          have : xs ≠ ys := by rintro rfl; exact h8 rfl
          simp [upd_app, this]
        · have h8 : xs[i] = ys[i] := by simpa using h8
          refine AW_k [(0, .sl 1 (xs.map cI)), (1, .sl 1 (ys.map cI)), (5, .g (.int .i64 i))] (by simp [KpE, upd_app, lkE_app, lk_cons]; try rfl) ?_
          refine AW_re rfl rfl fun K hK => ?_
          simp [creg_nil, creg_op, creg_gd, cO, cR, cG_bool, cG_undef, ↓spl_tt, ↓spl_tf, ↓spl_ft, ↓spl_ff, spl_ct, spl_cf, putC, nmC, aop, ev, cv, updL, upd_app, upd_upd, t3, t4, t28, t30, t33, lkE_app, lk_nil, lk_cons, aLen, aBuiltin, aBin, aIntBin, aFieldAddr, placeOf, aLoad, cellsAt, aUn, aIndexAddr, st0, formOb, valCells, isOne, Value.oneCell', aStore, setCells]
          rw [wrap64 (by omega) (by omega)]
          refine hK _ ⟨_, LeS.kp [(0, .sl 1 (xs.map cI)), (1, .sl 1 (ys.map cI)), (5, .g (.int .i64 ((i + 1 : Nat) : Int)))] (by simp [KpE, upd_app, lkE_app, lk_cons]; try rfl), _, ?_, i + 1, rfl, h6, ?_, rfl⟩
          · omega
          · intro j hj
            by_cases hji : j = i
            · subst hji; simp [h6, h7, h8]
            · exact hpre j (by omega)
      · have h6 : i = xs.length := by have : ¬ i < xs.length := by simpa using h6
                                      omega
        subst h6
        have : xs = ys := List.ext_getElem? fun j => by
          by_cases hj : j < xs.length
          · exact hpre j hj
          · rw [List.getElem?_eq_none (by omega), List.getElem?_eq_none (by omega)]
        refine AW_r rfl rfl fun K hK => ?_
        simp [creg_nil, creg_op, creg_gd, cO, cR, cG_bool, cG_undef, ↓spl_tt, ↓spl_tf, ↓spl_ft, ↓spl_ff, spl_ct, spl_cf, putC, nmC, aop, ev, cv, updL, upd_app, upd_upd, t3, t4, t28, t30, t33, lkE_app, lk_nil, lk_cons, aLen, aBuiltin, aBin, aIntBin, aFieldAddr, placeOf, aLoad, cellsAt, aUn, aIndexAddr, st0, formOb, valCells, isOne, Value.oneCell', aStore, setCells]
        refine hK _ (AW_ret (end_1 rfl rfl ?_))
        simp [upd_app, this]
end Go.Proofs.Ythfajpgocmpbpaa.Vs
