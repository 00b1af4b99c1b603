import Derived.Test.YthfajpgocmpbpaaSK3
import Derived.Test.YthfajpgocmpbpaaSK4
open Go Go.Proofs Go.Proofs.Ythfajpgocmpbpaa.Vs
namespace Go.Proofs.Ythfajpgocmpbpaa.Vs
set_option linter.unusedVariables false
set_option linter.unusedSimpArgs false
set_option linter.unusedSectionVars false
set_option linter.unnecessarySimpa false
set_option linter.all false
set_option linter.unusedSimpArgs false
theorem lawKeepOk (xs : List Int) (a b c : Int) (hm : xs.length ≤ maxLen) : PCall Try.prog 4 [.sl 1 (xs.map cI), .agg [.g (.int .i64 a), .g (.int .i64 b), .g (.int .i64 c)]] (.g (.bool true)) := by
  refine gcall_of_walk Try.func4 (by rfl) (by rfl) (by rw [Try.ntmps4]; exact Nat.le_of_ble_eq_true rfl) rfl (by decide) ?_
  rw [Try.ntmps4]
  refine AW_r rfl rfl fun K hK => ?_
  simp [creg_nil, creg_op, creg_gd, cO, cR, cG_bool, cG_undef, ↓spl_tt, ↓spl_tf, ↓spl_ft, ↓spl_ff, spl_ct, spl_cf, putC, nmC, aop, ev, cv, updL, upd_app, upd_upd, t3, t4, t28, t30, t33, u4, lkE_app, lk_nil, lk_cons, aLen, aBuiltin, aBin, aIntBin, aFieldAddr, placeOf, aLoad, cellsAt, aUn, aIndexAddr, st0, valCells, isOne, Value.oneCell', aStore, setCells, formOb]
  refine hK _ ?_; clear hK K
  refine AW_k [(0, .sl 1 (xs.map cI)), (3, .ptr 64 0)] (by simp [KpE, upd_app]) ?_
  refine AW_seq (AW_r rfl rfl fun K hK => ?_)
  simp [creg_nil, creg_op, creg_gd, cO, cR, cG_bool, cG_undef, ↓spl_tt, ↓spl_tf, ↓spl_ft, ↓spl_ff, spl_ct, spl_cf, putC, nmC, aop, ev, cv, updL, upd_app, upd_upd, t3, t4, t28, t30, t33, u4, lkE_app, lk_nil, lk_cons, aLen, aBuiltin, aBin, aIntBin, aFieldAddr, placeOf, aLoad, cellsAt, aUn, aIndexAddr, st0, valCells, isOne, Value.oneCell', aStore, setCells]
  refine hK _ ?_; clear hK K
  refine AW_cond (t := decide ((1048576 : Int) < xs.length)) (by simp [ev, upd_app]) (fun h5 => ?_) (fun h5 => AW_skip ?_)
  · refine AW_r rfl rfl fun K hK => ?_
    simp [creg_nil, creg_op, creg_gd, cO, cR, cG_bool, cG_undef, ↓spl_tt, ↓spl_tf, ↓spl_ft, ↓spl_ff, spl_ct, spl_cf, putC, nmC, aop, ev, cv, updL, upd_app, upd_upd, t3, t4, t28, t30, t33, u4, lkE_app, lk_nil, lk_cons, aLen, aBuiltin, aBin, aIntBin, aFieldAddr, placeOf, aLoad, cellsAt, aUn, aIndexAddr, st0, valCells, isOne, Value.oneCell', aStore, setCells]
    exact hK _ (AW_ret (end_1 rfl rfl (by simp [upd_app])))
  have hn : xs.length ≤ 1048576 := by simp at h5; omega
  refine AW_k [(0, .sl 1 (xs.map cI)), (3, .ptr 64 0)] (by simp [KpE, upd_app, lkE_app, lk_cons]) ?_
  refine AW_q rfl mix (by kernel_rfl) rfl fun K hK => ?_
  simp [creg_nil, creg_op, creg_gd, cO, cR, cG_bool, cG_undef, ↓spl_tt, ↓spl_tf, ↓spl_ft, ↓spl_ff, spl_ct, spl_cf, putC, nmC, aop, ev, cv, updL, upd_app, upd_upd, t3, t4, t28, t30, t33, u4, lkE_app, lk_nil, lk_cons, aLen, aBuiltin, aBin, aIntBin, aFieldAddr, placeOf, aLoad, cellsAt, aUn, aIndexAddr, st0, valCells, isOne, Value.oneCell', aStore, setCells]
  refine CKd_v (am2s_cons am2_sl am2s_nil) (toIntS _ hn) rfl ?_
  simp [creg_nil, creg_op, creg_gd, cO, cR, cG_bool, cG_undef, ↓spl_tt, ↓spl_tf, ↓spl_ft, ↓spl_ff, spl_ct, spl_cf, putC, nmC, aop, ev, cv, updL, upd_app, upd_upd, t3, t4, t28, t30, t33, u4, lkE_app, lk_nil, lk_cons, aLen, aBuiltin, aBin, aIntBin, aFieldAddr, placeOf, aLoad, cellsAt, aUn, aIndexAddr, st0, valCells, isOne, Value.oneCell', aStore, setCells]
  refine CKd_v (am2s_cons (am2_agg rfl) am2s_nil) (toRule _ _ _) rfl ?_
  simp [creg_nil, creg_op, creg_gd, cO, cR, cG_bool, cG_undef, ↓spl_tt, ↓spl_tf, ↓spl_ft, ↓spl_ff, spl_ct, spl_cf, putC, nmC, aop, ev, cv, updL, upd_app, upd_upd, t3, t4, t28, t30, t33, u4, lkE_app, lk_nil, lk_cons, aLen, aBuiltin, aBin, aIntBin, aFieldAddr, placeOf, aLoad, cellsAt, aUn, aIndexAddr, st0, valCells, isOne, Value.oneCell', aStore, setCells]
  refine CKd_v (am2s_cons am2_sl (am2s_cons (am2_agg rfl) am2s_nil)) (specKeepOk _ _ _ _) rfl ?_
  simp [creg_nil, creg_op, creg_gd, cO, cR, cG_bool, cG_undef, ↓spl_tt, ↓spl_tf, ↓spl_ft, ↓spl_ff, spl_ct, spl_cf, putC, nmC, aop, ev, cv, updL, upd_app, upd_upd, t3, t4, t28, t30, t33, u4, lkE_app, lk_nil, lk_cons, aLen, aBuiltin, aBin, aIntBin, aFieldAddr, placeOf, aLoad, cellsAt, aUn, aIndexAddr, st0, valCells, isOne, Value.oneCell', aStore, setCells]
  refine hK _ ?_; clear hK K
  refine AW_k [(0, .sl 1 (xs.map cI)), (3, .ptr 64 0), (5, .g (.bool (keepOk xs a b c)))] (by simp [KpE, upd_app, lkE_app, lk_cons]) ?_
  refine AW_r rfl rfl fun K hK => ?_
  simp [creg_nil, creg_op, creg_gd, cO, cR, cG_bool, cG_undef, ↓spl_tt, ↓spl_tf, ↓spl_ft, ↓spl_ff, spl_ct, spl_cf, putC, nmC, aop, ev, cv, updL, upd_app, upd_upd, t3, t4, t28, t30, t33, u4, lkE_app, lk_nil, lk_cons, aLen, aBuiltin, aBin, aIntBin, aFieldAddr, placeOf, aLoad, cellsAt, aUn, aIndexAddr, st0, valCells, isOne, Value.oneCell', aStore, setCells]
  refine CKd_v (am2s_cons am2_sl am2s_nil) (toIntS _ hn) rfl ?_
  simp [creg_nil, creg_op, creg_gd, cO, cR, cG_bool, cG_undef, ↓spl_tt, ↓spl_tf, ↓spl_ft, ↓spl_ff, spl_ct, spl_cf, putC, nmC, aop, ev, cv, updL, upd_app, upd_upd, t3, t4, t28, t30, t33, u4, lkE_app, lk_nil, lk_cons, aLen, aBuiltin, aBin, aIntBin, aFieldAddr, placeOf, aLoad, cellsAt, aUn, aIndexAddr, st0, valCells, isOne, Value.oneCell', aStore, setCells]
  refine hK _ ?_; clear hK K
  refine AW_k [(0, .sl 1 (xs.map cI)), (3, .ptr 64 0), (5, .g (.bool (keepOk xs a b c))), (6, .sl 1 (xs.map cI))] (by simp [KpE, upd_app, lkE_app, lk_cons]) ?_
  refine AW_r rfl rfl fun K hK => ?_
  simp [creg_nil, creg_op, creg_gd, cO, cR, cG_bool, cG_undef, ↓spl_tt, ↓spl_tf, ↓spl_ft, ↓spl_ff, spl_ct, spl_cf, putC, nmC, aop, ev, cv, updL, upd_app, upd_upd, t3, t4, t28, t30, t33, u4, lkE_app, lk_nil, lk_cons, aLen, aBuiltin, aBin, aIntBin, aFieldAddr, placeOf, aLoad, cellsAt, aUn, aIndexAddr, st0, valCells, isOne, Value.oneCell', aStore, setCells]
  refine CKd_v (am2s_cons (am2_agg rfl) am2s_nil) (toRule _ _ _) rfl ?_
  simp [creg_nil, creg_op, creg_gd, cO, cR, cG_bool, cG_undef, ↓spl_tt, ↓spl_tf, ↓spl_ft, ↓spl_ff, spl_ct, spl_cf, putC, nmC, aop, ev, cv, updL, upd_app, upd_upd, t3, t4, t28, t30, t33, u4, lkE_app, lk_nil, lk_cons, aLen, aBuiltin, aBin, aIntBin, aFieldAddr, placeOf, aLoad, cellsAt, aUn, aIndexAddr, st0, valCells, isOne, Value.oneCell', aStore, setCells]
  refine CKd_v (am2s_cons am2_sl (am2s_cons (am2_agg rfl) am2s_nil)) (implKeepOk _ _ _ _ hn) rfl ?_
  simp [creg_nil, creg_op, creg_gd, cO, cR, cG_bool, cG_undef, ↓spl_tt, ↓spl_tf, ↓spl_ft, ↓spl_ff, spl_ct, spl_cf, putC, nmC, aop, ev, cv, updL, upd_app, upd_upd, t3, t4, t28, t30, t33, u4, lkE_app, lk_nil, lk_cons, aLen, aBuiltin, aBin, aIntBin, aFieldAddr, placeOf, aLoad, cellsAt, aUn, aIndexAddr, st0, valCells, isOne, Value.oneCell', aStore, setCells]
  refine hK _ ?_; clear hK K
  refine AW_k [(0, .sl 1 (xs.map cI)), (3, .ptr 64 0), (5, .g (.bool (keepOk xs a b c))), (6, .sl 1 (xs.map cI)), (7, .g (.bool (keepOk xs a b c)))] (by simp [KpE, upd_app, lkE_app, lk_cons]) ?_
  refine AW_seq (AW_r rfl rfl fun K hK => ?_)
  simp [creg_nil, creg_op, creg_gd, cO, cR, cG_bool, cG_undef, ↓spl_tt, ↓spl_tf, ↓spl_ft, ↓spl_ff, spl_ct, spl_cf, putC, nmC, aop, ev, cv, updL, upd_app, upd_upd, t3, t4, t28, t30, t33, u4, lkE_app, lk_nil, lk_cons, aLen, aBuiltin, aBin, aIntBin, aFieldAddr, placeOf, aLoad, cellsAt, aUn, aIndexAddr, st0, valCells, isOne, Value.oneCell', aStore, setCells]
  refine hK _ ?_; clear hK K
  refine AW_cond_false (by simp [ev, upd_app]) (AW_skip ?_)
  refine AW_k [(0, .sl 1 (xs.map cI)), (6, .sl 1 (xs.map cI))] (by simp [KpE, upd_app, lkE_app, lk_cons]) ?_
  refine AW_seq (AW_r rfl rfl fun K hK => ?_)
  simp [creg_nil, creg_op, creg_gd, cO, cR, cG_bool, cG_undef, ↓spl_tt, ↓spl_tf, ↓spl_ft, ↓spl_ff, spl_ct, spl_cf, putC, nmC, aop, ev, cv, updL, upd_app, upd_upd, t3, t4, t28, t30, t33, u4, lkE_app, lk_nil, lk_cons, aLen, aBuiltin, aBin, aIntBin, aFieldAddr, placeOf, aLoad, cellsAt, aUn, aIndexAddr, st0, valCells, isOne, Value.oneCell', aStore, setCells]
  refine CKd_v (am2s_cons am2_sl am2s_nil) (toIntS _ hn) rfl ?_
  simp [creg_nil, creg_op, creg_gd, cO, cR, cG_bool, cG_undef, ↓spl_tt, ↓spl_tf, ↓spl_ft, ↓spl_ff, spl_ct, spl_cf, putC, nmC, aop, ev, cv, updL, upd_app, upd_upd, t3, t4, t28, t30, t33, u4, lkE_app, lk_nil, lk_cons, aLen, aBuiltin, aBin, aIntBin, aFieldAddr, placeOf, aLoad, cellsAt, aUn, aIndexAddr, st0, valCells, isOne, Value.oneCell', aStore, setCells]
  refine CKd_v (am2s_cons am2_sl (am2s_cons am2_sl am2s_nil)) (eqIntS _ _ hn) rfl ?_
  simp [creg_nil, creg_op, creg_gd, cO, cR, cG_bool, cG_undef, ↓spl_tt, ↓spl_tf, ↓spl_ft, ↓spl_ff, spl_ct, spl_cf, putC, nmC, aop, ev, cv, updL, upd_app, upd_upd, t3, t4, t28, t30, t33, u4, lkE_app, lk_nil, lk_cons, aLen, aBuiltin, aBin, aIntBin, aFieldAddr, placeOf, aLoad, cellsAt, aUn, aIndexAddr, st0, valCells, isOne, Value.oneCell', aStore, setCells]
  refine hK _ ?_; clear hK K
  refine AW_cond_false (by simp [ev, upd_app]) (AW_skip ?_)
  refine AW_r rfl rfl fun K hK => ?_
  simp [creg_nil, creg_op, creg_gd, cO, cR, cG_bool, cG_undef, ↓spl_tt, ↓spl_tf, ↓spl_ft, ↓spl_ff, spl_ct, spl_cf, putC, nmC, aop, ev, cv, updL, upd_app, upd_upd, t3, t4, t28, t30, t33, u4, lkE_app, lk_nil, lk_cons, aLen, aBuiltin, aBin, aIntBin, aFieldAddr, placeOf, aLoad, cellsAt, aUn, aIndexAddr, st0, valCells, isOne, Value.oneCell', aStore, setCells]
  exact hK _ (AW_ret (end_1 rfl rfl (by simp [upd_app])))
end Go.Proofs.Ythfajpgocmpbpaa.Vs
