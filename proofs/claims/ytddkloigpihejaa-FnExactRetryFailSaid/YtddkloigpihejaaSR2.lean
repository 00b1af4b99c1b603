import Derived.Test.YtddkloigpihejaaSR1
open Go Go.Proofs Go.Proofs.Ytddkloigpihejaa.Vs
namespace Go.Proofs.Ytddkloigpihejaa.Vs
set_option linter.unusedVariables false
set_option linter.unusedSimpArgs false
set_option linter.unusedSectionVars false
set_option linter.unnecessarySimpa false
set_option linter.all false
set_option linter.unusedSimpArgs false
set_option linter.unusedVariables false
def delay (a b c : Int) : Int := if a * 2 ^ c.toNat < b then a * 2 ^ c.toNat else b
theorem ok_bd {a b c d : Int} (h : retryOk a b c d = true) : 1 ≤ a ∧ a ≤ 100 ∧ a ≤ b ∧ b ≤ 10000 ∧ 0 ≤ c ∧ c ≤ 12 ∧ 0 ≤ d ∧ d ≤ 1000000 := by
  simp [retryOk] at h; omega
theorem pow_bd {c : Int} (h : 0 ≤ c) (h2 : c ≤ 12) : 1 ≤ (2 : Int) ^ c.toNat ∧ (2 : Int) ^ c.toNat ≤ 4096 := by
  have : c.toNat ≤ 12 := by omega
  have h3 : (2 : Nat) ^ c.toNat ≤ 2 ^ 12 := Nat.pow_le_pow_right (by omega) this
  have h4 : 1 ≤ (2 : Nat) ^ c.toNat := Nat.one_le_two_pow
  have e : ((2 ^ c.toNat : Nat) : Int) = (2 : Int) ^ c.toNat := by simp
  omega
def go (a b c d n : Int) : Bool := retryMay a b c d n && decide (n ≤ 1000000 - delay a b c)
def retryFail (a b c d n : Int) : AV := .tup [.agg [(.g (.int .i64 (if retryOk a b c d then a else 0))), (.g (.int .i64 (if retryOk a b c d then b else 0))), (.g (.int .i64 (if retryOk a b c d then (if go a b c d n then c + 1 else c) else 0))), (.g (.int .i64 (if retryOk a b c d then (if go a b c d n then n + delay a b c else d) else 0)))], (.g (.bool (go a b c d n)))]
theorem implRetryFail (a b c d n : Int) : PCall Try.prog 23 [.agg [(.g (.int .i64 (a))), (.g (.int .i64 (b))), (.g (.int .i64 (c))), (.g (.int .i64 (d)))], (.g (.int .i64 (n)))] (retryFail a b c d n) := by
  unfold retryFail
  by_cases hok : retryOk a b c d = true
  · have ⟨h1, h2, h3, h4, h5, h6, h7, h8⟩ := ok_bd hok
    have ⟨p1, p2⟩ := pow_bd h5 h6
    have ha : 1 ≤ a * 2 ^ c.toNat := by have := Int.mul_le_mul h1 p1 (by omega) (by omega); omega
    have hb : a * 2 ^ c.toNat ≤ 409600 := by have := Int.mul_le_mul h2 p2 (by omega) (by omega); omega
    have hm : min c.toNat 64 = c.toNat := by omega
    have hm' : min c.toNat IntKind.i64.bits = c.toNat := hm
    have hw : IntKind.i64.wrap (a * 2 ^ c.toNat) = a * 2 ^ c.toNat := wrap64 (by omega) (by omega)
    have hd : 1 ≤ delay a b c ∧ delay a b c ≤ 10000 := by unfold delay; split <;> omega
    have hdd : (if a * 2 ^ c.toNat < b then a * 2 ^ c.toNat else b) = delay a b c := rfl
    have hw2 : IntKind.i64.wrap (1000000 - delay a b c) = 1000000 - delay a b c := wrap64 (by omega) (by omega)
    have hw3 : IntKind.i64.wrap (c + 1) = c + 1 := wrap64 (by omega) (by omega)
    by_cases hy : retryMay a b c d n = true
    · have hy2 : c < 12 ∧ d ≤ n := by simp [retryMay] at hy; omega
      refine gcall_of_walk Try.func23 (by rfl) (by rfl) (by rw [Try.ntmps23]; exact Nat.le_of_ble_eq_true rfl) rfl (by decide) ?_
      rw [Try.ntmps23]
      refine AW_r rfl rfl fun K hK => ?_
      simp [creg_nil, creg_op, creg_gd, cO, cR, cG_bool, cG_undef, ↓spl_tt, ↓spl_tf, ↓spl_ft, ↓spl_ff, spl_ct, spl_cf, putC, nmC, aop, ev, cv, updL, upd_app, upd_upd, lkE_app, lk_nil, lk_cons, aLen, aBuiltin, aBin, aIntBin, aFieldAddr, placeOf, aLoad, cellsAt, aUn, aIndexAddr, st0, valCells, isOne, Value.oneCell', aStore, setCells, formOb_nn, aBuild, parts, fillA, placesOf, aField, aIndex, aSlice, optIdx, aStrBin, aMakeSlice, viewCells, viewCell, arrN, frzU, t2, t3, t4, t5, t6, t7, t8, t9, t10, t11, t12, t13, t14, t15, t16, t17, t18, t19, t21, t22, t23, t25, t36, t46, t50, t51, t53, t54, t56, t57, t58, t59, t60, t62, t63, t64, t66, t67, t68, t69, t70, u_bool, hok, hm, hm', hw, hdd, hw2, hw3, hy]
      repeat' first | (refine ⟨fun _ => ?_, fun _ => ?_⟩) | (refine ⟨by omega, ?_⟩) | (intro _)
      all_goals (refine hK _ ?_; clear hK K)
      all_goals
        refine AW_seq ?_
        refine AW_r rfl rfl fun K hK => ?_
        simp [creg_nil, creg_op, creg_gd, cO, cR, cG_bool, cG_undef, ↓spl_tt, ↓spl_tf, ↓spl_ft, ↓spl_ff, spl_ct, spl_cf, putC, nmC, aop, ev, cv, updL, upd_app, upd_upd, lkE_app, lk_nil, lk_cons, aLen, aBuiltin, aBin, aIntBin, aFieldAddr, placeOf, aLoad, cellsAt, aUn, aIndexAddr, st0, valCells, isOne, Value.oneCell', aStore, setCells, formOb_nn, aBuild, parts, fillA, placesOf, aField, aIndex, aSlice, optIdx, aStrBin, aMakeSlice, viewCells, viewCell, arrN, frzU, t2, t3, t4, t5, t6, t7, t8, t9, t10, t11, t12, t13, t14, t15, t16, t17, t18, t19, t21, t22, t23, t25, t36, t46, t50, t51, t53, t54, t56, t57, t58, t59, t60, t62, t63, t64, t66, t67, t68, t69, t70, u_bool, hok, hm, hm', hw, hdd, hw2, hw3, hy]
        repeat' first | (refine CKd_v (am2s_cons (am2_agg rfl) am2s_nil) (implRetryOk _ _ _ _) rfl ?_; simp [creg_nil, creg_op, creg_gd, cO, cR, cG_bool, cG_undef, ↓spl_tt, ↓spl_tf, ↓spl_ft, ↓spl_ff, spl_ct, spl_cf, putC, nmC, aop, ev, cv, updL, upd_app, upd_upd, lkE_app, lk_nil, lk_cons, aLen, aBuiltin, aBin, aIntBin, aFieldAddr, placeOf, aLoad, cellsAt, aUn, aIndexAddr, st0, valCells, isOne, Value.oneCell', aStore, setCells, formOb_nn, aBuild, parts, fillA, placesOf, aField, aIndex, aSlice, optIdx, aStrBin, aMakeSlice, viewCells, viewCell, arrN, frzU, t2, t3, t4, t5, t6, t7, t8, t9, t10, t11, t12, t13, t14, t15, t16, t17, t18, t19, t21, t22, t23, t25, t36, t46, t50, t51, t53, t54, t56, t57, t58, t59, t60, t62, t63, t64, t66, t67, t68, t69, t70, u_bool, hok, hm, hm', hw, hdd, hw2, hw3, hy]) | (refine ⟨fun _ => ?_, fun _ => ?_⟩) | (refine ⟨by omega, ?_⟩) | (intro _)
        all_goals (refine hK _ ?_; clear hK K)
        all_goals
          refine AW_cond rfl (fun hc => ?_) (fun hc => ?_)
          · try simp at hc
            all_goals
              refine AW_r rfl rfl fun K hK => ?_
              simp [creg_nil, creg_op, creg_gd, cO, cR, cG_bool, cG_undef, ↓spl_tt, ↓spl_tf, ↓spl_ft, ↓spl_ff, spl_ct, spl_cf, putC, nmC, aop, ev, cv, updL, upd_app, upd_upd, lkE_app, lk_nil, lk_cons, aLen, aBuiltin, aBin, aIntBin, aFieldAddr, placeOf, aLoad, cellsAt, aUn, aIndexAddr, st0, valCells, isOne, Value.oneCell', aStore, setCells, formOb_nn, aBuild, parts, fillA, placesOf, aField, aIndex, aSlice, optIdx, aStrBin, aMakeSlice, viewCells, viewCell, arrN, frzU, t2, t3, t4, t5, t6, t7, t8, t9, t10, t11, t12, t13, t14, t15, t16, t17, t18, t19, t21, t22, t23, t25, t36, t46, t50, t51, t53, t54, t56, t57, t58, t59, t60, t62, t63, t64, t66, t67, t68, t69, t70, u_bool, hok, hm, hm', hw, hdd, hw2, hw3, hy]
              repeat' first | (refine ⟨fun _ => ?_, fun _ => ?_⟩) | (refine ⟨by omega, ?_⟩) | (intro _)
              all_goals (refine hK _ ?_; clear hK K)
              all_goals
                refine AW_ret (end_s ?_)
                simp [creg_nil, creg_op, creg_gd, cO, cR, cG_bool, cG_undef, ↓spl_tt, ↓spl_tf, ↓spl_ft, ↓spl_ff, spl_ct, spl_cf, putC, nmC, aop, ev, cv, updL, upd_app, upd_upd, lkE_app, lk_nil, lk_cons, aLen, aBuiltin, aBin, aIntBin, aFieldAddr, placeOf, aLoad, cellsAt, aUn, aIndexAddr, st0, valCells, isOne, Value.oneCell', aStore, setCells, formOb_nn, aBuild, parts, fillA, placesOf, aField, aIndex, aSlice, optIdx, aStrBin, aMakeSlice, viewCells, viewCell, arrN, frzU, t2, t3, t4, t5, t6, t7, t8, t9, t10, t11, t12, t13, t14, t15, t16, t17, t18, t19, t21, t22, t23, t25, t36, t46, t50, t51, t53, t54, t56, t57, t58, t59, t60, t62, t63, t64, t66, t67, t68, t69, t70, u_bool, hok, hm, hm', hw, hdd, hw2, hw3, hy, endR_some, am0_gg, am0_ss, am0_ll, am1_gg, am1_ss, am1_ll, am1_nl, am1_al, am2_gg, am2_ss, am2_ll, am2_nl, am2_al, am2_ff, am1s_nn, am1s_cc, am2s_nn, am2s_cc, amRs_one, amRs_two', amRs_thr, resAll_nil, resAll_tmp, resAll_cell, go]
                all_goals first | omega | (simp_all; done) | ((try simp_all); (try simp (disch := omega) only [wrap64, Int.tdiv_eq_ediv_of_nonneg, Int.tmod_eq_emod_of_nonneg, and_true, true_and]); done) | ((try simp_all); (try simp (disch := omega) only [wrap64, Int.tdiv_eq_ediv_of_nonneg, Int.tmod_eq_emod_of_nonneg, and_true, true_and] at *); omega)
          · try simp at hc
            all_goals
              refine AW_skip ?_
              refine AW_id ?_
              refine AW_q rfl mix (by kernel_rfl) rfl fun K hK => ?_
              simp [creg_nil, creg_op, creg_gd, cO, cR, cG_bool, cG_undef, ↓spl_tt, ↓spl_tf, ↓spl_ft, ↓spl_ff, spl_ct, spl_cf, putC, nmC, aop, ev, cv, updL, upd_app, upd_upd, lkE_app, lk_nil, lk_cons, aLen, aBuiltin, aBin, aIntBin, aFieldAddr, placeOf, aLoad, cellsAt, aUn, aIndexAddr, st0, valCells, isOne, Value.oneCell', aStore, setCells, formOb_nn, aBuild, parts, fillA, placesOf, aField, aIndex, aSlice, optIdx, aStrBin, aMakeSlice, viewCells, viewCell, arrN, frzU, t2, t3, t4, t5, t6, t7, t8, t9, t10, t11, t12, t13, t14, t15, t16, t17, t18, t19, t21, t22, t23, t25, t36, t46, t50, t51, t53, t54, t56, t57, t58, t59, t60, t62, t63, t64, t66, t67, t68, t69, t70, u_bool, hok, hm, hm', hw, hdd, hw2, hw3, hy]
              repeat' first | (refine ⟨fun _ => ?_, fun _ => ?_⟩) | (refine ⟨by omega, ?_⟩) | (intro _)
              all_goals (refine hK _ ?_; clear hK K)
              all_goals
                refine AW_seq ?_
                refine AW_r rfl rfl fun K hK => ?_
                simp [creg_nil, creg_op, creg_gd, cO, cR, cG_bool, cG_undef, ↓spl_tt, ↓spl_tf, ↓spl_ft, ↓spl_ff, spl_ct, spl_cf, putC, nmC, aop, ev, cv, updL, upd_app, upd_upd, lkE_app, lk_nil, lk_cons, aLen, aBuiltin, aBin, aIntBin, aFieldAddr, placeOf, aLoad, cellsAt, aUn, aIndexAddr, st0, valCells, isOne, Value.oneCell', aStore, setCells, formOb_nn, aBuild, parts, fillA, placesOf, aField, aIndex, aSlice, optIdx, aStrBin, aMakeSlice, viewCells, viewCell, arrN, frzU, t2, t3, t4, t5, t6, t7, t8, t9, t10, t11, t12, t13, t14, t15, t16, t17, t18, t19, t21, t22, t23, t25, t36, t46, t50, t51, t53, t54, t56, t57, t58, t59, t60, t62, t63, t64, t66, t67, t68, t69, t70, u_bool, hok, hm, hm', hw, hdd, hw2, hw3, hy]
                repeat' first | (refine CKd_v (am2s_cons (am2_agg rfl) (am2s_cons am2_g am2s_nil)) (implRetryMay _ _ _ _ _) rfl ?_; simp [creg_nil, creg_op, creg_gd, cO, cR, cG_bool, cG_undef, ↓spl_tt, ↓spl_tf, ↓spl_ft, ↓spl_ff, spl_ct, spl_cf, putC, nmC, aop, ev, cv, updL, upd_app, upd_upd, lkE_app, lk_nil, lk_cons, aLen, aBuiltin, aBin, aIntBin, aFieldAddr, placeOf, aLoad, cellsAt, aUn, aIndexAddr, st0, valCells, isOne, Value.oneCell', aStore, setCells, formOb_nn, aBuild, parts, fillA, placesOf, aField, aIndex, aSlice, optIdx, aStrBin, aMakeSlice, viewCells, viewCell, arrN, frzU, t2, t3, t4, t5, t6, t7, t8, t9, t10, t11, t12, t13, t14, t15, t16, t17, t18, t19, t21, t22, t23, t25, t36, t46, t50, t51, t53, t54, t56, t57, t58, t59, t60, t62, t63, t64, t66, t67, t68, t69, t70, u_bool, hok, hm, hm', hw, hdd, hw2, hw3, hy]) | (refine ⟨fun _ => ?_, fun _ => ?_⟩) | (refine ⟨by omega, ?_⟩) | (intro _)
                all_goals (refine hK _ ?_; clear hK K)
                all_goals
                  refine AW_cond rfl (fun hc => ?_) (fun hc => ?_)
                  · try simp at hc
                    all_goals
                      refine AW_r rfl rfl fun K hK => ?_
                      simp [creg_nil, creg_op, creg_gd, cO, cR, cG_bool, cG_undef, ↓spl_tt, ↓spl_tf, ↓spl_ft, ↓spl_ff, spl_ct, spl_cf, putC, nmC, aop, ev, cv, updL, upd_app, upd_upd, lkE_app, lk_nil, lk_cons, aLen, aBuiltin, aBin, aIntBin, aFieldAddr, placeOf, aLoad, cellsAt, aUn, aIndexAddr, st0, valCells, isOne, Value.oneCell', aStore, setCells, formOb_nn, aBuild, parts, fillA, placesOf, aField, aIndex, aSlice, optIdx, aStrBin, aMakeSlice, viewCells, viewCell, arrN, frzU, t2, t3, t4, t5, t6, t7, t8, t9, t10, t11, t12, t13, t14, t15, t16, t17, t18, t19, t21, t22, t23, t25, t36, t46, t50, t51, t53, t54, t56, t57, t58, t59, t60, t62, t63, t64, t66, t67, t68, t69, t70, u_bool, hok, hm, hm', hw, hdd, hw2, hw3, hy]
                      repeat' first | (refine ⟨fun _ => ?_, fun _ => ?_⟩) | (refine ⟨by omega, ?_⟩) | (intro _)
                      all_goals (refine hK _ ?_; clear hK K)
                      all_goals
                        refine AW_ret (end_s ?_)
                        simp [creg_nil, creg_op, creg_gd, cO, cR, cG_bool, cG_undef, ↓spl_tt, ↓spl_tf, ↓spl_ft, ↓spl_ff, spl_ct, spl_cf, putC, nmC, aop, ev, cv, updL, upd_app, upd_upd, lkE_app, lk_nil, lk_cons, aLen, aBuiltin, aBin, aIntBin, aFieldAddr, placeOf, aLoad, cellsAt, aUn, aIndexAddr, st0, valCells, isOne, Value.oneCell', aStore, setCells, formOb_nn, aBuild, parts, fillA, placesOf, aField, aIndex, aSlice, optIdx, aStrBin, aMakeSlice, viewCells, viewCell, arrN, frzU, t2, t3, t4, t5, t6, t7, t8, t9, t10, t11, t12, t13, t14, t15, t16, t17, t18, t19, t21, t22, t23, t25, t36, t46, t50, t51, t53, t54, t56, t57, t58, t59, t60, t62, t63, t64, t66, t67, t68, t69, t70, u_bool, hok, hm, hm', hw, hdd, hw2, hw3, hy, endR_some, am0_gg, am0_ss, am0_ll, am1_gg, am1_ss, am1_ll, am1_nl, am1_al, am2_gg, am2_ss, am2_ll, am2_nl, am2_al, am2_ff, am1s_nn, am1s_cc, am2s_nn, am2s_cc, amRs_one, amRs_two', amRs_thr, resAll_nil, resAll_tmp, resAll_cell, go]
                        all_goals first | omega | (simp_all; done) | ((try simp_all); (try simp (disch := omega) only [wrap64, Int.tdiv_eq_ediv_of_nonneg, Int.tmod_eq_emod_of_nonneg, and_true, true_and]); done) | ((try simp_all); (try simp (disch := omega) only [wrap64, Int.tdiv_eq_ediv_of_nonneg, Int.tmod_eq_emod_of_nonneg, and_true, true_and] at *); omega)
                  · try simp at hc
                    all_goals
                      refine AW_skip ?_
                      refine AW_id ?_
                      refine AW_r rfl rfl fun K hK => ?_
                      simp [creg_nil, creg_op, creg_gd, cO, cR, cG_bool, cG_undef, ↓spl_tt, ↓spl_tf, ↓spl_ft, ↓spl_ff, spl_ct, spl_cf, putC, nmC, aop, ev, cv, updL, upd_app, upd_upd, lkE_app, lk_nil, lk_cons, aLen, aBuiltin, aBin, aIntBin, aFieldAddr, placeOf, aLoad, cellsAt, aUn, aIndexAddr, st0, valCells, isOne, Value.oneCell', aStore, setCells, formOb_nn, aBuild, parts, fillA, placesOf, aField, aIndex, aSlice, optIdx, aStrBin, aMakeSlice, viewCells, viewCell, arrN, frzU, t2, t3, t4, t5, t6, t7, t8, t9, t10, t11, t12, t13, t14, t15, t16, t17, t18, t19, t21, t22, t23, t25, t36, t46, t50, t51, t53, t54, t56, t57, t58, t59, t60, t62, t63, t64, t66, t67, t68, t69, t70, u_bool, hok, hm, hm', hw, hdd, hw2, hw3, hy]
                      repeat' first | (refine ⟨fun _ => ?_, fun _ => ?_⟩) | (refine ⟨by omega, ?_⟩) | (intro _)
                      all_goals (refine hK _ ?_; clear hK K)
                      all_goals
                        refine AW_r rfl rfl fun K hK => ?_
                        simp [creg_nil, creg_op, creg_gd, cO, cR, cG_bool, cG_undef, ↓spl_tt, ↓spl_tf, ↓spl_ft, ↓spl_ff, spl_ct, spl_cf, putC, nmC, aop, ev, cv, updL, upd_app, upd_upd, lkE_app, lk_nil, lk_cons, aLen, aBuiltin, aBin, aIntBin, aFieldAddr, placeOf, aLoad, cellsAt, aUn, aIndexAddr, st0, valCells, isOne, Value.oneCell', aStore, setCells, formOb_nn, aBuild, parts, fillA, placesOf, aField, aIndex, aSlice, optIdx, aStrBin, aMakeSlice, viewCells, viewCell, arrN, frzU, t2, t3, t4, t5, t6, t7, t8, t9, t10, t11, t12, t13, t14, t15, t16, t17, t18, t19, t21, t22, t23, t25, t36, t46, t50, t51, t53, t54, t56, t57, t58, t59, t60, t62, t63, t64, t66, t67, t68, t69, t70, u_bool, hok, hm, hm', hw, hdd, hw2, hw3, hy]
                        repeat' first | (refine ⟨fun _ => ?_, fun _ => ?_⟩) | (refine ⟨by omega, ?_⟩) | (intro _)
                        all_goals (refine hK _ ?_; clear hK K)
                        all_goals
                          refine AW_r rfl rfl fun K hK => ?_
                          simp [creg_nil, creg_op, creg_gd, cO, cR, cG_bool, cG_undef, ↓spl_tt, ↓spl_tf, ↓spl_ft, ↓spl_ff, spl_ct, spl_cf, putC, nmC, aop, ev, cv, updL, upd_app, upd_upd, lkE_app, lk_nil, lk_cons, aLen, aBuiltin, aBin, aIntBin, aFieldAddr, placeOf, aLoad, cellsAt, aUn, aIndexAddr, st0, valCells, isOne, Value.oneCell', aStore, setCells, formOb_nn, aBuild, parts, fillA, placesOf, aField, aIndex, aSlice, optIdx, aStrBin, aMakeSlice, viewCells, viewCell, arrN, frzU, t2, t3, t4, t5, t6, t7, t8, t9, t10, t11, t12, t13, t14, t15, t16, t17, t18, t19, t21, t22, t23, t25, t36, t46, t50, t51, t53, t54, t56, t57, t58, t59, t60, t62, t63, t64, t66, t67, t68, t69, t70, u_bool, hok, hm, hm', hw, hdd, hw2, hw3, hy]
                          repeat' first | (refine ⟨fun _ => ?_, fun _ => ?_⟩) | (refine ⟨by omega, ?_⟩) | (intro _)
                          all_goals (refine hK _ ?_; clear hK K)
                          all_goals
                            refine AW_ret (end_s ?_)
                            simp [creg_nil, creg_op, creg_gd, cO, cR, cG_bool, cG_undef, ↓spl_tt, ↓spl_tf, ↓spl_ft, ↓spl_ff, spl_ct, spl_cf, putC, nmC, aop, ev, cv, updL, upd_app, upd_upd, lkE_app, lk_nil, lk_cons, aLen, aBuiltin, aBin, aIntBin, aFieldAddr, placeOf, aLoad, cellsAt, aUn, aIndexAddr, st0, valCells, isOne, Value.oneCell', aStore, setCells, formOb_nn, aBuild, parts, fillA, placesOf, aField, aIndex, aSlice, optIdx, aStrBin, aMakeSlice, viewCells, viewCell, arrN, frzU, t2, t3, t4, t5, t6, t7, t8, t9, t10, t11, t12, t13, t14, t15, t16, t17, t18, t19, t21, t22, t23, t25, t36, t46, t50, t51, t53, t54, t56, t57, t58, t59, t60, t62, t63, t64, t66, t67, t68, t69, t70, u_bool, hok, hm, hm', hw, hdd, hw2, hw3, hy, endR_some, am0_gg, am0_ss, am0_ll, am1_gg, am1_ss, am1_ll, am1_nl, am1_al, am2_gg, am2_ss, am2_ll, am2_nl, am2_al, am2_ff, am1s_nn, am1s_cc, am2s_nn, am2s_cc, amRs_one, amRs_two', amRs_thr, resAll_nil, resAll_tmp, resAll_cell, go]
                            all_goals first | omega | (simp_all; done) | ((try simp_all); (try simp (disch := omega) only [wrap64, Int.tdiv_eq_ediv_of_nonneg, Int.tmod_eq_emod_of_nonneg, and_true, true_and]); done) | ((try simp_all); (try simp (disch := omega) only [wrap64, Int.tdiv_eq_ediv_of_nonneg, Int.tmod_eq_emod_of_nonneg, and_true, true_and] at *); omega)
    · simp only [go, hy]
      refine gcall_of_walk Try.func23 (by rfl) (by rfl) (by rw [Try.ntmps23]; exact Nat.le_of_ble_eq_true rfl) rfl (by decide) ?_
      rw [Try.ntmps23]
      refine AW_r rfl rfl fun K hK => ?_
      simp [creg_nil, creg_op, creg_gd, cO, cR, cG_bool, cG_undef, ↓spl_tt, ↓spl_tf, ↓spl_ft, ↓spl_ff, spl_ct, spl_cf, putC, nmC, aop, ev, cv, updL, upd_app, upd_upd, lkE_app, lk_nil, lk_cons, aLen, aBuiltin, aBin, aIntBin, aFieldAddr, placeOf, aLoad, cellsAt, aUn, aIndexAddr, st0, valCells, isOne, Value.oneCell', aStore, setCells, formOb_nn, aBuild, parts, fillA, placesOf, aField, aIndex, aSlice, optIdx, aStrBin, aMakeSlice, viewCells, viewCell, arrN, frzU, t2, t3, t4, t5, t6, t7, t8, t9, t10, t11, t12, t13, t14, t15, t16, t17, t18, t19, t21, t22, t23, t25, t36, t46, t50, t51, t53, t54, t56, t57, t58, t59, t60, t62, t63, t64, t66, t67, t68, t69, t70, u_bool, hok, hm, hm', hw, hdd, hw2, hw3, hy]
      repeat' first | (refine ⟨fun _ => ?_, fun _ => ?_⟩) | (refine ⟨by omega, ?_⟩) | (intro _)
      all_goals (refine hK _ ?_; clear hK K)
      all_goals
        refine AW_seq ?_
        refine AW_r rfl rfl fun K hK => ?_
        simp [creg_nil, creg_op, creg_gd, cO, cR, cG_bool, cG_undef, ↓spl_tt, ↓spl_tf, ↓spl_ft, ↓spl_ff, spl_ct, spl_cf, putC, nmC, aop, ev, cv, updL, upd_app, upd_upd, lkE_app, lk_nil, lk_cons, aLen, aBuiltin, aBin, aIntBin, aFieldAddr, placeOf, aLoad, cellsAt, aUn, aIndexAddr, st0, valCells, isOne, Value.oneCell', aStore, setCells, formOb_nn, aBuild, parts, fillA, placesOf, aField, aIndex, aSlice, optIdx, aStrBin, aMakeSlice, viewCells, viewCell, arrN, frzU, t2, t3, t4, t5, t6, t7, t8, t9, t10, t11, t12, t13, t14, t15, t16, t17, t18, t19, t21, t22, t23, t25, t36, t46, t50, t51, t53, t54, t56, t57, t58, t59, t60, t62, t63, t64, t66, t67, t68, t69, t70, u_bool, hok, hm, hm', hw, hdd, hw2, hw3, hy]
        repeat' first | (refine CKd_v (am2s_cons (am2_agg rfl) am2s_nil) (implRetryOk _ _ _ _) rfl ?_; simp [creg_nil, creg_op, creg_gd, cO, cR, cG_bool, cG_undef, ↓spl_tt, ↓spl_tf, ↓spl_ft, ↓spl_ff, spl_ct, spl_cf, putC, nmC, aop, ev, cv, updL, upd_app, upd_upd, lkE_app, lk_nil, lk_cons, aLen, aBuiltin, aBin, aIntBin, aFieldAddr, placeOf, aLoad, cellsAt, aUn, aIndexAddr, st0, valCells, isOne, Value.oneCell', aStore, setCells, formOb_nn, aBuild, parts, fillA, placesOf, aField, aIndex, aSlice, optIdx, aStrBin, aMakeSlice, viewCells, viewCell, arrN, frzU, t2, t3, t4, t5, t6, t7, t8, t9, t10, t11, t12, t13, t14, t15, t16, t17, t18, t19, t21, t22, t23, t25, t36, t46, t50, t51, t53, t54, t56, t57, t58, t59, t60, t62, t63, t64, t66, t67, t68, t69, t70, u_bool, hok, hm, hm', hw, hdd, hw2, hw3, hy]) | (refine ⟨fun _ => ?_, fun _ => ?_⟩) | (refine ⟨by omega, ?_⟩) | (intro _)
        all_goals (refine hK _ ?_; clear hK K)
        all_goals
          refine AW_cond rfl (fun hc => ?_) (fun hc => ?_)
          · try simp at hc
            all_goals
              refine AW_r rfl rfl fun K hK => ?_
              simp [creg_nil, creg_op, creg_gd, cO, cR, cG_bool, cG_undef, ↓spl_tt, ↓spl_tf, ↓spl_ft, ↓spl_ff, spl_ct, spl_cf, putC, nmC, aop, ev, cv, updL, upd_app, upd_upd, lkE_app, lk_nil, lk_cons, aLen, aBuiltin, aBin, aIntBin, aFieldAddr, placeOf, aLoad, cellsAt, aUn, aIndexAddr, st0, valCells, isOne, Value.oneCell', aStore, setCells, formOb_nn, aBuild, parts, fillA, placesOf, aField, aIndex, aSlice, optIdx, aStrBin, aMakeSlice, viewCells, viewCell, arrN, frzU, t2, t3, t4, t5, t6, t7, t8, t9, t10, t11, t12, t13, t14, t15, t16, t17, t18, t19, t21, t22, t23, t25, t36, t46, t50, t51, t53, t54, t56, t57, t58, t59, t60, t62, t63, t64, t66, t67, t68, t69, t70, u_bool, hok, hm, hm', hw, hdd, hw2, hw3, hy]
              repeat' first | (refine ⟨fun _ => ?_, fun _ => ?_⟩) | (refine ⟨by omega, ?_⟩) | (intro _)
              all_goals (refine hK _ ?_; clear hK K)
              all_goals
                refine AW_ret (end_s ?_)
                simp [creg_nil, creg_op, creg_gd, cO, cR, cG_bool, cG_undef, ↓spl_tt, ↓spl_tf, ↓spl_ft, ↓spl_ff, spl_ct, spl_cf, putC, nmC, aop, ev, cv, updL, upd_app, upd_upd, lkE_app, lk_nil, lk_cons, aLen, aBuiltin, aBin, aIntBin, aFieldAddr, placeOf, aLoad, cellsAt, aUn, aIndexAddr, st0, valCells, isOne, Value.oneCell', aStore, setCells, formOb_nn, aBuild, parts, fillA, placesOf, aField, aIndex, aSlice, optIdx, aStrBin, aMakeSlice, viewCells, viewCell, arrN, frzU, t2, t3, t4, t5, t6, t7, t8, t9, t10, t11, t12, t13, t14, t15, t16, t17, t18, t19, t21, t22, t23, t25, t36, t46, t50, t51, t53, t54, t56, t57, t58, t59, t60, t62, t63, t64, t66, t67, t68, t69, t70, u_bool, hok, hm, hm', hw, hdd, hw2, hw3, hy, endR_some, am0_gg, am0_ss, am0_ll, am1_gg, am1_ss, am1_ll, am1_nl, am1_al, am2_gg, am2_ss, am2_ll, am2_nl, am2_al, am2_ff, am1s_nn, am1s_cc, am2s_nn, am2s_cc, amRs_one, amRs_two', amRs_thr, resAll_nil, resAll_tmp, resAll_cell, go]
                all_goals first | omega | (simp_all; done) | ((try simp_all); (try simp (disch := omega) only [wrap64, Int.tdiv_eq_ediv_of_nonneg, Int.tmod_eq_emod_of_nonneg, and_true, true_and]); done) | ((try simp_all); (try simp (disch := omega) only [wrap64, Int.tdiv_eq_ediv_of_nonneg, Int.tmod_eq_emod_of_nonneg, and_true, true_and] at *); omega)
          · try simp at hc
            all_goals
              refine AW_skip ?_
              refine AW_id ?_
              refine AW_q rfl mix (by kernel_rfl) rfl fun K hK => ?_
              simp [creg_nil, creg_op, creg_gd, cO, cR, cG_bool, cG_undef, ↓spl_tt, ↓spl_tf, ↓spl_ft, ↓spl_ff, spl_ct, spl_cf, putC, nmC, aop, ev, cv, updL, upd_app, upd_upd, lkE_app, lk_nil, lk_cons, aLen, aBuiltin, aBin, aIntBin, aFieldAddr, placeOf, aLoad, cellsAt, aUn, aIndexAddr, st0, valCells, isOne, Value.oneCell', aStore, setCells, formOb_nn, aBuild, parts, fillA, placesOf, aField, aIndex, aSlice, optIdx, aStrBin, aMakeSlice, viewCells, viewCell, arrN, frzU, t2, t3, t4, t5, t6, t7, t8, t9, t10, t11, t12, t13, t14, t15, t16, t17, t18, t19, t21, t22, t23, t25, t36, t46, t50, t51, t53, t54, t56, t57, t58, t59, t60, t62, t63, t64, t66, t67, t68, t69, t70, u_bool, hok, hm, hm', hw, hdd, hw2, hw3, hy]
              repeat' first | (refine ⟨fun _ => ?_, fun _ => ?_⟩) | (refine ⟨by omega, ?_⟩) | (intro _)
              all_goals (refine hK _ ?_; clear hK K)
              all_goals
                refine AW_seq ?_
                refine AW_r rfl rfl fun K hK => ?_
                simp [creg_nil, creg_op, creg_gd, cO, cR, cG_bool, cG_undef, ↓spl_tt, ↓spl_tf, ↓spl_ft, ↓spl_ff, spl_ct, spl_cf, putC, nmC, aop, ev, cv, updL, upd_app, upd_upd, lkE_app, lk_nil, lk_cons, aLen, aBuiltin, aBin, aIntBin, aFieldAddr, placeOf, aLoad, cellsAt, aUn, aIndexAddr, st0, valCells, isOne, Value.oneCell', aStore, setCells, formOb_nn, aBuild, parts, fillA, placesOf, aField, aIndex, aSlice, optIdx, aStrBin, aMakeSlice, viewCells, viewCell, arrN, frzU, t2, t3, t4, t5, t6, t7, t8, t9, t10, t11, t12, t13, t14, t15, t16, t17, t18, t19, t21, t22, t23, t25, t36, t46, t50, t51, t53, t54, t56, t57, t58, t59, t60, t62, t63, t64, t66, t67, t68, t69, t70, u_bool, hok, hm, hm', hw, hdd, hw2, hw3, hy]
                repeat' first | (refine CKd_v (am2s_cons (am2_agg rfl) (am2s_cons am2_g am2s_nil)) (implRetryMay _ _ _ _ _) rfl ?_; simp [creg_nil, creg_op, creg_gd, cO, cR, cG_bool, cG_undef, ↓spl_tt, ↓spl_tf, ↓spl_ft, ↓spl_ff, spl_ct, spl_cf, putC, nmC, aop, ev, cv, updL, upd_app, upd_upd, lkE_app, lk_nil, lk_cons, aLen, aBuiltin, aBin, aIntBin, aFieldAddr, placeOf, aLoad, cellsAt, aUn, aIndexAddr, st0, valCells, isOne, Value.oneCell', aStore, setCells, formOb_nn, aBuild, parts, fillA, placesOf, aField, aIndex, aSlice, optIdx, aStrBin, aMakeSlice, viewCells, viewCell, arrN, frzU, t2, t3, t4, t5, t6, t7, t8, t9, t10, t11, t12, t13, t14, t15, t16, t17, t18, t19, t21, t22, t23, t25, t36, t46, t50, t51, t53, t54, t56, t57, t58, t59, t60, t62, t63, t64, t66, t67, t68, t69, t70, u_bool, hok, hm, hm', hw, hdd, hw2, hw3, hy]) | (refine ⟨fun _ => ?_, fun _ => ?_⟩) | (refine ⟨by omega, ?_⟩) | (intro _)
                all_goals (refine hK _ ?_; clear hK K)
                all_goals
                  refine AW_cond rfl (fun hc => ?_) (fun hc => ?_)
                  · try simp at hc
                    all_goals
                      refine AW_r rfl rfl fun K hK => ?_
                      simp [creg_nil, creg_op, creg_gd, cO, cR, cG_bool, cG_undef, ↓spl_tt, ↓spl_tf, ↓spl_ft, ↓spl_ff, spl_ct, spl_cf, putC, nmC, aop, ev, cv, updL, upd_app, upd_upd, lkE_app, lk_nil, lk_cons, aLen, aBuiltin, aBin, aIntBin, aFieldAddr, placeOf, aLoad, cellsAt, aUn, aIndexAddr, st0, valCells, isOne, Value.oneCell', aStore, setCells, formOb_nn, aBuild, parts, fillA, placesOf, aField, aIndex, aSlice, optIdx, aStrBin, aMakeSlice, viewCells, viewCell, arrN, frzU, t2, t3, t4, t5, t6, t7, t8, t9, t10, t11, t12, t13, t14, t15, t16, t17, t18, t19, t21, t22, t23, t25, t36, t46, t50, t51, t53, t54, t56, t57, t58, t59, t60, t62, t63, t64, t66, t67, t68, t69, t70, u_bool, hok, hm, hm', hw, hdd, hw2, hw3, hy]
                      repeat' first | (refine ⟨fun _ => ?_, fun _ => ?_⟩) | (refine ⟨by omega, ?_⟩) | (intro _)
                      all_goals (refine hK _ ?_; clear hK K)
                      all_goals
                        refine AW_ret (end_s ?_)
                        simp [creg_nil, creg_op, creg_gd, cO, cR, cG_bool, cG_undef, ↓spl_tt, ↓spl_tf, ↓spl_ft, ↓spl_ff, spl_ct, spl_cf, putC, nmC, aop, ev, cv, updL, upd_app, upd_upd, lkE_app, lk_nil, lk_cons, aLen, aBuiltin, aBin, aIntBin, aFieldAddr, placeOf, aLoad, cellsAt, aUn, aIndexAddr, st0, valCells, isOne, Value.oneCell', aStore, setCells, formOb_nn, aBuild, parts, fillA, placesOf, aField, aIndex, aSlice, optIdx, aStrBin, aMakeSlice, viewCells, viewCell, arrN, frzU, t2, t3, t4, t5, t6, t7, t8, t9, t10, t11, t12, t13, t14, t15, t16, t17, t18, t19, t21, t22, t23, t25, t36, t46, t50, t51, t53, t54, t56, t57, t58, t59, t60, t62, t63, t64, t66, t67, t68, t69, t70, u_bool, hok, hm, hm', hw, hdd, hw2, hw3, hy, endR_some, am0_gg, am0_ss, am0_ll, am1_gg, am1_ss, am1_ll, am1_nl, am1_al, am2_gg, am2_ss, am2_ll, am2_nl, am2_al, am2_ff, am1s_nn, am1s_cc, am2s_nn, am2s_cc, amRs_one, amRs_two', amRs_thr, resAll_nil, resAll_tmp, resAll_cell, go]
                        all_goals first | omega | (simp_all; done) | ((try simp_all); (try simp (disch := omega) only [wrap64, Int.tdiv_eq_ediv_of_nonneg, Int.tmod_eq_emod_of_nonneg, and_true, true_and]); done) | ((try simp_all); (try simp (disch := omega) only [wrap64, Int.tdiv_eq_ediv_of_nonneg, Int.tmod_eq_emod_of_nonneg, and_true, true_and] at *); omega)
                  · try simp at hc
                    all_goals
                      refine AW_skip ?_
                      refine AW_id ?_
                      refine AW_r rfl rfl fun K hK => ?_
                      simp [creg_nil, creg_op, creg_gd, cO, cR, cG_bool, cG_undef, ↓spl_tt, ↓spl_tf, ↓spl_ft, ↓spl_ff, spl_ct, spl_cf, putC, nmC, aop, ev, cv, updL, upd_app, upd_upd, lkE_app, lk_nil, lk_cons, aLen, aBuiltin, aBin, aIntBin, aFieldAddr, placeOf, aLoad, cellsAt, aUn, aIndexAddr, st0, valCells, isOne, Value.oneCell', aStore, setCells, formOb_nn, aBuild, parts, fillA, placesOf, aField, aIndex, aSlice, optIdx, aStrBin, aMakeSlice, viewCells, viewCell, arrN, frzU, t2, t3, t4, t5, t6, t7, t8, t9, t10, t11, t12, t13, t14, t15, t16, t17, t18, t19, t21, t22, t23, t25, t36, t46, t50, t51, t53, t54, t56, t57, t58, t59, t60, t62, t63, t64, t66, t67, t68, t69, t70, u_bool, hok, hm, hm', hw, hdd, hw2, hw3, hy]
                      repeat' first | (refine ⟨fun _ => ?_, fun _ => ?_⟩) | (refine ⟨by omega, ?_⟩) | (intro _)
                      all_goals (refine hK _ ?_; clear hK K)
                      all_goals
                        refine AW_r rfl rfl fun K hK => ?_
                        simp [creg_nil, creg_op, creg_gd, cO, cR, cG_bool, cG_undef, ↓spl_tt, ↓spl_tf, ↓spl_ft, ↓spl_ff, spl_ct, spl_cf, putC, nmC, aop, ev, cv, updL, upd_app, upd_upd, lkE_app, lk_nil, lk_cons, aLen, aBuiltin, aBin, aIntBin, aFieldAddr, placeOf, aLoad, cellsAt, aUn, aIndexAddr, st0, valCells, isOne, Value.oneCell', aStore, setCells, formOb_nn, aBuild, parts, fillA, placesOf, aField, aIndex, aSlice, optIdx, aStrBin, aMakeSlice, viewCells, viewCell, arrN, frzU, t2, t3, t4, t5, t6, t7, t8, t9, t10, t11, t12, t13, t14, t15, t16, t17, t18, t19, t21, t22, t23, t25, t36, t46, t50, t51, t53, t54, t56, t57, t58, t59, t60, t62, t63, t64, t66, t67, t68, t69, t70, u_bool, hok, hm, hm', hw, hdd, hw2, hw3, hy]
                        repeat' first | (refine ⟨fun _ => ?_, fun _ => ?_⟩) | (refine ⟨by omega, ?_⟩) | (intro _)
                        all_goals (refine hK _ ?_; clear hK K)
                        all_goals
                          refine AW_r rfl rfl fun K hK => ?_
                          simp [creg_nil, creg_op, creg_gd, cO, cR, cG_bool, cG_undef, ↓spl_tt, ↓spl_tf, ↓spl_ft, ↓spl_ff, spl_ct, spl_cf, putC, nmC, aop, ev, cv, updL, upd_app, upd_upd, lkE_app, lk_nil, lk_cons, aLen, aBuiltin, aBin, aIntBin, aFieldAddr, placeOf, aLoad, cellsAt, aUn, aIndexAddr, st0, valCells, isOne, Value.oneCell', aStore, setCells, formOb_nn, aBuild, parts, fillA, placesOf, aField, aIndex, aSlice, optIdx, aStrBin, aMakeSlice, viewCells, viewCell, arrN, frzU, t2, t3, t4, t5, t6, t7, t8, t9, t10, t11, t12, t13, t14, t15, t16, t17, t18, t19, t21, t22, t23, t25, t36, t46, t50, t51, t53, t54, t56, t57, t58, t59, t60, t62, t63, t64, t66, t67, t68, t69, t70, u_bool, hok, hm, hm', hw, hdd, hw2, hw3, hy]
                          repeat' first | (refine ⟨fun _ => ?_, fun _ => ?_⟩) | (refine ⟨by omega, ?_⟩) | (intro _)
                          all_goals (refine hK _ ?_; clear hK K)
                          all_goals
                            refine AW_ret (end_s ?_)
                            simp [creg_nil, creg_op, creg_gd, cO, cR, cG_bool, cG_undef, ↓spl_tt, ↓spl_tf, ↓spl_ft, ↓spl_ff, spl_ct, spl_cf, putC, nmC, aop, ev, cv, updL, upd_app, upd_upd, lkE_app, lk_nil, lk_cons, aLen, aBuiltin, aBin, aIntBin, aFieldAddr, placeOf, aLoad, cellsAt, aUn, aIndexAddr, st0, valCells, isOne, Value.oneCell', aStore, setCells, formOb_nn, aBuild, parts, fillA, placesOf, aField, aIndex, aSlice, optIdx, aStrBin, aMakeSlice, viewCells, viewCell, arrN, frzU, t2, t3, t4, t5, t6, t7, t8, t9, t10, t11, t12, t13, t14, t15, t16, t17, t18, t19, t21, t22, t23, t25, t36, t46, t50, t51, t53, t54, t56, t57, t58, t59, t60, t62, t63, t64, t66, t67, t68, t69, t70, u_bool, hok, hm, hm', hw, hdd, hw2, hw3, hy, endR_some, am0_gg, am0_ss, am0_ll, am1_gg, am1_ss, am1_ll, am1_nl, am1_al, am2_gg, am2_ss, am2_ll, am2_nl, am2_al, am2_ff, am1s_nn, am1s_cc, am2s_nn, am2s_cc, amRs_one, amRs_two', amRs_thr, resAll_nil, resAll_tmp, resAll_cell, go]
                            all_goals first | omega | (simp_all; done) | ((try simp_all); (try simp (disch := omega) only [wrap64, Int.tdiv_eq_ediv_of_nonneg, Int.tmod_eq_emod_of_nonneg, and_true, true_and]); done) | ((try simp_all); (try simp (disch := omega) only [wrap64, Int.tdiv_eq_ediv_of_nonneg, Int.tmod_eq_emod_of_nonneg, and_true, true_and] at *); omega)
  · have hg : go a b c d n = false := by simp [go, retryMay, hok]
    simp only [hok]
    refine gcall_of_walk Try.func23 (by rfl) (by rfl) (by rw [Try.ntmps23]; exact Nat.le_of_ble_eq_true rfl) rfl (by decide) ?_
    rw [Try.ntmps23]
    refine AW_r rfl rfl fun K hK => ?_
    simp [creg_nil, creg_op, creg_gd, cO, cR, cG_bool, cG_undef, ↓spl_tt, ↓spl_tf, ↓spl_ft, ↓spl_ff, spl_ct, spl_cf, putC, nmC, aop, ev, cv, updL, upd_app, upd_upd, lkE_app, lk_nil, lk_cons, aLen, aBuiltin, aBin, aIntBin, aFieldAddr, placeOf, aLoad, cellsAt, aUn, aIndexAddr, st0, valCells, isOne, Value.oneCell', aStore, setCells, formOb_nn, aBuild, parts, fillA, placesOf, aField, aIndex, aSlice, optIdx, aStrBin, aMakeSlice, viewCells, viewCell, arrN, frzU, t2, t3, t4, t5, t6, t7, t8, t9, t10, t11, t12, t13, t14, t15, t16, t17, t18, t19, t21, t22, t23, t25, t36, t46, t50, t51, t53, t54, t56, t57, t58, t59, t60, t62, t63, t64, t66, t67, t68, t69, t70, u_bool, hok]
    repeat' first | (refine ⟨fun _ => ?_, fun _ => ?_⟩) | (refine ⟨by omega, ?_⟩) | (intro _)
    all_goals (refine hK _ ?_; clear hK K)
    all_goals
      refine AW_seq ?_
      refine AW_r rfl rfl fun K hK => ?_
      simp [creg_nil, creg_op, creg_gd, cO, cR, cG_bool, cG_undef, ↓spl_tt, ↓spl_tf, ↓spl_ft, ↓spl_ff, spl_ct, spl_cf, putC, nmC, aop, ev, cv, updL, upd_app, upd_upd, lkE_app, lk_nil, lk_cons, aLen, aBuiltin, aBin, aIntBin, aFieldAddr, placeOf, aLoad, cellsAt, aUn, aIndexAddr, st0, valCells, isOne, Value.oneCell', aStore, setCells, formOb_nn, aBuild, parts, fillA, placesOf, aField, aIndex, aSlice, optIdx, aStrBin, aMakeSlice, viewCells, viewCell, arrN, frzU, t2, t3, t4, t5, t6, t7, t8, t9, t10, t11, t12, t13, t14, t15, t16, t17, t18, t19, t21, t22, t23, t25, t36, t46, t50, t51, t53, t54, t56, t57, t58, t59, t60, t62, t63, t64, t66, t67, t68, t69, t70, u_bool, hok]
      repeat' first | (refine CKd_v (am2s_cons (am2_agg rfl) am2s_nil) (implRetryOk _ _ _ _) rfl ?_; simp [creg_nil, creg_op, creg_gd, cO, cR, cG_bool, cG_undef, ↓spl_tt, ↓spl_tf, ↓spl_ft, ↓spl_ff, spl_ct, spl_cf, putC, nmC, aop, ev, cv, updL, upd_app, upd_upd, lkE_app, lk_nil, lk_cons, aLen, aBuiltin, aBin, aIntBin, aFieldAddr, placeOf, aLoad, cellsAt, aUn, aIndexAddr, st0, valCells, isOne, Value.oneCell', aStore, setCells, formOb_nn, aBuild, parts, fillA, placesOf, aField, aIndex, aSlice, optIdx, aStrBin, aMakeSlice, viewCells, viewCell, arrN, frzU, t2, t3, t4, t5, t6, t7, t8, t9, t10, t11, t12, t13, t14, t15, t16, t17, t18, t19, t21, t22, t23, t25, t36, t46, t50, t51, t53, t54, t56, t57, t58, t59, t60, t62, t63, t64, t66, t67, t68, t69, t70, u_bool, hok]) | (refine ⟨fun _ => ?_, fun _ => ?_⟩) | (refine ⟨by omega, ?_⟩) | (intro _)
      all_goals (refine hK _ ?_; clear hK K)
      all_goals
        refine AW_cond rfl (fun hc => ?_) (fun hc => ?_)
        · try simp at hc
          all_goals
            refine AW_r rfl rfl fun K hK => ?_
            simp [creg_nil, creg_op, creg_gd, cO, cR, cG_bool, cG_undef, ↓spl_tt, ↓spl_tf, ↓spl_ft, ↓spl_ff, spl_ct, spl_cf, putC, nmC, aop, ev, cv, updL, upd_app, upd_upd, lkE_app, lk_nil, lk_cons, aLen, aBuiltin, aBin, aIntBin, aFieldAddr, placeOf, aLoad, cellsAt, aUn, aIndexAddr, st0, valCells, isOne, Value.oneCell', aStore, setCells, formOb_nn, aBuild, parts, fillA, placesOf, aField, aIndex, aSlice, optIdx, aStrBin, aMakeSlice, viewCells, viewCell, arrN, frzU, t2, t3, t4, t5, t6, t7, t8, t9, t10, t11, t12, t13, t14, t15, t16, t17, t18, t19, t21, t22, t23, t25, t36, t46, t50, t51, t53, t54, t56, t57, t58, t59, t60, t62, t63, t64, t66, t67, t68, t69, t70, u_bool, hok]
            repeat' first | (refine ⟨fun _ => ?_, fun _ => ?_⟩) | (refine ⟨by omega, ?_⟩) | (intro _)
            all_goals (refine hK _ ?_; clear hK K)
            all_goals
              refine AW_ret (end_s ?_)
              simp [creg_nil, creg_op, creg_gd, cO, cR, cG_bool, cG_undef, ↓spl_tt, ↓spl_tf, ↓spl_ft, ↓spl_ff, spl_ct, spl_cf, putC, nmC, aop, ev, cv, updL, upd_app, upd_upd, lkE_app, lk_nil, lk_cons, aLen, aBuiltin, aBin, aIntBin, aFieldAddr, placeOf, aLoad, cellsAt, aUn, aIndexAddr, st0, valCells, isOne, Value.oneCell', aStore, setCells, formOb_nn, aBuild, parts, fillA, placesOf, aField, aIndex, aSlice, optIdx, aStrBin, aMakeSlice, viewCells, viewCell, arrN, frzU, t2, t3, t4, t5, t6, t7, t8, t9, t10, t11, t12, t13, t14, t15, t16, t17, t18, t19, t21, t22, t23, t25, t36, t46, t50, t51, t53, t54, t56, t57, t58, t59, t60, t62, t63, t64, t66, t67, t68, t69, t70, u_bool, hok, endR_some, am0_gg, am0_ss, am0_ll, am1_gg, am1_ss, am1_ll, am1_nl, am1_al, am2_gg, am2_ss, am2_ll, am2_nl, am2_al, am2_ff, am1s_nn, am1s_cc, am2s_nn, am2s_cc, amRs_one, amRs_two', amRs_thr, resAll_nil, resAll_tmp, resAll_cell]
              all_goals first | omega | (simp_all; done) | ((try simp_all); (try simp (disch := omega) only [wrap64, Int.tdiv_eq_ediv_of_nonneg, Int.tmod_eq_emod_of_nonneg, and_true, true_and]); done) | ((try simp_all); (try simp (disch := omega) only [wrap64, Int.tdiv_eq_ediv_of_nonneg, Int.tmod_eq_emod_of_nonneg, and_true, true_and] at *); omega)
        · try simp at hc
          all_goals
            refine AW_skip ?_
            refine AW_id ?_
            refine AW_q rfl mix (by kernel_rfl) rfl fun K hK => ?_
            simp [creg_nil, creg_op, creg_gd, cO, cR, cG_bool, cG_undef, ↓spl_tt, ↓spl_tf, ↓spl_ft, ↓spl_ff, spl_ct, spl_cf, putC, nmC, aop, ev, cv, updL, upd_app, upd_upd, lkE_app, lk_nil, lk_cons, aLen, aBuiltin, aBin, aIntBin, aFieldAddr, placeOf, aLoad, cellsAt, aUn, aIndexAddr, st0, valCells, isOne, Value.oneCell', aStore, setCells, formOb_nn, aBuild, parts, fillA, placesOf, aField, aIndex, aSlice, optIdx, aStrBin, aMakeSlice, viewCells, viewCell, arrN, frzU, t2, t3, t4, t5, t6, t7, t8, t9, t10, t11, t12, t13, t14, t15, t16, t17, t18, t19, t21, t22, t23, t25, t36, t46, t50, t51, t53, t54, t56, t57, t58, t59, t60, t62, t63, t64, t66, t67, t68, t69, t70, u_bool, hok]
            repeat' first | (refine ⟨fun _ => ?_, fun _ => ?_⟩) | (refine ⟨by omega, ?_⟩) | (intro _)
            all_goals (refine hK _ ?_; clear hK K)
            all_goals
              refine AW_seq ?_
              refine AW_r rfl rfl fun K hK => ?_
              simp [creg_nil, creg_op, creg_gd, cO, cR, cG_bool, cG_undef, ↓spl_tt, ↓spl_tf, ↓spl_ft, ↓spl_ff, spl_ct, spl_cf, putC, nmC, aop, ev, cv, updL, upd_app, upd_upd, lkE_app, lk_nil, lk_cons, aLen, aBuiltin, aBin, aIntBin, aFieldAddr, placeOf, aLoad, cellsAt, aUn, aIndexAddr, st0, valCells, isOne, Value.oneCell', aStore, setCells, formOb_nn, aBuild, parts, fillA, placesOf, aField, aIndex, aSlice, optIdx, aStrBin, aMakeSlice, viewCells, viewCell, arrN, frzU, t2, t3, t4, t5, t6, t7, t8, t9, t10, t11, t12, t13, t14, t15, t16, t17, t18, t19, t21, t22, t23, t25, t36, t46, t50, t51, t53, t54, t56, t57, t58, t59, t60, t62, t63, t64, t66, t67, t68, t69, t70, u_bool, hok]
              repeat' first | (refine CKd_v (am2s_cons (am2_agg rfl) (am2s_cons am2_g am2s_nil)) (implRetryMay _ _ _ _ _) rfl ?_; simp [creg_nil, creg_op, creg_gd, cO, cR, cG_bool, cG_undef, ↓spl_tt, ↓spl_tf, ↓spl_ft, ↓spl_ff, spl_ct, spl_cf, putC, nmC, aop, ev, cv, updL, upd_app, upd_upd, lkE_app, lk_nil, lk_cons, aLen, aBuiltin, aBin, aIntBin, aFieldAddr, placeOf, aLoad, cellsAt, aUn, aIndexAddr, st0, valCells, isOne, Value.oneCell', aStore, setCells, formOb_nn, aBuild, parts, fillA, placesOf, aField, aIndex, aSlice, optIdx, aStrBin, aMakeSlice, viewCells, viewCell, arrN, frzU, t2, t3, t4, t5, t6, t7, t8, t9, t10, t11, t12, t13, t14, t15, t16, t17, t18, t19, t21, t22, t23, t25, t36, t46, t50, t51, t53, t54, t56, t57, t58, t59, t60, t62, t63, t64, t66, t67, t68, t69, t70, u_bool, hok]) | (refine ⟨fun _ => ?_, fun _ => ?_⟩) | (refine ⟨by omega, ?_⟩) | (intro _)
              all_goals (refine hK _ ?_; clear hK K)
              all_goals
                refine AW_cond rfl (fun hc => ?_) (fun hc => ?_)
                · try simp at hc
                  all_goals
                    refine AW_r rfl rfl fun K hK => ?_
                    simp [creg_nil, creg_op, creg_gd, cO, cR, cG_bool, cG_undef, ↓spl_tt, ↓spl_tf, ↓spl_ft, ↓spl_ff, spl_ct, spl_cf, putC, nmC, aop, ev, cv, updL, upd_app, upd_upd, lkE_app, lk_nil, lk_cons, aLen, aBuiltin, aBin, aIntBin, aFieldAddr, placeOf, aLoad, cellsAt, aUn, aIndexAddr, st0, valCells, isOne, Value.oneCell', aStore, setCells, formOb_nn, aBuild, parts, fillA, placesOf, aField, aIndex, aSlice, optIdx, aStrBin, aMakeSlice, viewCells, viewCell, arrN, frzU, t2, t3, t4, t5, t6, t7, t8, t9, t10, t11, t12, t13, t14, t15, t16, t17, t18, t19, t21, t22, t23, t25, t36, t46, t50, t51, t53, t54, t56, t57, t58, t59, t60, t62, t63, t64, t66, t67, t68, t69, t70, u_bool, hok]
                    repeat' first | (refine ⟨fun _ => ?_, fun _ => ?_⟩) | (refine ⟨by omega, ?_⟩) | (intro _)
                    all_goals (refine hK _ ?_; clear hK K)
                    all_goals
                      refine AW_ret (end_s ?_)
                      simp [creg_nil, creg_op, creg_gd, cO, cR, cG_bool, cG_undef, ↓spl_tt, ↓spl_tf, ↓spl_ft, ↓spl_ff, spl_ct, spl_cf, putC, nmC, aop, ev, cv, updL, upd_app, upd_upd, lkE_app, lk_nil, lk_cons, aLen, aBuiltin, aBin, aIntBin, aFieldAddr, placeOf, aLoad, cellsAt, aUn, aIndexAddr, st0, valCells, isOne, Value.oneCell', aStore, setCells, formOb_nn, aBuild, parts, fillA, placesOf, aField, aIndex, aSlice, optIdx, aStrBin, aMakeSlice, viewCells, viewCell, arrN, frzU, t2, t3, t4, t5, t6, t7, t8, t9, t10, t11, t12, t13, t14, t15, t16, t17, t18, t19, t21, t22, t23, t25, t36, t46, t50, t51, t53, t54, t56, t57, t58, t59, t60, t62, t63, t64, t66, t67, t68, t69, t70, u_bool, hok, endR_some, am0_gg, am0_ss, am0_ll, am1_gg, am1_ss, am1_ll, am1_nl, am1_al, am2_gg, am2_ss, am2_ll, am2_nl, am2_al, am2_ff, am1s_nn, am1s_cc, am2s_nn, am2s_cc, amRs_one, amRs_two', amRs_thr, resAll_nil, resAll_tmp, resAll_cell]
                      all_goals first | omega | (simp_all; done) | ((try simp_all); (try simp (disch := omega) only [wrap64, Int.tdiv_eq_ediv_of_nonneg, Int.tmod_eq_emod_of_nonneg, and_true, true_and]); done) | ((try simp_all); (try simp (disch := omega) only [wrap64, Int.tdiv_eq_ediv_of_nonneg, Int.tmod_eq_emod_of_nonneg, and_true, true_and] at *); omega)
                · try simp at hc
                  all_goals
                    refine AW_skip ?_
                    refine AW_id ?_
                    refine AW_r rfl rfl fun K hK => ?_
                    simp [creg_nil, creg_op, creg_gd, cO, cR, cG_bool, cG_undef, ↓spl_tt, ↓spl_tf, ↓spl_ft, ↓spl_ff, spl_ct, spl_cf, putC, nmC, aop, ev, cv, updL, upd_app, upd_upd, lkE_app, lk_nil, lk_cons, aLen, aBuiltin, aBin, aIntBin, aFieldAddr, placeOf, aLoad, cellsAt, aUn, aIndexAddr, st0, valCells, isOne, Value.oneCell', aStore, setCells, formOb_nn, aBuild, parts, fillA, placesOf, aField, aIndex, aSlice, optIdx, aStrBin, aMakeSlice, viewCells, viewCell, arrN, frzU, t2, t3, t4, t5, t6, t7, t8, t9, t10, t11, t12, t13, t14, t15, t16, t17, t18, t19, t21, t22, t23, t25, t36, t46, t50, t51, t53, t54, t56, t57, t58, t59, t60, t62, t63, t64, t66, t67, t68, t69, t70, u_bool, hok]
                    repeat' first | (refine ⟨fun _ => ?_, fun _ => ?_⟩) | (refine ⟨by omega, ?_⟩) | (intro _)
                    all_goals (refine hK _ ?_; clear hK K)
                    all_goals
                      refine AW_r rfl rfl fun K hK => ?_
                      simp [creg_nil, creg_op, creg_gd, cO, cR, cG_bool, cG_undef, ↓spl_tt, ↓spl_tf, ↓spl_ft, ↓spl_ff, spl_ct, spl_cf, putC, nmC, aop, ev, cv, updL, upd_app, upd_upd, lkE_app, lk_nil, lk_cons, aLen, aBuiltin, aBin, aIntBin, aFieldAddr, placeOf, aLoad, cellsAt, aUn, aIndexAddr, st0, valCells, isOne, Value.oneCell', aStore, setCells, formOb_nn, aBuild, parts, fillA, placesOf, aField, aIndex, aSlice, optIdx, aStrBin, aMakeSlice, viewCells, viewCell, arrN, frzU, t2, t3, t4, t5, t6, t7, t8, t9, t10, t11, t12, t13, t14, t15, t16, t17, t18, t19, t21, t22, t23, t25, t36, t46, t50, t51, t53, t54, t56, t57, t58, t59, t60, t62, t63, t64, t66, t67, t68, t69, t70, u_bool, hok]
                      repeat' first | (refine ⟨fun _ => ?_, fun _ => ?_⟩) | (refine ⟨by omega, ?_⟩) | (intro _)
                      all_goals (refine hK _ ?_; clear hK K)
                      all_goals
                        refine AW_r rfl rfl fun K hK => ?_
                        simp [creg_nil, creg_op, creg_gd, cO, cR, cG_bool, cG_undef, ↓spl_tt, ↓spl_tf, ↓spl_ft, ↓spl_ff, spl_ct, spl_cf, putC, nmC, aop, ev, cv, updL, upd_app, upd_upd, lkE_app, lk_nil, lk_cons, aLen, aBuiltin, aBin, aIntBin, aFieldAddr, placeOf, aLoad, cellsAt, aUn, aIndexAddr, st0, valCells, isOne, Value.oneCell', aStore, setCells, formOb_nn, aBuild, parts, fillA, placesOf, aField, aIndex, aSlice, optIdx, aStrBin, aMakeSlice, viewCells, viewCell, arrN, frzU, t2, t3, t4, t5, t6, t7, t8, t9, t10, t11, t12, t13, t14, t15, t16, t17, t18, t19, t21, t22, t23, t25, t36, t46, t50, t51, t53, t54, t56, t57, t58, t59, t60, t62, t63, t64, t66, t67, t68, t69, t70, u_bool, hok]
                        repeat' first | (refine ⟨fun _ => ?_, fun _ => ?_⟩) | (refine ⟨by omega, ?_⟩) | (intro _)
                        all_goals (refine hK _ ?_; clear hK K)
                        all_goals
                          refine AW_ret (end_s ?_)
                          simp [creg_nil, creg_op, creg_gd, cO, cR, cG_bool, cG_undef, ↓spl_tt, ↓spl_tf, ↓spl_ft, ↓spl_ff, spl_ct, spl_cf, putC, nmC, aop, ev, cv, updL, upd_app, upd_upd, lkE_app, lk_nil, lk_cons, aLen, aBuiltin, aBin, aIntBin, aFieldAddr, placeOf, aLoad, cellsAt, aUn, aIndexAddr, st0, valCells, isOne, Value.oneCell', aStore, setCells, formOb_nn, aBuild, parts, fillA, placesOf, aField, aIndex, aSlice, optIdx, aStrBin, aMakeSlice, viewCells, viewCell, arrN, frzU, t2, t3, t4, t5, t6, t7, t8, t9, t10, t11, t12, t13, t14, t15, t16, t17, t18, t19, t21, t22, t23, t25, t36, t46, t50, t51, t53, t54, t56, t57, t58, t59, t60, t62, t63, t64, t66, t67, t68, t69, t70, u_bool, hok, endR_some, am0_gg, am0_ss, am0_ll, am1_gg, am1_ss, am1_ll, am1_nl, am1_al, am2_gg, am2_ss, am2_ll, am2_nl, am2_al, am2_ff, am1s_nn, am1s_cc, am2s_nn, am2s_cc, amRs_one, amRs_two', amRs_thr, resAll_nil, resAll_tmp, resAll_cell]
                          all_goals first | omega | (simp_all; done) | ((try simp_all); (try simp (disch := omega) only [wrap64, Int.tdiv_eq_ediv_of_nonneg, Int.tmod_eq_emod_of_nonneg, and_true, true_and]); done) | ((try simp_all); (try simp (disch := omega) only [wrap64, Int.tdiv_eq_ediv_of_nonneg, Int.tmod_eq_emod_of_nonneg, and_true, true_and] at *); omega)
theorem specRetryFail (a b c d n : Int) : PCall Try.prog 22 [.agg [(.g (.int .i64 (a))), (.g (.int .i64 (b))), (.g (.int .i64 (c))), (.g (.int .i64 (d)))], (.g (.int .i64 (n)))] (retryFail a b c d n) := by
  unfold retryFail
  by_cases hok : retryOk a b c d = true
  · have ⟨h1, h2, h3, h4, h5, h6, h7, h8⟩ := ok_bd hok
    have hd : 1 ≤ delay a b c ∧ delay a b c ≤ 10000 := by
      have ⟨p1, p2⟩ := pow_bd h5 h6
      have ha : 1 ≤ a * 2 ^ c.toNat := by have := Int.mul_le_mul h1 p1 (by omega) (by omega); omega
      unfold delay; split <;> omega
    have hw2 : IntKind.i64.wrap (1000000 - delay a b c) = 1000000 - delay a b c := wrap64 (by omega) (by omega)
    have hw3 : IntKind.i64.wrap (c + 1) = c + 1 := wrap64 (by omega) (by omega)
    refine gcall_of_walk Try.func22 (by rfl) (by rfl) (by rw [Try.ntmps22]; exact Nat.le_of_ble_eq_true rfl) rfl (by decide) ?_
    rw [Try.ntmps22]
    refine AW_r rfl rfl fun K hK => ?_
    simp [creg_nil, creg_op, creg_gd, cO, cR, cG_bool, cG_undef, ↓spl_tt, ↓spl_tf, ↓spl_ft, ↓spl_ff, spl_ct, spl_cf, putC, nmC, aop, ev, cv, updL, upd_app, upd_upd, lkE_app, lk_nil, lk_cons, aLen, aBuiltin, aBin, aIntBin, aFieldAddr, placeOf, aLoad, cellsAt, aUn, aIndexAddr, st0, valCells, isOne, Value.oneCell', aStore, setCells, formOb_nn, aBuild, parts, fillA, placesOf, aField, aIndex, aSlice, optIdx, aStrBin, aMakeSlice, viewCells, viewCell, arrN, frzU, t2, t3, t4, t5, t6, t7, t8, t9, t10, t11, t12, t13, t14, t15, t16, t17, t18, t19, t21, t22, t23, t25, t36, t46, t50, t51, t53, t54, t56, t57, t58, t59, t60, t62, t63, t64, t66, t67, t68, t69, t70, u_bool, hok, hw2, hw3]
    refine hK _ ?_; clear hK K
    refine AW_seq (AW_r rfl rfl fun K hK => ?_)
    simp [creg_nil, creg_op, creg_gd, cO, cR, cG_bool, cG_undef, ↓spl_tt, ↓spl_tf, ↓spl_ft, ↓spl_ff, spl_ct, spl_cf, putC, nmC, aop, ev, cv, updL, upd_app, upd_upd, lkE_app, lk_nil, lk_cons, aLen, aBuiltin, aBin, aIntBin, aFieldAddr, placeOf, aLoad, cellsAt, aUn, aIndexAddr, st0, valCells, isOne, Value.oneCell', aStore, setCells, formOb_nn, aBuild, parts, fillA, placesOf, aField, aIndex, aSlice, optIdx, aStrBin, aMakeSlice, viewCells, viewCell, arrN, frzU, t2, t3, t4, t5, t6, t7, t8, t9, t10, t11, t12, t13, t14, t15, t16, t17, t18, t19, t21, t22, t23, t25, t36, t46, t50, t51, t53, t54, t56, t57, t58, t59, t60, t62, t63, t64, t66, t67, t68, t69, t70, u_bool, hok, hw2, hw3]
    refine CKd_v (am2s_cons (am2_agg rfl) am2s_nil) (specRetryOk _ _ _ _) rfl ?_
    simp [creg_nil, creg_op, creg_gd, cO, cR, cG_bool, cG_undef, ↓spl_tt, ↓spl_tf, ↓spl_ft, ↓spl_ff, spl_ct, spl_cf, putC, nmC, aop, ev, cv, updL, upd_app, upd_upd, lkE_app, lk_nil, lk_cons, aLen, aBuiltin, aBin, aIntBin, aFieldAddr, placeOf, aLoad, cellsAt, aUn, aIndexAddr, st0, valCells, isOne, Value.oneCell', aStore, setCells, formOb_nn, aBuild, parts, fillA, placesOf, aField, aIndex, aSlice, optIdx, aStrBin, aMakeSlice, viewCells, viewCell, arrN, frzU, t2, t3, t4, t5, t6, t7, t8, t9, t10, t11, t12, t13, t14, t15, t16, t17, t18, t19, t21, t22, t23, t25, t36, t46, t50, t51, t53, t54, t56, t57, t58, t59, t60, t62, t63, t64, t66, t67, t68, t69, t70, u_bool, hok, hw2, hw3]
    refine hK _ ?_; clear hK K
    refine AW_cond_false rfl (AW_skip (AW_id ?_))
    refine AW_k [(1, (.g (.int .i64 (n)))), (2, .ptr 48 0), (4, .ptr 80 0)] (by simp [KpE, upd_app, lkE_app, lk_cons]; try rfl) ?_
    refine AW_r rfl rfl fun K hK => ?_
    simp [creg_nil, creg_op, creg_gd, cO, cR, cG_bool, cG_undef, ↓spl_tt, ↓spl_tf, ↓spl_ft, ↓spl_ff, spl_ct, spl_cf, putC, nmC, aop, ev, cv, updL, upd_app, upd_upd, lkE_app, lk_nil, lk_cons, aLen, aBuiltin, aBin, aIntBin, aFieldAddr, placeOf, aLoad, cellsAt, aUn, aIndexAddr, st0, valCells, isOne, Value.oneCell', aStore, setCells, formOb_nn, aBuild, parts, fillA, placesOf, aField, aIndex, aSlice, optIdx, aStrBin, aMakeSlice, viewCells, viewCell, arrN, frzU, t2, t3, t4, t5, t6, t7, t8, t9, t10, t11, t12, t13, t14, t15, t16, t17, t18, t19, t21, t22, t23, t25, t36, t46, t50, t51, t53, t54, t56, t57, t58, t59, t60, t62, t63, t64, t66, t67, t68, t69, t70, u_bool, hok, hw2, hw3]
    refine hK _ ?_; clear hK K
    have hpw : ∀ i : Nat, i ≤ c.toNat → 1 ≤ (2 : Int) ^ i ∧ (2 : Int) ^ i ≤ 4096 := by
      intro i hi
      have := pow_bd (c := (i : Int)) (by omega) (by omega)
      simpa using this
    have hap : ∀ i : Nat, i ≤ c.toNat → 1 ≤ a * 2 ^ i ∧ a * 2 ^ i ≤ 409600 := by
      intro i hi
      have ⟨p1, p2⟩ := hpw i hi
      have ha := Int.mul_le_mul h1 p1 (by omega) (by omega)
      have hb := Int.mul_le_mul h2 p2 (by omega) (by omega)
      omega
    refine AW_cutS (fun s => ∃ i : Nat, i ≤ c.toNat ∧ (i = c.toNat ∨ b ≤ a * 2 ^ i) ∧ s = { env := lkE [(1, (.g (.int .i64 (n)))), (2, .ptr 48 0), (4, .ptr 80 0), (6, (.g (.int .i64 (a * 2 ^ i))))], ob := upd (upd (formOb [] []) 48 (some (OB.cells [(.g (.int .i64 (a))), (.g (.int .i64 (b))), (.g (.int .i64 (c))), (.g (.int .i64 (d)))]))) 80 (some (OB.cells [(.g (.int .i64 (0))), (.g (.int .i64 (0))), (.g (.int .i64 (0))), (.g (.int .i64 (0)))])) }) ?_ ?_
    · refine AW_r rfl rfl fun K hK => ?_
      simp [creg_nil, creg_op, creg_gd, cO, cR, cG_bool, cG_undef, ↓spl_tt, ↓spl_tf, ↓spl_ft, ↓spl_ff, spl_ct, spl_cf, putC, nmC, aop, ev, cv, updL, upd_app, upd_upd, lkE_app, lk_nil, lk_cons, aLen, aBuiltin, aBin, aIntBin, aFieldAddr, placeOf, aLoad, cellsAt, aUn, aIndexAddr, st0, valCells, isOne, Value.oneCell', aStore, setCells, formOb_nn, aBuild, parts, fillA, placesOf, aField, aIndex, aSlice, optIdx, aStrBin, aMakeSlice, viewCells, viewCell, arrN, frzU, t2, t3, t4, t5, t6, t7, t8, t9, t10, t11, t12, t13, t14, t15, t16, t17, t18, t19, t21, t22, t23, t25, t36, t46, t50, t51, t53, t54, t56, t57, t58, t59, t60, t62, t63, t64, t66, t67, t68, t69, t70, u_bool, hok, hw2, hw3]
      refine hK _ ?_; clear hK K
      refine AW_block ?_
      refine AW_loopS (fun m s => ∃ i : Nat, m = c.toNat - i ∧ i ≤ c.toNat ∧ s = { env := lkE [(1, (.g (.int .i64 (n)))), (2, .ptr 48 0), (4, .ptr 80 0), (6, (.g (.int .i64 (a * 2 ^ i)))), (7, (.g (.int .i64 (i))))], ob := upd (upd (formOb [] []) 48 (some (OB.cells [(.g (.int .i64 (a))), (.g (.int .i64 (b))), (.g (.int .i64 (c))), (.g (.int .i64 (d)))]))) 80 (some (OB.cells [(.g (.int .i64 (0))), (.g (.int .i64 (0))), (.g (.int .i64 (0))), (.g (.int .i64 (0)))])) }) ?_ ?_
      · exact ⟨_, LeS.kp [(1, (.g (.int .i64 (n)))), (2, .ptr 48 0), (4, .ptr 80 0), (6, (.g (.int .i64 (a * 2 ^ 0)))), (7, (.g (.int .i64 ((0 : Nat)))))] (by simp [KpE, upd_app, lkE_app, lk_cons]), _, 0, rfl, by omega, rfl⟩
      · rintro m s ⟨i, rfl, hi, rfl⟩
        have ⟨q1, q2⟩ := hap i hi
        refine AW_seq (AW_r rfl rfl fun K hK => ?_)
        simp [creg_nil, creg_op, creg_gd, cO, cR, cG_bool, cG_undef, ↓spl_tt, ↓spl_tf, ↓spl_ft, ↓spl_ff, spl_ct, spl_cf, putC, nmC, aop, ev, cv, updL, upd_app, upd_upd, lkE_app, lk_nil, lk_cons, aLen, aBuiltin, aBin, aIntBin, aFieldAddr, placeOf, aLoad, cellsAt, aUn, aIndexAddr, st0, valCells, isOne, Value.oneCell', aStore, setCells, formOb_nn, aBuild, parts, fillA, placesOf, aField, aIndex, aSlice, optIdx, aStrBin, aMakeSlice, viewCells, viewCell, arrN, frzU, t2, t3, t4, t5, t6, t7, t8, t9, t10, t11, t12, t13, t14, t15, t16, t17, t18, t19, t21, t22, t23, t25, t36, t46, t50, t51, t53, t54, t56, t57, t58, t59, t60, t62, t63, t64, t66, t67, t68, t69, t70, u_bool, hok, hw2, hw3]
        refine ⟨fun h => hK _ ?_, fun h => hK _ ?_⟩
        all_goals clear hK K
        · refine AW_cond rfl (fun hc => AW_skip (AW_id ?_)) (fun hc => AW_exit ?_)
          · have q3 := hap (i + 1) (by omega)
            have q4 : 2 * (a * 2 ^ i) = a * 2 ^ (i + 1) := by rw [Int.pow_succ, Int.mul_comm 2 _, Int.mul_assoc]
            have q5 : IntKind.i64.wrap (2 * (a * 2 ^ i)) = a * 2 ^ (i + 1) := by rw [wrap64 (by omega) (by omega), q4]
            have q6 : IntKind.i64.wrap ((i : Int) + 1) = ((i + 1 : Nat) : Int) := by rw [wrap64 (by omega) (by omega)]; rfl
            refine AW_seq (AW_block (AW_re rfl rfl fun K hK => ?_))
            simp [creg_nil, creg_op, creg_gd, cO, cR, cG_bool, cG_undef, ↓spl_tt, ↓spl_tf, ↓spl_ft, ↓spl_ff, spl_ct, spl_cf, putC, nmC, aop, ev, cv, updL, upd_app, upd_upd, lkE_app, lk_nil, lk_cons, aLen, aBuiltin, aBin, aIntBin, aFieldAddr, placeOf, aLoad, cellsAt, aUn, aIndexAddr, st0, valCells, isOne, Value.oneCell', aStore, setCells, formOb_nn, aBuild, parts, fillA, placesOf, aField, aIndex, aSlice, optIdx, aStrBin, aMakeSlice, viewCells, viewCell, arrN, frzU, t2, t3, t4, t5, t6, t7, t8, t9, t10, t11, t12, t13, t14, t15, t16, t17, t18, t19, t21, t22, t23, t25, t36, t46, t50, t51, t53, t54, t56, t57, t58, t59, t60, t62, t63, t64, t66, t67, t68, t69, t70, u_bool, hok, hw2, hw3, q5]
            refine hK _ ?_; clear hK K
            refine AW_re rfl rfl fun K hK => ?_
            simp [creg_nil, creg_op, creg_gd, cO, cR, cG_bool, cG_undef, ↓spl_tt, ↓spl_tf, ↓spl_ft, ↓spl_ff, spl_ct, spl_cf, putC, nmC, aop, ev, cv, updL, upd_app, upd_upd, lkE_app, lk_nil, lk_cons, aLen, aBuiltin, aBin, aIntBin, aFieldAddr, placeOf, aLoad, cellsAt, aUn, aIndexAddr, st0, valCells, isOne, Value.oneCell', aStore, setCells, formOb_nn, aBuild, parts, fillA, placesOf, aField, aIndex, aSlice, optIdx, aStrBin, aMakeSlice, viewCells, viewCell, arrN, frzU, t2, t3, t4, t5, t6, t7, t8, t9, t10, t11, t12, t13, t14, t15, t16, t17, t18, t19, t21, t22, t23, t25, t36, t46, t50, t51, t53, t54, t56, t57, t58, t59, t60, t62, t63, t64, t66, t67, t68, t69, t70, u_bool, hok, hw2, hw3, q6]
            refine hK _ ⟨_, LeS.kp [(1, (.g (.int .i64 (n)))), (2, .ptr 48 0), (4, .ptr 80 0), (6, (.g (.int .i64 (a * 2 ^ (i + 1))))), (7, (.g (.int .i64 ((i + 1 : Nat)))))] (by simp [KpE, upd_app, lkE_app, lk_cons]), _, ?_, i + 1, rfl, by omega, rfl⟩
            omega
          · exact ⟨_, LeS.kp [(1, (.g (.int .i64 (n)))), (2, .ptr 48 0), (4, .ptr 80 0), (6, (.g (.int .i64 (a * 2 ^ i))))] (by simp [KpE, upd_app, lkE_app, lk_cons]), i, hi, .inr (by simp at hc; omega), rfl⟩
        · refine AW_cond_false rfl (AW_exit ?_)
          exact ⟨_, LeS.kp [(1, (.g (.int .i64 (n)))), (2, .ptr 48 0), (4, .ptr 80 0), (6, (.g (.int .i64 (a * 2 ^ i))))] (by simp [KpE, upd_app, lkE_app, lk_cons]), i, hi, .inl (by omega), rfl⟩
    · rintro s ⟨i, hi, hex, rfl⟩
      have ⟨q1, q2⟩ := hap i hi
      have hdel : (if b < a * 2 ^ i then b else a * 2 ^ i) = delay a b c := by
        unfold delay
        rcases hex with rfl | hex
        · split <;> split <;> omega
        · have hle : a * 2 ^ i ≤ a * 2 ^ c.toNat := Int.mul_le_mul_of_nonneg_left (by
            have := Nat.pow_le_pow_right (n := 2) (by omega) hi
            have e1 : ((2 ^ i : Nat) : Int) = (2 : Int) ^ i := by simp
            have e2 : ((2 ^ c.toNat : Nat) : Int) = (2 : Int) ^ c.toNat := by simp
            omega) (by omega)
          split <;> split <;> omega
      refine AW_cutS (fun s => s = { env := lkE [(1, (.g (.int .i64 (n)))), (2, .ptr 48 0), (4, .ptr 80 0), (6, (.g (.int .i64 (delay a b c))))], ob := upd (upd (formOb [] []) 48 (some (OB.cells [(.g (.int .i64 (a))), (.g (.int .i64 (b))), (.g (.int .i64 (c))), (.g (.int .i64 (d)))]))) 80 (some (OB.cells [(.g (.int .i64 (0))), (.g (.int .i64 (0))), (.g (.int .i64 (0))), (.g (.int .i64 (0)))])) }) ?_ ?_
      · refine AW_r rfl rfl fun K hK => ?_
        simp [creg_nil, creg_op, creg_gd, cO, cR, cG_bool, cG_undef, ↓spl_tt, ↓spl_tf, ↓spl_ft, ↓spl_ff, spl_ct, spl_cf, putC, nmC, aop, ev, cv, updL, upd_app, upd_upd, lkE_app, lk_nil, lk_cons, aLen, aBuiltin, aBin, aIntBin, aFieldAddr, placeOf, aLoad, cellsAt, aUn, aIndexAddr, st0, valCells, isOne, Value.oneCell', aStore, setCells, formOb_nn, aBuild, parts, fillA, placesOf, aField, aIndex, aSlice, optIdx, aStrBin, aMakeSlice, viewCells, viewCell, arrN, frzU, t2, t3, t4, t5, t6, t7, t8, t9, t10, t11, t12, t13, t14, t15, t16, t17, t18, t19, t21, t22, t23, t25, t36, t46, t50, t51, t53, t54, t56, t57, t58, t59, t60, t62, t63, t64, t66, t67, t68, t69, t70, u_bool, hok, hw2, hw3]
        refine hK _ ?_; clear hK K
        refine AW_cond rfl (fun hc => ?_) (fun hc => AW_skip ?_)
        · have hc : b < a * 2 ^ i := by simpa using hc
          refine AW_re rfl rfl fun K hK => ?_
          simp [creg_nil, creg_op, creg_gd, cO, cR, cG_bool, cG_undef, ↓spl_tt, ↓spl_tf, ↓spl_ft, ↓spl_ff, spl_ct, spl_cf, putC, nmC, aop, ev, cv, updL, upd_app, upd_upd, lkE_app, lk_nil, lk_cons, aLen, aBuiltin, aBin, aIntBin, aFieldAddr, placeOf, aLoad, cellsAt, aUn, aIndexAddr, st0, valCells, isOne, Value.oneCell', aStore, setCells, formOb_nn, aBuild, parts, fillA, placesOf, aField, aIndex, aSlice, optIdx, aStrBin, aMakeSlice, viewCells, viewCell, arrN, frzU, t2, t3, t4, t5, t6, t7, t8, t9, t10, t11, t12, t13, t14, t15, t16, t17, t18, t19, t21, t22, t23, t25, t36, t46, t50, t51, t53, t54, t56, t57, t58, t59, t60, t62, t63, t64, t66, t67, t68, t69, t70, u_bool, hok, hw2, hw3]
          rw [if_pos hc] at hdel
          exact hK _ ⟨_, LeS.kp [(1, (.g (.int .i64 (n)))), (2, .ptr 48 0), (4, .ptr 80 0), (6, (.g (.int .i64 (delay a b c))))] (by simp [KpE, upd_app, lkE_app, lk_cons]; exact hdel), rfl⟩
        · have hc : ¬ b < a * 2 ^ i := by simpa using hc
          rw [if_neg hc] at hdel
          exact ⟨_, LeS.kp [(1, (.g (.int .i64 (n)))), (2, .ptr 48 0), (4, .ptr 80 0), (6, (.g (.int .i64 (delay a b c))))] (by simp [KpE, upd_app, lkE_app, lk_cons]; exact hdel), rfl⟩
      · rintro s rfl
        by_cases hy : retryMay a b c d n = true
        · have hy2 : c < 12 ∧ d ≤ n := by simp [retryMay] at hy; omega
          refine AW_seq ?_
          refine AW_r rfl rfl fun K hK => ?_
          simp [creg_nil, creg_op, creg_gd, cO, cR, cG_bool, cG_undef, ↓spl_tt, ↓spl_tf, ↓spl_ft, ↓spl_ff, spl_ct, spl_cf, putC, nmC, aop, ev, cv, updL, upd_app, upd_upd, lkE_app, lk_nil, lk_cons, aLen, aBuiltin, aBin, aIntBin, aFieldAddr, placeOf, aLoad, cellsAt, aUn, aIndexAddr, st0, valCells, isOne, Value.oneCell', aStore, setCells, formOb_nn, aBuild, parts, fillA, placesOf, aField, aIndex, aSlice, optIdx, aStrBin, aMakeSlice, viewCells, viewCell, arrN, frzU, t2, t3, t4, t5, t6, t7, t8, t9, t10, t11, t12, t13, t14, t15, t16, t17, t18, t19, t21, t22, t23, t25, t36, t46, t50, t51, t53, t54, t56, t57, t58, t59, t60, t62, t63, t64, t66, t67, t68, t69, t70, u_bool, hok, hw2, hw3, hy]
          repeat' first | (refine CKd_v (am2s_cons (am2_agg rfl) (am2s_cons am2_g am2s_nil)) (specRetryMay _ _ _ _ _) rfl ?_; simp [creg_nil, creg_op, creg_gd, cO, cR, cG_bool, cG_undef, ↓spl_tt, ↓spl_tf, ↓spl_ft, ↓spl_ff, spl_ct, spl_cf, putC, nmC, aop, ev, cv, updL, upd_app, upd_upd, lkE_app, lk_nil, lk_cons, aLen, aBuiltin, aBin, aIntBin, aFieldAddr, placeOf, aLoad, cellsAt, aUn, aIndexAddr, st0, valCells, isOne, Value.oneCell', aStore, setCells, formOb_nn, aBuild, parts, fillA, placesOf, aField, aIndex, aSlice, optIdx, aStrBin, aMakeSlice, viewCells, viewCell, arrN, frzU, t2, t3, t4, t5, t6, t7, t8, t9, t10, t11, t12, t13, t14, t15, t16, t17, t18, t19, t21, t22, t23, t25, t36, t46, t50, t51, t53, t54, t56, t57, t58, t59, t60, t62, t63, t64, t66, t67, t68, t69, t70, u_bool, hok, hw2, hw3, hy]) | (refine ⟨fun _ => ?_, fun _ => ?_⟩) | (refine ⟨by omega, ?_⟩) | (intro _)
          all_goals (refine hK _ ?_; clear hK K)
          all_goals
            refine AW_cond rfl (fun hc => ?_) (fun hc => ?_)
            · try simp at hc
              all_goals
                refine AW_r rfl rfl fun K hK => ?_
                simp [creg_nil, creg_op, creg_gd, cO, cR, cG_bool, cG_undef, ↓spl_tt, ↓spl_tf, ↓spl_ft, ↓spl_ff, spl_ct, spl_cf, putC, nmC, aop, ev, cv, updL, upd_app, upd_upd, lkE_app, lk_nil, lk_cons, aLen, aBuiltin, aBin, aIntBin, aFieldAddr, placeOf, aLoad, cellsAt, aUn, aIndexAddr, st0, valCells, isOne, Value.oneCell', aStore, setCells, formOb_nn, aBuild, parts, fillA, placesOf, aField, aIndex, aSlice, optIdx, aStrBin, aMakeSlice, viewCells, viewCell, arrN, frzU, t2, t3, t4, t5, t6, t7, t8, t9, t10, t11, t12, t13, t14, t15, t16, t17, t18, t19, t21, t22, t23, t25, t36, t46, t50, t51, t53, t54, t56, t57, t58, t59, t60, t62, t63, t64, t66, t67, t68, t69, t70, u_bool, hok, hw2, hw3, hy]
                repeat' first | (refine ⟨fun _ => ?_, fun _ => ?_⟩) | (refine ⟨by omega, ?_⟩) | (intro _)
                all_goals (refine hK _ ?_; clear hK K)
                all_goals
                  refine AW_ret (end_s ?_)
                  simp [creg_nil, creg_op, creg_gd, cO, cR, cG_bool, cG_undef, ↓spl_tt, ↓spl_tf, ↓spl_ft, ↓spl_ff, spl_ct, spl_cf, putC, nmC, aop, ev, cv, updL, upd_app, upd_upd, lkE_app, lk_nil, lk_cons, aLen, aBuiltin, aBin, aIntBin, aFieldAddr, placeOf, aLoad, cellsAt, aUn, aIndexAddr, st0, valCells, isOne, Value.oneCell', aStore, setCells, formOb_nn, aBuild, parts, fillA, placesOf, aField, aIndex, aSlice, optIdx, aStrBin, aMakeSlice, viewCells, viewCell, arrN, frzU, t2, t3, t4, t5, t6, t7, t8, t9, t10, t11, t12, t13, t14, t15, t16, t17, t18, t19, t21, t22, t23, t25, t36, t46, t50, t51, t53, t54, t56, t57, t58, t59, t60, t62, t63, t64, t66, t67, t68, t69, t70, u_bool, hok, hw2, hw3, hy, endR_some, am0_gg, am0_ss, am0_ll, am1_gg, am1_ss, am1_ll, am1_nl, am1_al, am2_gg, am2_ss, am2_ll, am2_nl, am2_al, am2_ff, am1s_nn, am1s_cc, am2s_nn, am2s_cc, amRs_one, amRs_two', amRs_thr, resAll_nil, resAll_tmp, resAll_cell, go]
                  all_goals first | omega | (simp_all; done) | ((try simp_all); (try simp (disch := omega) only [wrap64, Int.tdiv_eq_ediv_of_nonneg, Int.tmod_eq_emod_of_nonneg, and_true, true_and]); done) | ((try simp_all); (try simp (disch := omega) only [wrap64, Int.tdiv_eq_ediv_of_nonneg, Int.tmod_eq_emod_of_nonneg, and_true, true_and] at *); omega)
            · try simp at hc
              all_goals
                refine AW_skip ?_
                refine AW_id ?_
                refine AW_r rfl rfl fun K hK => ?_
                simp [creg_nil, creg_op, creg_gd, cO, cR, cG_bool, cG_undef, ↓spl_tt, ↓spl_tf, ↓spl_ft, ↓spl_ff, spl_ct, spl_cf, putC, nmC, aop, ev, cv, updL, upd_app, upd_upd, lkE_app, lk_nil, lk_cons, aLen, aBuiltin, aBin, aIntBin, aFieldAddr, placeOf, aLoad, cellsAt, aUn, aIndexAddr, st0, valCells, isOne, Value.oneCell', aStore, setCells, formOb_nn, aBuild, parts, fillA, placesOf, aField, aIndex, aSlice, optIdx, aStrBin, aMakeSlice, viewCells, viewCell, arrN, frzU, t2, t3, t4, t5, t6, t7, t8, t9, t10, t11, t12, t13, t14, t15, t16, t17, t18, t19, t21, t22, t23, t25, t36, t46, t50, t51, t53, t54, t56, t57, t58, t59, t60, t62, t63, t64, t66, t67, t68, t69, t70, u_bool, hok, hw2, hw3, hy]
                repeat' first | (refine ⟨fun _ => ?_, fun _ => ?_⟩) | (refine ⟨by omega, ?_⟩) | (intro _)
                all_goals (refine hK _ ?_; clear hK K)
                all_goals
                  refine AW_r rfl rfl fun K hK => ?_
                  simp [creg_nil, creg_op, creg_gd, cO, cR, cG_bool, cG_undef, ↓spl_tt, ↓spl_tf, ↓spl_ft, ↓spl_ff, spl_ct, spl_cf, putC, nmC, aop, ev, cv, updL, upd_app, upd_upd, lkE_app, lk_nil, lk_cons, aLen, aBuiltin, aBin, aIntBin, aFieldAddr, placeOf, aLoad, cellsAt, aUn, aIndexAddr, st0, valCells, isOne, Value.oneCell', aStore, setCells, formOb_nn, aBuild, parts, fillA, placesOf, aField, aIndex, aSlice, optIdx, aStrBin, aMakeSlice, viewCells, viewCell, arrN, frzU, t2, t3, t4, t5, t6, t7, t8, t9, t10, t11, t12, t13, t14, t15, t16, t17, t18, t19, t21, t22, t23, t25, t36, t46, t50, t51, t53, t54, t56, t57, t58, t59, t60, t62, t63, t64, t66, t67, t68, t69, t70, u_bool, hok, hw2, hw3, hy]
                  repeat' first | (refine ⟨fun _ => ?_, fun _ => ?_⟩) | (refine ⟨by omega, ?_⟩) | (intro _)
                  all_goals (refine hK _ ?_; clear hK K)
                  all_goals
                    refine AW_r rfl rfl fun K hK => ?_
                    simp [creg_nil, creg_op, creg_gd, cO, cR, cG_bool, cG_undef, ↓spl_tt, ↓spl_tf, ↓spl_ft, ↓spl_ff, spl_ct, spl_cf, putC, nmC, aop, ev, cv, updL, upd_app, upd_upd, lkE_app, lk_nil, lk_cons, aLen, aBuiltin, aBin, aIntBin, aFieldAddr, placeOf, aLoad, cellsAt, aUn, aIndexAddr, st0, valCells, isOne, Value.oneCell', aStore, setCells, formOb_nn, aBuild, parts, fillA, placesOf, aField, aIndex, aSlice, optIdx, aStrBin, aMakeSlice, viewCells, viewCell, arrN, frzU, t2, t3, t4, t5, t6, t7, t8, t9, t10, t11, t12, t13, t14, t15, t16, t17, t18, t19, t21, t22, t23, t25, t36, t46, t50, t51, t53, t54, t56, t57, t58, t59, t60, t62, t63, t64, t66, t67, t68, t69, t70, u_bool, hok, hw2, hw3, hy]
                    repeat' first | (refine ⟨fun _ => ?_, fun _ => ?_⟩) | (refine ⟨by omega, ?_⟩) | (intro _)
                    all_goals (refine hK _ ?_; clear hK K)
                    all_goals
                      refine AW_ret (end_s ?_)
                      simp [creg_nil, creg_op, creg_gd, cO, cR, cG_bool, cG_undef, ↓spl_tt, ↓spl_tf, ↓spl_ft, ↓spl_ff, spl_ct, spl_cf, putC, nmC, aop, ev, cv, updL, upd_app, upd_upd, lkE_app, lk_nil, lk_cons, aLen, aBuiltin, aBin, aIntBin, aFieldAddr, placeOf, aLoad, cellsAt, aUn, aIndexAddr, st0, valCells, isOne, Value.oneCell', aStore, setCells, formOb_nn, aBuild, parts, fillA, placesOf, aField, aIndex, aSlice, optIdx, aStrBin, aMakeSlice, viewCells, viewCell, arrN, frzU, t2, t3, t4, t5, t6, t7, t8, t9, t10, t11, t12, t13, t14, t15, t16, t17, t18, t19, t21, t22, t23, t25, t36, t46, t50, t51, t53, t54, t56, t57, t58, t59, t60, t62, t63, t64, t66, t67, t68, t69, t70, u_bool, hok, hw2, hw3, hy, endR_some, am0_gg, am0_ss, am0_ll, am1_gg, am1_ss, am1_ll, am1_nl, am1_al, am2_gg, am2_ss, am2_ll, am2_nl, am2_al, am2_ff, am1s_nn, am1s_cc, am2s_nn, am2s_cc, amRs_one, amRs_two', amRs_thr, resAll_nil, resAll_tmp, resAll_cell, go]
                      all_goals first | omega | (simp_all; done) | ((try simp_all); (try simp (disch := omega) only [wrap64, Int.tdiv_eq_ediv_of_nonneg, Int.tmod_eq_emod_of_nonneg, and_true, true_and]); done) | ((try simp_all); (try simp (disch := omega) only [wrap64, Int.tdiv_eq_ediv_of_nonneg, Int.tmod_eq_emod_of_nonneg, and_true, true_and] at *); omega)
        · simp only [go, hy]
          refine AW_seq ?_
          refine AW_r rfl rfl fun K hK => ?_
          simp [creg_nil, creg_op, creg_gd, cO, cR, cG_bool, cG_undef, ↓spl_tt, ↓spl_tf, ↓spl_ft, ↓spl_ff, spl_ct, spl_cf, putC, nmC, aop, ev, cv, updL, upd_app, upd_upd, lkE_app, lk_nil, lk_cons, aLen, aBuiltin, aBin, aIntBin, aFieldAddr, placeOf, aLoad, cellsAt, aUn, aIndexAddr, st0, valCells, isOne, Value.oneCell', aStore, setCells, formOb_nn, aBuild, parts, fillA, placesOf, aField, aIndex, aSlice, optIdx, aStrBin, aMakeSlice, viewCells, viewCell, arrN, frzU, t2, t3, t4, t5, t6, t7, t8, t9, t10, t11, t12, t13, t14, t15, t16, t17, t18, t19, t21, t22, t23, t25, t36, t46, t50, t51, t53, t54, t56, t57, t58, t59, t60, t62, t63, t64, t66, t67, t68, t69, t70, u_bool, hok, hw2, hw3, hy]
          repeat' first | (refine CKd_v (am2s_cons (am2_agg rfl) (am2s_cons am2_g am2s_nil)) (specRetryMay _ _ _ _ _) rfl ?_; simp [creg_nil, creg_op, creg_gd, cO, cR, cG_bool, cG_undef, ↓spl_tt, ↓spl_tf, ↓spl_ft, ↓spl_ff, spl_ct, spl_cf, putC, nmC, aop, ev, cv, updL, upd_app, upd_upd, lkE_app, lk_nil, lk_cons, aLen, aBuiltin, aBin, aIntBin, aFieldAddr, placeOf, aLoad, cellsAt, aUn, aIndexAddr, st0, valCells, isOne, Value.oneCell', aStore, setCells, formOb_nn, aBuild, parts, fillA, placesOf, aField, aIndex, aSlice, optIdx, aStrBin, aMakeSlice, viewCells, viewCell, arrN, frzU, t2, t3, t4, t5, t6, t7, t8, t9, t10, t11, t12, t13, t14, t15, t16, t17, t18, t19, t21, t22, t23, t25, t36, t46, t50, t51, t53, t54, t56, t57, t58, t59, t60, t62, t63, t64, t66, t67, t68, t69, t70, u_bool, hok, hw2, hw3, hy]) | (refine ⟨fun _ => ?_, fun _ => ?_⟩) | (refine ⟨by omega, ?_⟩) | (intro _)
          all_goals (refine hK _ ?_; clear hK K)
          all_goals
            refine AW_cond rfl (fun hc => ?_) (fun hc => ?_)
            · try simp at hc
              all_goals
                refine AW_r rfl rfl fun K hK => ?_
                simp [creg_nil, creg_op, creg_gd, cO, cR, cG_bool, cG_undef, ↓spl_tt, ↓spl_tf, ↓spl_ft, ↓spl_ff, spl_ct, spl_cf, putC, nmC, aop, ev, cv, updL, upd_app, upd_upd, lkE_app, lk_nil, lk_cons, aLen, aBuiltin, aBin, aIntBin, aFieldAddr, placeOf, aLoad, cellsAt, aUn, aIndexAddr, st0, valCells, isOne, Value.oneCell', aStore, setCells, formOb_nn, aBuild, parts, fillA, placesOf, aField, aIndex, aSlice, optIdx, aStrBin, aMakeSlice, viewCells, viewCell, arrN, frzU, t2, t3, t4, t5, t6, t7, t8, t9, t10, t11, t12, t13, t14, t15, t16, t17, t18, t19, t21, t22, t23, t25, t36, t46, t50, t51, t53, t54, t56, t57, t58, t59, t60, t62, t63, t64, t66, t67, t68, t69, t70, u_bool, hok, hw2, hw3, hy]
                repeat' first | (refine ⟨fun _ => ?_, fun _ => ?_⟩) | (refine ⟨by omega, ?_⟩) | (intro _)
                all_goals (refine hK _ ?_; clear hK K)
                all_goals
                  refine AW_ret (end_s ?_)
                  simp [creg_nil, creg_op, creg_gd, cO, cR, cG_bool, cG_undef, ↓spl_tt, ↓spl_tf, ↓spl_ft, ↓spl_ff, spl_ct, spl_cf, putC, nmC, aop, ev, cv, updL, upd_app, upd_upd, lkE_app, lk_nil, lk_cons, aLen, aBuiltin, aBin, aIntBin, aFieldAddr, placeOf, aLoad, cellsAt, aUn, aIndexAddr, st0, valCells, isOne, Value.oneCell', aStore, setCells, formOb_nn, aBuild, parts, fillA, placesOf, aField, aIndex, aSlice, optIdx, aStrBin, aMakeSlice, viewCells, viewCell, arrN, frzU, t2, t3, t4, t5, t6, t7, t8, t9, t10, t11, t12, t13, t14, t15, t16, t17, t18, t19, t21, t22, t23, t25, t36, t46, t50, t51, t53, t54, t56, t57, t58, t59, t60, t62, t63, t64, t66, t67, t68, t69, t70, u_bool, hok, hw2, hw3, hy, endR_some, am0_gg, am0_ss, am0_ll, am1_gg, am1_ss, am1_ll, am1_nl, am1_al, am2_gg, am2_ss, am2_ll, am2_nl, am2_al, am2_ff, am1s_nn, am1s_cc, am2s_nn, am2s_cc, amRs_one, amRs_two', amRs_thr, resAll_nil, resAll_tmp, resAll_cell, go]
                  all_goals first | omega | (simp_all; done) | ((try simp_all); (try simp (disch := omega) only [wrap64, Int.tdiv_eq_ediv_of_nonneg, Int.tmod_eq_emod_of_nonneg, and_true, true_and]); done) | ((try simp_all); (try simp (disch := omega) only [wrap64, Int.tdiv_eq_ediv_of_nonneg, Int.tmod_eq_emod_of_nonneg, and_true, true_and] at *); omega)
            · try simp at hc
              all_goals
                refine AW_skip ?_
                refine AW_id ?_
                refine AW_r rfl rfl fun K hK => ?_
                simp [creg_nil, creg_op, creg_gd, cO, cR, cG_bool, cG_undef, ↓spl_tt, ↓spl_tf, ↓spl_ft, ↓spl_ff, spl_ct, spl_cf, putC, nmC, aop, ev, cv, updL, upd_app, upd_upd, lkE_app, lk_nil, lk_cons, aLen, aBuiltin, aBin, aIntBin, aFieldAddr, placeOf, aLoad, cellsAt, aUn, aIndexAddr, st0, valCells, isOne, Value.oneCell', aStore, setCells, formOb_nn, aBuild, parts, fillA, placesOf, aField, aIndex, aSlice, optIdx, aStrBin, aMakeSlice, viewCells, viewCell, arrN, frzU, t2, t3, t4, t5, t6, t7, t8, t9, t10, t11, t12, t13, t14, t15, t16, t17, t18, t19, t21, t22, t23, t25, t36, t46, t50, t51, t53, t54, t56, t57, t58, t59, t60, t62, t63, t64, t66, t67, t68, t69, t70, u_bool, hok, hw2, hw3, hy]
                repeat' first | (refine ⟨fun _ => ?_, fun _ => ?_⟩) | (refine ⟨by omega, ?_⟩) | (intro _)
                all_goals (refine hK _ ?_; clear hK K)
                all_goals
                  refine AW_r rfl rfl fun K hK => ?_
                  simp [creg_nil, creg_op, creg_gd, cO, cR, cG_bool, cG_undef, ↓spl_tt, ↓spl_tf, ↓spl_ft, ↓spl_ff, spl_ct, spl_cf, putC, nmC, aop, ev, cv, updL, upd_app, upd_upd, lkE_app, lk_nil, lk_cons, aLen, aBuiltin, aBin, aIntBin, aFieldAddr, placeOf, aLoad, cellsAt, aUn, aIndexAddr, st0, valCells, isOne, Value.oneCell', aStore, setCells, formOb_nn, aBuild, parts, fillA, placesOf, aField, aIndex, aSlice, optIdx, aStrBin, aMakeSlice, viewCells, viewCell, arrN, frzU, t2, t3, t4, t5, t6, t7, t8, t9, t10, t11, t12, t13, t14, t15, t16, t17, t18, t19, t21, t22, t23, t25, t36, t46, t50, t51, t53, t54, t56, t57, t58, t59, t60, t62, t63, t64, t66, t67, t68, t69, t70, u_bool, hok, hw2, hw3, hy]
                  repeat' first | (refine ⟨fun _ => ?_, fun _ => ?_⟩) | (refine ⟨by omega, ?_⟩) | (intro _)
                  all_goals (refine hK _ ?_; clear hK K)
                  all_goals
                    refine AW_r rfl rfl fun K hK => ?_
                    simp [creg_nil, creg_op, creg_gd, cO, cR, cG_bool, cG_undef, ↓spl_tt, ↓spl_tf, ↓spl_ft, ↓spl_ff, spl_ct, spl_cf, putC, nmC, aop, ev, cv, updL, upd_app, upd_upd, lkE_app, lk_nil, lk_cons, aLen, aBuiltin, aBin, aIntBin, aFieldAddr, placeOf, aLoad, cellsAt, aUn, aIndexAddr, st0, valCells, isOne, Value.oneCell', aStore, setCells, formOb_nn, aBuild, parts, fillA, placesOf, aField, aIndex, aSlice, optIdx, aStrBin, aMakeSlice, viewCells, viewCell, arrN, frzU, t2, t3, t4, t5, t6, t7, t8, t9, t10, t11, t12, t13, t14, t15, t16, t17, t18, t19, t21, t22, t23, t25, t36, t46, t50, t51, t53, t54, t56, t57, t58, t59, t60, t62, t63, t64, t66, t67, t68, t69, t70, u_bool, hok, hw2, hw3, hy]
                    repeat' first | (refine ⟨fun _ => ?_, fun _ => ?_⟩) | (refine ⟨by omega, ?_⟩) | (intro _)
                    all_goals (refine hK _ ?_; clear hK K)
                    all_goals
                      refine AW_ret (end_s ?_)
                      simp [creg_nil, creg_op, creg_gd, cO, cR, cG_bool, cG_undef, ↓spl_tt, ↓spl_tf, ↓spl_ft, ↓spl_ff, spl_ct, spl_cf, putC, nmC, aop, ev, cv, updL, upd_app, upd_upd, lkE_app, lk_nil, lk_cons, aLen, aBuiltin, aBin, aIntBin, aFieldAddr, placeOf, aLoad, cellsAt, aUn, aIndexAddr, st0, valCells, isOne, Value.oneCell', aStore, setCells, formOb_nn, aBuild, parts, fillA, placesOf, aField, aIndex, aSlice, optIdx, aStrBin, aMakeSlice, viewCells, viewCell, arrN, frzU, t2, t3, t4, t5, t6, t7, t8, t9, t10, t11, t12, t13, t14, t15, t16, t17, t18, t19, t21, t22, t23, t25, t36, t46, t50, t51, t53, t54, t56, t57, t58, t59, t60, t62, t63, t64, t66, t67, t68, t69, t70, u_bool, hok, hw2, hw3, hy, endR_some, am0_gg, am0_ss, am0_ll, am1_gg, am1_ss, am1_ll, am1_nl, am1_al, am2_gg, am2_ss, am2_ll, am2_nl, am2_al, am2_ff, am1s_nn, am1s_cc, am2s_nn, am2s_cc, amRs_one, amRs_two', amRs_thr, resAll_nil, resAll_tmp, resAll_cell, go]
                      all_goals first | omega | (simp_all; done) | ((try simp_all); (try simp (disch := omega) only [wrap64, Int.tdiv_eq_ediv_of_nonneg, Int.tmod_eq_emod_of_nonneg, and_true, true_and]); done) | ((try simp_all); (try simp (disch := omega) only [wrap64, Int.tdiv_eq_ediv_of_nonneg, Int.tmod_eq_emod_of_nonneg, and_true, true_and] at *); omega)
  · have hg : go a b c d n = false := by simp [go, retryMay, hok]
    simp only [hok]
    refine gcall_of_walk Try.func22 (by rfl) (by rfl) (by rw [Try.ntmps22]; exact Nat.le_of_ble_eq_true rfl) rfl (by decide) ?_
    rw [Try.ntmps22]
    refine AW_r rfl rfl fun K hK => ?_
    simp [creg_nil, creg_op, creg_gd, cO, cR, cG_bool, cG_undef, ↓spl_tt, ↓spl_tf, ↓spl_ft, ↓spl_ff, spl_ct, spl_cf, putC, nmC, aop, ev, cv, updL, upd_app, upd_upd, lkE_app, lk_nil, lk_cons, aLen, aBuiltin, aBin, aIntBin, aFieldAddr, placeOf, aLoad, cellsAt, aUn, aIndexAddr, st0, valCells, isOne, Value.oneCell', aStore, setCells, formOb_nn, aBuild, parts, fillA, placesOf, aField, aIndex, aSlice, optIdx, aStrBin, aMakeSlice, viewCells, viewCell, arrN, frzU, t2, t3, t4, t5, t6, t7, t8, t9, t10, t11, t12, t13, t14, t15, t16, t17, t18, t19, t21, t22, t23, t25, t36, t46, t50, t51, t53, t54, t56, t57, t58, t59, t60, t62, t63, t64, t66, t67, t68, t69, t70, u_bool, hok]
    refine hK _ ?_; clear hK K
    refine AW_seq (AW_r rfl rfl fun K hK => ?_)
    simp [creg_nil, creg_op, creg_gd, cO, cR, cG_bool, cG_undef, ↓spl_tt, ↓spl_tf, ↓spl_ft, ↓spl_ff, spl_ct, spl_cf, putC, nmC, aop, ev, cv, updL, upd_app, upd_upd, lkE_app, lk_nil, lk_cons, aLen, aBuiltin, aBin, aIntBin, aFieldAddr, placeOf, aLoad, cellsAt, aUn, aIndexAddr, st0, valCells, isOne, Value.oneCell', aStore, setCells, formOb_nn, aBuild, parts, fillA, placesOf, aField, aIndex, aSlice, optIdx, aStrBin, aMakeSlice, viewCells, viewCell, arrN, frzU, t2, t3, t4, t5, t6, t7, t8, t9, t10, t11, t12, t13, t14, t15, t16, t17, t18, t19, t21, t22, t23, t25, t36, t46, t50, t51, t53, t54, t56, t57, t58, t59, t60, t62, t63, t64, t66, t67, t68, t69, t70, u_bool, hok]
    refine CKd_v (am2s_cons (am2_agg rfl) am2s_nil) (specRetryOk _ _ _ _) rfl ?_
    simp [creg_nil, creg_op, creg_gd, cO, cR, cG_bool, cG_undef, ↓spl_tt, ↓spl_tf, ↓spl_ft, ↓spl_ff, spl_ct, spl_cf, putC, nmC, aop, ev, cv, updL, upd_app, upd_upd, lkE_app, lk_nil, lk_cons, aLen, aBuiltin, aBin, aIntBin, aFieldAddr, placeOf, aLoad, cellsAt, aUn, aIndexAddr, st0, valCells, isOne, Value.oneCell', aStore, setCells, formOb_nn, aBuild, parts, fillA, placesOf, aField, aIndex, aSlice, optIdx, aStrBin, aMakeSlice, viewCells, viewCell, arrN, frzU, t2, t3, t4, t5, t6, t7, t8, t9, t10, t11, t12, t13, t14, t15, t16, t17, t18, t19, t21, t22, t23, t25, t36, t46, t50, t51, t53, t54, t56, t57, t58, t59, t60, t62, t63, t64, t66, t67, t68, t69, t70, u_bool, hok]
    refine hK _ ?_; clear hK K
    refine AW_cond_true rfl ?_
    refine AW_r rfl rfl fun K hK => ?_
    simp [creg_nil, creg_op, creg_gd, cO, cR, cG_bool, cG_undef, ↓spl_tt, ↓spl_tf, ↓spl_ft, ↓spl_ff, spl_ct, spl_cf, putC, nmC, aop, ev, cv, updL, upd_app, upd_upd, lkE_app, lk_nil, lk_cons, aLen, aBuiltin, aBin, aIntBin, aFieldAddr, placeOf, aLoad, cellsAt, aUn, aIndexAddr, st0, valCells, isOne, Value.oneCell', aStore, setCells, formOb_nn, aBuild, parts, fillA, placesOf, aField, aIndex, aSlice, optIdx, aStrBin, aMakeSlice, viewCells, viewCell, arrN, frzU, t2, t3, t4, t5, t6, t7, t8, t9, t10, t11, t12, t13, t14, t15, t16, t17, t18, t19, t21, t22, t23, t25, t36, t46, t50, t51, t53, t54, t56, t57, t58, t59, t60, t62, t63, t64, t66, t67, t68, t69, t70, u_bool, hok]
    repeat' first | (refine ⟨fun _ => ?_, fun _ => ?_⟩) | (refine ⟨by omega, ?_⟩) | (intro _)
    all_goals (refine hK _ ?_; clear hK K)
    all_goals
      refine AW_ret (end_s ?_)
      simp [creg_nil, creg_op, creg_gd, cO, cR, cG_bool, cG_undef, ↓spl_tt, ↓spl_tf, ↓spl_ft, ↓spl_ff, spl_ct, spl_cf, putC, nmC, aop, ev, cv, updL, upd_app, upd_upd, lkE_app, lk_nil, lk_cons, aLen, aBuiltin, aBin, aIntBin, aFieldAddr, placeOf, aLoad, cellsAt, aUn, aIndexAddr, st0, valCells, isOne, Value.oneCell', aStore, setCells, formOb_nn, aBuild, parts, fillA, placesOf, aField, aIndex, aSlice, optIdx, aStrBin, aMakeSlice, viewCells, viewCell, arrN, frzU, t2, t3, t4, t5, t6, t7, t8, t9, t10, t11, t12, t13, t14, t15, t16, t17, t18, t19, t21, t22, t23, t25, t36, t46, t50, t51, t53, t54, t56, t57, t58, t59, t60, t62, t63, t64, t66, t67, t68, t69, t70, u_bool, hok, endR_some, am0_gg, am0_ss, am0_ll, am1_gg, am1_ss, am1_ll, am1_nl, am1_al, am2_gg, am2_ss, am2_ll, am2_nl, am2_al, am2_ff, am1s_nn, am1s_cc, am2s_nn, am2s_cc, amRs_one, amRs_two', amRs_thr, resAll_nil, resAll_tmp, resAll_cell]
      all_goals first | omega | (simp_all; done) | ((try simp_all); (try simp (disch := omega) only [wrap64, Int.tdiv_eq_ediv_of_nonneg, Int.tmod_eq_emod_of_nonneg, and_true, true_and]); done) | ((try simp_all); (try simp (disch := omega) only [wrap64, Int.tdiv_eq_ediv_of_nonneg, Int.tmod_eq_emod_of_nonneg, and_true, true_and] at *); omega)
theorem lawRetryFail (a b c d n : Int) : PCall Try.prog 8 [.agg [(.g (.int .i64 (a))), (.g (.int .i64 (b))), (.g (.int .i64 (c))), (.g (.int .i64 (d)))], (.g (.int .i64 (n)))] (.g (.bool (true))) := by
  refine gcall_of_walk Try.func8 (by rfl) (by rfl) (by rw [Try.ntmps8]; exact Nat.le_of_ble_eq_true rfl) rfl (by decide) ?_
  rw [Try.ntmps8]
  refine AW_r rfl rfl fun K hK => ?_
  simp [creg_nil, creg_op, creg_gd, cO, cR, cG_bool, cG_undef, ↓spl_tt, ↓spl_tf, ↓spl_ft, ↓spl_ff, spl_ct, spl_cf, putC, nmC, aop, ev, cv, updL, upd_app, upd_upd, lkE_app, lk_nil, lk_cons, aLen, aBuiltin, aBin, aIntBin, aFieldAddr, placeOf, aLoad, cellsAt, aUn, aIndexAddr, st0, valCells, isOne, Value.oneCell', aStore, setCells, formOb_nn, aBuild, parts, fillA, placesOf, aField, aIndex, aSlice, optIdx, aStrBin, aMakeSlice, viewCells, viewCell, arrN, frzU, t2, t3, t4, t5, t6, t7, t8, t9, t10, t11, t12, t13, t14, t15, t16, t17, t18, t19, t21, t22, t23, t25, t36, t46, t50, t51, t53, t54, t56, t57, t58, t59, t60, t62, t63, t64, t66, t67, t68, t69, t70, u_bool, retryFail]
  repeat' first | (refine ⟨fun _ => ?_, fun _ => ?_⟩) | (refine ⟨by omega, ?_⟩) | (intro _)
  all_goals (refine hK _ ?_; clear hK K)
  all_goals
    refine AW_r rfl rfl fun K hK => ?_
    simp [creg_nil, creg_op, creg_gd, cO, cR, cG_bool, cG_undef, ↓spl_tt, ↓spl_tf, ↓spl_ft, ↓spl_ff, spl_ct, spl_cf, putC, nmC, aop, ev, cv, updL, upd_app, upd_upd, lkE_app, lk_nil, lk_cons, aLen, aBuiltin, aBin, aIntBin, aFieldAddr, placeOf, aLoad, cellsAt, aUn, aIndexAddr, st0, valCells, isOne, Value.oneCell', aStore, setCells, formOb_nn, aBuild, parts, fillA, placesOf, aField, aIndex, aSlice, optIdx, aStrBin, aMakeSlice, viewCells, viewCell, arrN, frzU, t2, t3, t4, t5, t6, t7, t8, t9, t10, t11, t12, t13, t14, t15, t16, t17, t18, t19, t21, t22, t23, t25, t36, t46, t50, t51, t53, t54, t56, t57, t58, t59, t60, t62, t63, t64, t66, t67, t68, t69, t70, u_bool, retryFail]
    repeat' first | (refine CKd_v (am2s_cons (am2_agg rfl) am2s_nil) (toRetry _ _ _ _) rfl ?_; simp [creg_nil, creg_op, creg_gd, cO, cR, cG_bool, cG_undef, ↓spl_tt, ↓spl_tf, ↓spl_ft, ↓spl_ff, spl_ct, spl_cf, putC, nmC, aop, ev, cv, updL, upd_app, upd_upd, lkE_app, lk_nil, lk_cons, aLen, aBuiltin, aBin, aIntBin, aFieldAddr, placeOf, aLoad, cellsAt, aUn, aIndexAddr, st0, valCells, isOne, Value.oneCell', aStore, setCells, formOb_nn, aBuild, parts, fillA, placesOf, aField, aIndex, aSlice, optIdx, aStrBin, aMakeSlice, viewCells, viewCell, arrN, frzU, t2, t3, t4, t5, t6, t7, t8, t9, t10, t11, t12, t13, t14, t15, t16, t17, t18, t19, t21, t22, t23, t25, t36, t46, t50, t51, t53, t54, t56, t57, t58, t59, t60, t62, t63, t64, t66, t67, t68, t69, t70, u_bool, retryFail]) | (refine CKd_v (am2s_cons (am2_agg rfl) (am2s_cons am2_g am2s_nil)) (specRetryFail _ _ _ _ _) rfl ?_; simp [creg_nil, creg_op, creg_gd, cO, cR, cG_bool, cG_undef, ↓spl_tt, ↓spl_tf, ↓spl_ft, ↓spl_ff, spl_ct, spl_cf, putC, nmC, aop, ev, cv, updL, upd_app, upd_upd, lkE_app, lk_nil, lk_cons, aLen, aBuiltin, aBin, aIntBin, aFieldAddr, placeOf, aLoad, cellsAt, aUn, aIndexAddr, st0, valCells, isOne, Value.oneCell', aStore, setCells, formOb_nn, aBuild, parts, fillA, placesOf, aField, aIndex, aSlice, optIdx, aStrBin, aMakeSlice, viewCells, viewCell, arrN, frzU, t2, t3, t4, t5, t6, t7, t8, t9, t10, t11, t12, t13, t14, t15, t16, t17, t18, t19, t21, t22, t23, t25, t36, t46, t50, t51, t53, t54, t56, t57, t58, t59, t60, t62, t63, t64, t66, t67, t68, t69, t70, u_bool, retryFail]) | (refine ⟨fun _ => ?_, fun _ => ?_⟩) | (refine ⟨by omega, ?_⟩) | (intro _)
    all_goals (refine hK _ ?_; clear hK K)
    all_goals
      refine AW_r rfl rfl fun K hK => ?_
      simp [creg_nil, creg_op, creg_gd, cO, cR, cG_bool, cG_undef, ↓spl_tt, ↓spl_tf, ↓spl_ft, ↓spl_ff, spl_ct, spl_cf, putC, nmC, aop, ev, cv, updL, upd_app, upd_upd, lkE_app, lk_nil, lk_cons, aLen, aBuiltin, aBin, aIntBin, aFieldAddr, placeOf, aLoad, cellsAt, aUn, aIndexAddr, st0, valCells, isOne, Value.oneCell', aStore, setCells, formOb_nn, aBuild, parts, fillA, placesOf, aField, aIndex, aSlice, optIdx, aStrBin, aMakeSlice, viewCells, viewCell, arrN, frzU, t2, t3, t4, t5, t6, t7, t8, t9, t10, t11, t12, t13, t14, t15, t16, t17, t18, t19, t21, t22, t23, t25, t36, t46, t50, t51, t53, t54, t56, t57, t58, t59, t60, t62, t63, t64, t66, t67, t68, t69, t70, u_bool, retryFail]
      repeat' first | (refine CKd_v (am2s_cons (am2_agg rfl) am2s_nil) (toRetry _ _ _ _) rfl ?_; simp [creg_nil, creg_op, creg_gd, cO, cR, cG_bool, cG_undef, ↓spl_tt, ↓spl_tf, ↓spl_ft, ↓spl_ff, spl_ct, spl_cf, putC, nmC, aop, ev, cv, updL, upd_app, upd_upd, lkE_app, lk_nil, lk_cons, aLen, aBuiltin, aBin, aIntBin, aFieldAddr, placeOf, aLoad, cellsAt, aUn, aIndexAddr, st0, valCells, isOne, Value.oneCell', aStore, setCells, formOb_nn, aBuild, parts, fillA, placesOf, aField, aIndex, aSlice, optIdx, aStrBin, aMakeSlice, viewCells, viewCell, arrN, frzU, t2, t3, t4, t5, t6, t7, t8, t9, t10, t11, t12, t13, t14, t15, t16, t17, t18, t19, t21, t22, t23, t25, t36, t46, t50, t51, t53, t54, t56, t57, t58, t59, t60, t62, t63, t64, t66, t67, t68, t69, t70, u_bool, retryFail]) | (refine CKd_v (am2s_cons (am2_agg rfl) (am2s_cons am2_g am2s_nil)) (implRetryFail _ _ _ _ _) rfl ?_; simp [creg_nil, creg_op, creg_gd, cO, cR, cG_bool, cG_undef, ↓spl_tt, ↓spl_tf, ↓spl_ft, ↓spl_ff, spl_ct, spl_cf, putC, nmC, aop, ev, cv, updL, upd_app, upd_upd, lkE_app, lk_nil, lk_cons, aLen, aBuiltin, aBin, aIntBin, aFieldAddr, placeOf, aLoad, cellsAt, aUn, aIndexAddr, st0, valCells, isOne, Value.oneCell', aStore, setCells, formOb_nn, aBuild, parts, fillA, placesOf, aField, aIndex, aSlice, optIdx, aStrBin, aMakeSlice, viewCells, viewCell, arrN, frzU, t2, t3, t4, t5, t6, t7, t8, t9, t10, t11, t12, t13, t14, t15, t16, t17, t18, t19, t21, t22, t23, t25, t36, t46, t50, t51, t53, t54, t56, t57, t58, t59, t60, t62, t63, t64, t66, t67, t68, t69, t70, u_bool, retryFail]) | (refine ⟨fun _ => ?_, fun _ => ?_⟩) | (refine ⟨by omega, ?_⟩) | (intro _)
      all_goals (refine hK _ ?_; clear hK K)
      all_goals
        refine AW_seq ?_
        refine AW_r rfl rfl fun K hK => ?_
        simp [creg_nil, creg_op, creg_gd, cO, cR, cG_bool, cG_undef, ↓spl_tt, ↓spl_tf, ↓spl_ft, ↓spl_ff, spl_ct, spl_cf, putC, nmC, aop, ev, cv, updL, upd_app, upd_upd, lkE_app, lk_nil, lk_cons, aLen, aBuiltin, aBin, aIntBin, aFieldAddr, placeOf, aLoad, cellsAt, aUn, aIndexAddr, st0, valCells, isOne, Value.oneCell', aStore, setCells, formOb_nn, aBuild, parts, fillA, placesOf, aField, aIndex, aSlice, optIdx, aStrBin, aMakeSlice, viewCells, viewCell, arrN, frzU, t2, t3, t4, t5, t6, t7, t8, t9, t10, t11, t12, t13, t14, t15, t16, t17, t18, t19, t21, t22, t23, t25, t36, t46, t50, t51, t53, t54, t56, t57, t58, t59, t60, t62, t63, t64, t66, t67, t68, t69, t70, u_bool, retryFail]
        repeat' first | (refine CKd_v (am2s_cons (am2_agg rfl) (am2s_cons (am2_agg rfl) am2s_nil)) (eqRetry _ _ _ _ _ _ _ _) rfl ?_; simp [creg_nil, creg_op, creg_gd, cO, cR, cG_bool, cG_undef, ↓spl_tt, ↓spl_tf, ↓spl_ft, ↓spl_ff, spl_ct, spl_cf, putC, nmC, aop, ev, cv, updL, upd_app, upd_upd, lkE_app, lk_nil, lk_cons, aLen, aBuiltin, aBin, aIntBin, aFieldAddr, placeOf, aLoad, cellsAt, aUn, aIndexAddr, st0, valCells, isOne, Value.oneCell', aStore, setCells, formOb_nn, aBuild, parts, fillA, placesOf, aField, aIndex, aSlice, optIdx, aStrBin, aMakeSlice, viewCells, viewCell, arrN, frzU, t2, t3, t4, t5, t6, t7, t8, t9, t10, t11, t12, t13, t14, t15, t16, t17, t18, t19, t21, t22, t23, t25, t36, t46, t50, t51, t53, t54, t56, t57, t58, t59, t60, t62, t63, t64, t66, t67, t68, t69, t70, u_bool, retryFail]) | (refine ⟨fun _ => ?_, fun _ => ?_⟩) | (refine ⟨by omega, ?_⟩) | (intro _)
        all_goals (refine hK _ ?_; clear hK K)
        all_goals
          refine AW_cond rfl (fun hc => ?_) (fun hc => ?_)
          · try simp at hc
            all_goals
              refine AW_r rfl rfl fun K hK => ?_
              simp [creg_nil, creg_op, creg_gd, cO, cR, cG_bool, cG_undef, ↓spl_tt, ↓spl_tf, ↓spl_ft, ↓spl_ff, spl_ct, spl_cf, putC, nmC, aop, ev, cv, updL, upd_app, upd_upd, lkE_app, lk_nil, lk_cons, aLen, aBuiltin, aBin, aIntBin, aFieldAddr, placeOf, aLoad, cellsAt, aUn, aIndexAddr, st0, valCells, isOne, Value.oneCell', aStore, setCells, formOb_nn, aBuild, parts, fillA, placesOf, aField, aIndex, aSlice, optIdx, aStrBin, aMakeSlice, viewCells, viewCell, arrN, frzU, t2, t3, t4, t5, t6, t7, t8, t9, t10, t11, t12, t13, t14, t15, t16, t17, t18, t19, t21, t22, t23, t25, t36, t46, t50, t51, t53, t54, t56, t57, t58, t59, t60, t62, t63, t64, t66, t67, t68, t69, t70, u_bool, retryFail]
              repeat' first | (refine ⟨fun _ => ?_, fun _ => ?_⟩) | (refine ⟨by omega, ?_⟩) | (intro _)
              all_goals (refine hK _ ?_; clear hK K)
              all_goals
                refine AW_ret (end_s ?_)
                simp [creg_nil, creg_op, creg_gd, cO, cR, cG_bool, cG_undef, ↓spl_tt, ↓spl_tf, ↓spl_ft, ↓spl_ff, spl_ct, spl_cf, putC, nmC, aop, ev, cv, updL, upd_app, upd_upd, lkE_app, lk_nil, lk_cons, aLen, aBuiltin, aBin, aIntBin, aFieldAddr, placeOf, aLoad, cellsAt, aUn, aIndexAddr, st0, valCells, isOne, Value.oneCell', aStore, setCells, formOb_nn, aBuild, parts, fillA, placesOf, aField, aIndex, aSlice, optIdx, aStrBin, aMakeSlice, viewCells, viewCell, arrN, frzU, t2, t3, t4, t5, t6, t7, t8, t9, t10, t11, t12, t13, t14, t15, t16, t17, t18, t19, t21, t22, t23, t25, t36, t46, t50, t51, t53, t54, t56, t57, t58, t59, t60, t62, t63, t64, t66, t67, t68, t69, t70, u_bool, retryFail, endR_some, am0_gg, am0_ss, am0_ll, am1_gg, am1_ss, am1_ll, am1_nl, am1_al, am2_gg, am2_ss, am2_ll, am2_nl, am2_al, am2_ff, am1s_nn, am1s_cc, am2s_nn, am2s_cc, amRs_one, amRs_two', amRs_thr, resAll_nil, resAll_tmp, resAll_cell]
                all_goals first | omega | (simp_all; done) | ((try simp_all); (try simp (disch := omega) only [wrap64, Int.tdiv_eq_ediv_of_nonneg, Int.tmod_eq_emod_of_nonneg, and_true, true_and]); done) | ((try simp_all); (try simp (disch := omega) only [wrap64, Int.tdiv_eq_ediv_of_nonneg, Int.tmod_eq_emod_of_nonneg, and_true, true_and] at *); omega)
          · try simp at hc
            all_goals
              refine AW_skip ?_
              refine AW_id ?_
              refine AW_r rfl rfl fun K hK => ?_
              simp [creg_nil, creg_op, creg_gd, cO, cR, cG_bool, cG_undef, ↓spl_tt, ↓spl_tf, ↓spl_ft, ↓spl_ff, spl_ct, spl_cf, putC, nmC, aop, ev, cv, updL, upd_app, upd_upd, lkE_app, lk_nil, lk_cons, aLen, aBuiltin, aBin, aIntBin, aFieldAddr, placeOf, aLoad, cellsAt, aUn, aIndexAddr, st0, valCells, isOne, Value.oneCell', aStore, setCells, formOb_nn, aBuild, parts, fillA, placesOf, aField, aIndex, aSlice, optIdx, aStrBin, aMakeSlice, viewCells, viewCell, arrN, frzU, t2, t3, t4, t5, t6, t7, t8, t9, t10, t11, t12, t13, t14, t15, t16, t17, t18, t19, t21, t22, t23, t25, t36, t46, t50, t51, t53, t54, t56, t57, t58, t59, t60, t62, t63, t64, t66, t67, t68, t69, t70, u_bool, retryFail]
              repeat' first | (refine ⟨fun _ => ?_, fun _ => ?_⟩) | (refine ⟨by omega, ?_⟩) | (intro _)
              all_goals (refine hK _ ?_; clear hK K)
              all_goals
                refine AW_ret (end_s ?_)
                simp [creg_nil, creg_op, creg_gd, cO, cR, cG_bool, cG_undef, ↓spl_tt, ↓spl_tf, ↓spl_ft, ↓spl_ff, spl_ct, spl_cf, putC, nmC, aop, ev, cv, updL, upd_app, upd_upd, lkE_app, lk_nil, lk_cons, aLen, aBuiltin, aBin, aIntBin, aFieldAddr, placeOf, aLoad, cellsAt, aUn, aIndexAddr, st0, valCells, isOne, Value.oneCell', aStore, setCells, formOb_nn, aBuild, parts, fillA, placesOf, aField, aIndex, aSlice, optIdx, aStrBin, aMakeSlice, viewCells, viewCell, arrN, frzU, t2, t3, t4, t5, t6, t7, t8, t9, t10, t11, t12, t13, t14, t15, t16, t17, t18, t19, t21, t22, t23, t25, t36, t46, t50, t51, t53, t54, t56, t57, t58, t59, t60, t62, t63, t64, t66, t67, t68, t69, t70, u_bool, retryFail, endR_some, am0_gg, am0_ss, am0_ll, am1_gg, am1_ss, am1_ll, am1_nl, am1_al, am2_gg, am2_ss, am2_ll, am2_nl, am2_al, am2_ff, am1s_nn, am1s_cc, am2s_nn, am2s_cc, amRs_one, amRs_two', amRs_thr, resAll_nil, resAll_tmp, resAll_cell]
                all_goals first | omega | (simp_all; done) | ((try simp_all); (try simp (disch := omega) only [wrap64, Int.tdiv_eq_ediv_of_nonneg, Int.tmod_eq_emod_of_nonneg, and_true, true_and]); done) | ((try simp_all); (try simp (disch := omega) only [wrap64, Int.tdiv_eq_ediv_of_nonneg, Int.tmod_eq_emod_of_nonneg, and_true, true_and] at *); omega)
end Go.Proofs.Ytddkloigpihejaa.Vs
