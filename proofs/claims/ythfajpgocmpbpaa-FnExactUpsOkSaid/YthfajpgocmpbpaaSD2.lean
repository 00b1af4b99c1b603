import Derived.Test.YthfajpgocmpbpaaVsDD
import Derived.Test.YthfajpgocmpbpaaSKT
open Go Go.Proofs Go.Proofs.Ythfajpgocmpbpaa.Vs
namespace Go.Proofs.Ythfajpgocmpbpaa.Vs
set_option linter.unusedVariables false
set_option linter.unusedSimpArgs false
set_option linter.unusedSectionVars false
set_option linter.unnecessarySimpa false
set_option linter.all false
set_option linter.unusedSimpArgs false
set_option linter.unusedVariables false
theorem szStringS (xs : List (List UInt8)) (n : Int) (hn : 0 ≤ n ∧ n ≤ 1048576) (hw : (wfS wfL) xs) : PCall Try.prog 11 [.sl 1 (xs.map cS), (.g (.int .i64 (n)))] (.g (.int .i64 (szR n (szS lenZ xs)))) := by
  have hq := sumZ_nonneg lenZ_nonneg xs
  have hw1 := hw.1
  refine gcall_of_walk Try.func11 (by rfl) (by rfl) (by rw [Try.ntmps11]; exact Nat.le_of_ble_eq_true rfl) rfl (by decide) ?_
  rw [Try.ntmps11]
  refine AW_k [(0, _), (1, _)] ⟨rfl, rfl, trivial⟩ ?_
  refine AW_r rfl rfl fun K hK => ?_
  simp (disch := omega) [creg_nil, creg_op, creg_gd, cO, cR, cG_bool, cG_undef, ↓spl_tt, ↓spl_tf, ↓spl_ft, ↓spl_ff, spl_ct, spl_cf, putC, nmC, aop, ev, cv, updL, upd_app, upd_upd, lkE_app, lk_nil, lk_cons, aLen, aBuiltin, aBin, aIntBin, aFieldAddr, placeOf, aLoad, cellsAt, aUn, aIndexAddr, st0, valCells, isOne, Value.oneCell', aStore, setCells, List.getElem?_cons_zero, List.getElem?_cons_succ, Option.getD_some, formOb_nn, aBuild, parts, fillA, placesOf, aField, aIndex, aSlice, optIdx, aStrBin, aMakeSlice, viewCells, viewCell, arrN, frzU, t2, t3, t4, t5, t6, t7, t8, t9, t10, t11, t12, t13, t14, t15, t16, t17, t18, t19, t21, t22, t28, t29, t30, t33, t39, t45, t46, t47, t50, t51, t52, t56, t66, t67, t71, t77, t80, t81, t86, t88, t89, t90, t91, t92, t94, t95, t96, t98, t99, t100, t101, t102, u_bool, wrap64, List.getElem?_eq_getElem, szR]
  repeat' first | (refine ⟨fun _ => ?_, fun _ => ?_⟩) | (refine ⟨by omega, ?_⟩) | (intro _)
  all_goals (refine hK _ ?_; clear hK K)
  all_goals
    refine AW_r rfl rfl fun K hK => ?_
    simp (disch := omega) [creg_nil, creg_op, creg_gd, cO, cR, cG_bool, cG_undef, ↓spl_tt, ↓spl_tf, ↓spl_ft, ↓spl_ff, spl_ct, spl_cf, putC, nmC, aop, ev, cv, updL, upd_app, upd_upd, lkE_app, lk_nil, lk_cons, aLen, aBuiltin, aBin, aIntBin, aFieldAddr, placeOf, aLoad, cellsAt, aUn, aIndexAddr, st0, valCells, isOne, Value.oneCell', aStore, setCells, List.getElem?_cons_zero, List.getElem?_cons_succ, Option.getD_some, formOb_nn, aBuild, parts, fillA, placesOf, aField, aIndex, aSlice, optIdx, aStrBin, aMakeSlice, viewCells, viewCell, arrN, frzU, t2, t3, t4, t5, t6, t7, t8, t9, t10, t11, t12, t13, t14, t15, t16, t17, t18, t19, t21, t22, t28, t29, t30, t33, t39, t45, t46, t47, t50, t51, t52, t56, t66, t67, t71, t77, t80, t81, t86, t88, t89, t90, t91, t92, t94, t95, t96, t98, t99, t100, t101, t102, u_bool, wrap64, List.getElem?_eq_getElem, szR]
    repeat' first | (refine ⟨fun _ => ?_, fun _ => ?_⟩) | (refine ⟨by omega, ?_⟩) | (intro _)
    all_goals (refine hK _ ?_; clear hK K)
    all_goals
      refine AW_seq ?_
      refine AW_r rfl rfl fun K hK => ?_
      simp (disch := omega) [creg_nil, creg_op, creg_gd, cO, cR, cG_bool, cG_undef, ↓spl_tt, ↓spl_tf, ↓spl_ft, ↓spl_ff, spl_ct, spl_cf, putC, nmC, aop, ev, cv, updL, upd_app, upd_upd, lkE_app, lk_nil, lk_cons, aLen, aBuiltin, aBin, aIntBin, aFieldAddr, placeOf, aLoad, cellsAt, aUn, aIndexAddr, st0, valCells, isOne, Value.oneCell', aStore, setCells, List.getElem?_cons_zero, List.getElem?_cons_succ, Option.getD_some, formOb_nn, aBuild, parts, fillA, placesOf, aField, aIndex, aSlice, optIdx, aStrBin, aMakeSlice, viewCells, viewCell, arrN, frzU, t2, t3, t4, t5, t6, t7, t8, t9, t10, t11, t12, t13, t14, t15, t16, t17, t18, t19, t21, t22, t28, t29, t30, t33, t39, t45, t46, t47, t50, t51, t52, t56, t66, t67, t71, t77, t80, t81, t86, t88, t89, t90, t91, t92, t94, t95, t96, t98, t99, t100, t101, t102, u_bool, wrap64, List.getElem?_eq_getElem, szR]
      repeat' first | (refine ⟨fun _ => ?_, fun _ => ?_⟩) | (refine ⟨by omega, ?_⟩) | (intro _)
      all_goals (refine hK _ ?_; clear hK K)
      all_goals
        refine AW_cond rfl (fun hc1 => ?_) (fun hc1 => ?_)
        · try simp at hc1
          all_goals
            refine AW_r rfl rfl fun K hK => ?_
            simp (disch := omega) [creg_nil, creg_op, creg_gd, cO, cR, cG_bool, cG_undef, ↓spl_tt, ↓spl_tf, ↓spl_ft, ↓spl_ff, spl_ct, spl_cf, putC, nmC, aop, ev, cv, updL, upd_app, upd_upd, lkE_app, lk_nil, lk_cons, aLen, aBuiltin, aBin, aIntBin, aFieldAddr, placeOf, aLoad, cellsAt, aUn, aIndexAddr, st0, valCells, isOne, Value.oneCell', aStore, setCells, List.getElem?_cons_zero, List.getElem?_cons_succ, Option.getD_some, formOb_nn, aBuild, parts, fillA, placesOf, aField, aIndex, aSlice, optIdx, aStrBin, aMakeSlice, viewCells, viewCell, arrN, frzU, t2, t3, t4, t5, t6, t7, t8, t9, t10, t11, t12, t13, t14, t15, t16, t17, t18, t19, t21, t22, t28, t29, t30, t33, t39, t45, t46, t47, t50, t51, t52, t56, t66, t67, t71, t77, t80, t81, t86, t88, t89, t90, t91, t92, t94, t95, t96, t98, t99, t100, t101, t102, u_bool, wrap64, List.getElem?_eq_getElem, szR]
            repeat' first | (refine ⟨fun _ => ?_, fun _ => ?_⟩) | (refine ⟨by omega, ?_⟩) | (intro _)
            all_goals (refine hK _ ?_; clear hK K)
            all_goals
              refine AW_ret (end_s ?_)
              simp (disch := omega) [creg_nil, creg_op, creg_gd, cO, cR, cG_bool, cG_undef, ↓spl_tt, ↓spl_tf, ↓spl_ft, ↓spl_ff, spl_ct, spl_cf, putC, nmC, aop, ev, cv, updL, upd_app, upd_upd, lkE_app, lk_nil, lk_cons, aLen, aBuiltin, aBin, aIntBin, aFieldAddr, placeOf, aLoad, cellsAt, aUn, aIndexAddr, st0, valCells, isOne, Value.oneCell', aStore, setCells, List.getElem?_cons_zero, List.getElem?_cons_succ, Option.getD_some, formOb_nn, aBuild, parts, fillA, placesOf, aField, aIndex, aSlice, optIdx, aStrBin, aMakeSlice, viewCells, viewCell, arrN, frzU, t2, t3, t4, t5, t6, t7, t8, t9, t10, t11, t12, t13, t14, t15, t16, t17, t18, t19, t21, t22, t28, t29, t30, t33, t39, t45, t46, t47, t50, t51, t52, t56, t66, t67, t71, t77, t80, t81, t86, t88, t89, t90, t91, t92, t94, t95, t96, t98, t99, t100, t101, t102, u_bool, wrap64, List.getElem?_eq_getElem, szR, endR_some, am0_gg, am0_ss, am0_ll, am1_gg, am1_ss, am1_ll, am1_nl, am1_al, am2_gg, am2_ss, am2_ll, am2_nl, am2_al, am2_ff, am1s_nn, am1s_cc, am2s_nn, am2s_cc, amRs_one, amRs_two', amRs_thr, resAll_nil, resAll_tmp, resAll_cell, szS]
              all_goals first | omega | (split <;> omega)
        · try simp at hc1
          all_goals
            refine AW_skip ?_
            refine AW_id ?_
            refine AW_seq ?_
            refine AW_r rfl rfl fun K hK => ?_
            simp (disch := omega) [creg_nil, creg_op, creg_gd, cO, cR, cG_bool, cG_undef, ↓spl_tt, ↓spl_tf, ↓spl_ft, ↓spl_ff, spl_ct, spl_cf, putC, nmC, aop, ev, cv, updL, upd_app, upd_upd, lkE_app, lk_nil, lk_cons, aLen, aBuiltin, aBin, aIntBin, aFieldAddr, placeOf, aLoad, cellsAt, aUn, aIndexAddr, st0, valCells, isOne, Value.oneCell', aStore, setCells, List.getElem?_cons_zero, List.getElem?_cons_succ, Option.getD_some, formOb_nn, aBuild, parts, fillA, placesOf, aField, aIndex, aSlice, optIdx, aStrBin, aMakeSlice, viewCells, viewCell, arrN, frzU, t2, t3, t4, t5, t6, t7, t8, t9, t10, t11, t12, t13, t14, t15, t16, t17, t18, t19, t21, t22, t28, t29, t30, t33, t39, t45, t46, t47, t50, t51, t52, t56, t66, t67, t71, t77, t80, t81, t86, t88, t89, t90, t91, t92, t94, t95, t96, t98, t99, t100, t101, t102, u_bool, wrap64, List.getElem?_eq_getElem, szR]
            repeat' first | (refine ⟨fun _ => ?_, fun _ => ?_⟩) | (refine ⟨by omega, ?_⟩) | (intro _)
            all_goals (refine hK _ ?_; clear hK K)
            all_goals
              refine AW_block ?_
              refine AW_loopS (fun m s => ∃ (i : Nat), m = xs.length - i ∧ (i ≤ xs.length ∧ 0 ≤ n - xs.length - sumZ lenZ (xs.take i)) ∧ s = { env := lkE [(0, .sl 1 (xs.map cS)), (1, (.g (.int .i64 (n - xs.length - sumZ lenZ (xs.take i))))), (5, (.g (.int .i64 ((i : Nat)))))], ob := formOb [] [] }) ?_ ?_
              · refine ⟨_, LeS.kp [(0, .sl 1 (xs.map cS)), (1, (.g (.int .i64 (n - xs.length - sumZ lenZ (xs.take (0)))))), (5, (.g (.int .i64 (((0) : Nat)))))] (by simp [KpE, upd_app, lkE_app, lk_cons, sumZ_nil]; try rfl), _, 0, rfl, ?_, rfl⟩
                · simp [sumZ_nil]; omega
              · rintro m s ⟨i, rfl, ⟨hi, hn⟩, rfl⟩
                have hz := sumZ_nonneg lenZ_nonneg (xs.take i)
                have hz2 := sumZ_take_le lenZ_nonneg xs i
                refine AW_seq ?_
                refine AW_r rfl rfl fun K hK => ?_
                simp (disch := omega) [creg_nil, creg_op, creg_gd, cO, cR, cG_bool, cG_undef, ↓spl_tt, ↓spl_tf, ↓spl_ft, ↓spl_ff, spl_ct, spl_cf, putC, nmC, aop, ev, cv, updL, upd_app, upd_upd, lkE_app, lk_nil, lk_cons, aLen, aBuiltin, aBin, aIntBin, aFieldAddr, placeOf, aLoad, cellsAt, aUn, aIndexAddr, st0, valCells, isOne, Value.oneCell', aStore, setCells, List.getElem?_cons_zero, List.getElem?_cons_succ, Option.getD_some, formOb_nn, aBuild, parts, fillA, placesOf, aField, aIndex, aSlice, optIdx, aStrBin, aMakeSlice, viewCells, viewCell, arrN, frzU, t2, t3, t4, t5, t6, t7, t8, t9, t10, t11, t12, t13, t14, t15, t16, t17, t18, t19, t21, t22, t28, t29, t30, t33, t39, t45, t46, t47, t50, t51, t52, t56, t66, t67, t71, t77, t80, t81, t86, t88, t89, t90, t91, t92, t94, t95, t96, t98, t99, t100, t101, t102, u_bool, wrap64, List.getElem?_eq_getElem, szR, cS, lenZ]
                repeat' first | (refine ⟨fun _ => ?_, fun _ => ?_⟩) | (refine ⟨by omega, ?_⟩) | (intro _)
                all_goals (refine hK _ ?_; clear hK K)
                all_goals
                  refine AW_cond rfl (fun hc2 => ?_) (fun hc2 => ?_)
                  · try simp at hc2
                    all_goals
                      have hl := sumZ_take (f := lenZ) xs i (by omega)
                      have hwE : wfL xs[i] := hw.2 _ (List.getElem_mem _)
                      have hwE2 : xs[i].length ≤ 9223372036854775807 := hwE
                      simp only [lenZ] at hl
                      have hz3 := sumZ_take_le lenZ_nonneg xs (i + 1)
                      refine AW_skip ?_
                      refine AW_id ?_
                      refine AW_seq ?_
                      refine AW_block ?_
                      refine AW_r rfl rfl fun K hK => ?_
                      simp (disch := omega) [creg_nil, creg_op, creg_gd, cO, cR, cG_bool, cG_undef, ↓spl_tt, ↓spl_tf, ↓spl_ft, ↓spl_ff, spl_ct, spl_cf, putC, nmC, aop, ev, cv, updL, upd_app, upd_upd, lkE_app, lk_nil, lk_cons, aLen, aBuiltin, aBin, aIntBin, aFieldAddr, placeOf, aLoad, cellsAt, aUn, aIndexAddr, st0, valCells, isOne, Value.oneCell', aStore, setCells, List.getElem?_cons_zero, List.getElem?_cons_succ, Option.getD_some, formOb_nn, aBuild, parts, fillA, placesOf, aField, aIndex, aSlice, optIdx, aStrBin, aMakeSlice, viewCells, viewCell, arrN, frzU, t2, t3, t4, t5, t6, t7, t8, t9, t10, t11, t12, t13, t14, t15, t16, t17, t18, t19, t21, t22, t28, t29, t30, t33, t39, t45, t46, t47, t50, t51, t52, t56, t66, t67, t71, t77, t80, t81, t86, t88, t89, t90, t91, t92, t94, t95, t96, t98, t99, t100, t101, t102, u_bool, wrap64, List.getElem?_eq_getElem, szR, cS, lenZ]
                      repeat' first | (refine ⟨fun _ => ?_, fun _ => ?_⟩) | (refine ⟨by omega, ?_⟩) | (intro _)
                      all_goals (refine hK _ ?_; clear hK K)
                      all_goals
                        refine AW_r rfl rfl fun K hK => ?_
                        simp (disch := omega) [creg_nil, creg_op, creg_gd, cO, cR, cG_bool, cG_undef, ↓spl_tt, ↓spl_tf, ↓spl_ft, ↓spl_ff, spl_ct, spl_cf, putC, nmC, aop, ev, cv, updL, upd_app, upd_upd, lkE_app, lk_nil, lk_cons, aLen, aBuiltin, aBin, aIntBin, aFieldAddr, placeOf, aLoad, cellsAt, aUn, aIndexAddr, st0, valCells, isOne, Value.oneCell', aStore, setCells, List.getElem?_cons_zero, List.getElem?_cons_succ, Option.getD_some, formOb_nn, aBuild, parts, fillA, placesOf, aField, aIndex, aSlice, optIdx, aStrBin, aMakeSlice, viewCells, viewCell, arrN, frzU, t2, t3, t4, t5, t6, t7, t8, t9, t10, t11, t12, t13, t14, t15, t16, t17, t18, t19, t21, t22, t28, t29, t30, t33, t39, t45, t46, t47, t50, t51, t52, t56, t66, t67, t71, t77, t80, t81, t86, t88, t89, t90, t91, t92, t94, t95, t96, t98, t99, t100, t101, t102, u_bool, wrap64, List.getElem?_eq_getElem, szR, cS, lenZ]
                        repeat' first | (refine ⟨fun _ => ?_, fun _ => ?_⟩) | (refine ⟨by omega, ?_⟩) | (intro _)
                        all_goals (refine hK _ ?_; clear hK K)
                        all_goals
                          refine AW_cond rfl (fun hc3 => ?_) (fun hc3 => ?_)
                          · try simp at hc3
                            all_goals
                              refine AW_r rfl rfl fun K hK => ?_
                              simp (disch := omega) [creg_nil, creg_op, creg_gd, cO, cR, cG_bool, cG_undef, ↓spl_tt, ↓spl_tf, ↓spl_ft, ↓spl_ff, spl_ct, spl_cf, putC, nmC, aop, ev, cv, updL, upd_app, upd_upd, lkE_app, lk_nil, lk_cons, aLen, aBuiltin, aBin, aIntBin, aFieldAddr, placeOf, aLoad, cellsAt, aUn, aIndexAddr, st0, valCells, isOne, Value.oneCell', aStore, setCells, List.getElem?_cons_zero, List.getElem?_cons_succ, Option.getD_some, formOb_nn, aBuild, parts, fillA, placesOf, aField, aIndex, aSlice, optIdx, aStrBin, aMakeSlice, viewCells, viewCell, arrN, frzU, t2, t3, t4, t5, t6, t7, t8, t9, t10, t11, t12, t13, t14, t15, t16, t17, t18, t19, t21, t22, t28, t29, t30, t33, t39, t45, t46, t47, t50, t51, t52, t56, t66, t67, t71, t77, t80, t81, t86, t88, t89, t90, t91, t92, t94, t95, t96, t98, t99, t100, t101, t102, u_bool, wrap64, List.getElem?_eq_getElem, szR, cS, lenZ]
                              repeat' first | (refine ⟨fun _ => ?_, fun _ => ?_⟩) | (refine ⟨by omega, ?_⟩) | (intro _)
                              all_goals (refine hK _ ?_; clear hK K)
                              all_goals
                                refine AW_ret (end_s ?_)
                                simp (disch := omega) [creg_nil, creg_op, creg_gd, cO, cR, cG_bool, cG_undef, ↓spl_tt, ↓spl_tf, ↓spl_ft, ↓spl_ff, spl_ct, spl_cf, putC, nmC, aop, ev, cv, updL, upd_app, upd_upd, lkE_app, lk_nil, lk_cons, aLen, aBuiltin, aBin, aIntBin, aFieldAddr, placeOf, aLoad, cellsAt, aUn, aIndexAddr, st0, valCells, isOne, Value.oneCell', aStore, setCells, List.getElem?_cons_zero, List.getElem?_cons_succ, Option.getD_some, formOb_nn, aBuild, parts, fillA, placesOf, aField, aIndex, aSlice, optIdx, aStrBin, aMakeSlice, viewCells, viewCell, arrN, frzU, t2, t3, t4, t5, t6, t7, t8, t9, t10, t11, t12, t13, t14, t15, t16, t17, t18, t19, t21, t22, t28, t29, t30, t33, t39, t45, t46, t47, t50, t51, t52, t56, t66, t67, t71, t77, t80, t81, t86, t88, t89, t90, t91, t92, t94, t95, t96, t98, t99, t100, t101, t102, u_bool, wrap64, List.getElem?_eq_getElem, szR, cS, lenZ, endR_some, am0_gg, am0_ss, am0_ll, am1_gg, am1_ss, am1_ll, am1_nl, am1_al, am2_gg, am2_ss, am2_ll, am2_nl, am2_al, am2_ff, am1s_nn, am1s_cc, am2s_nn, am2s_cc, amRs_one, amRs_two', amRs_thr, resAll_nil, resAll_tmp, resAll_cell, szS]
                                all_goals first | omega | (split <;> omega)
                          · try simp at hc3
                            all_goals
                              refine AW_skip ?_
                              refine AW_id ?_
                              refine AW_re rfl rfl fun K hK => ?_
                              simp (disch := omega) [creg_nil, creg_op, creg_gd, cO, cR, cG_bool, cG_undef, ↓spl_tt, ↓spl_tf, ↓spl_ft, ↓spl_ff, spl_ct, spl_cf, putC, nmC, aop, ev, cv, updL, upd_app, upd_upd, lkE_app, lk_nil, lk_cons, aLen, aBuiltin, aBin, aIntBin, aFieldAddr, placeOf, aLoad, cellsAt, aUn, aIndexAddr, st0, valCells, isOne, Value.oneCell', aStore, setCells, List.getElem?_cons_zero, List.getElem?_cons_succ, Option.getD_some, formOb_nn, aBuild, parts, fillA, placesOf, aField, aIndex, aSlice, optIdx, aStrBin, aMakeSlice, viewCells, viewCell, arrN, frzU, t2, t3, t4, t5, t6, t7, t8, t9, t10, t11, t12, t13, t14, t15, t16, t17, t18, t19, t21, t22, t28, t29, t30, t33, t39, t45, t46, t47, t50, t51, t52, t56, t66, t67, t71, t77, t80, t81, t86, t88, t89, t90, t91, t92, t94, t95, t96, t98, t99, t100, t101, t102, u_bool, wrap64, List.getElem?_eq_getElem, szR, cS, lenZ]
                              repeat' first | (refine ⟨fun _ => ?_, fun _ => ?_⟩) | (refine ⟨by omega, ?_⟩) | (intro _)
                              all_goals (refine hK _ ?_; clear hK K)
                              all_goals
                                refine ⟨_, LeS.kp [(0, .sl 1 (xs.map cS)), (1, (.g (.int .i64 (n - xs.length - sumZ lenZ (xs.take (i + 1)))))), (5, (.g (.int .i64 (((i + 1) : Nat)))))] (by simp [KpE, upd_app, lkE_app, lk_cons, sumZ_nil]; first | rfl | omega), _, ?_, i + 1, rfl, ?_, rfl⟩
                                · omega
                                · omega
                  · try simp at hc2
                    all_goals
                      have hi2 : i = xs.length := by omega
                      subst hi2
                      simp only [List.take_length] at *
                      refine AW_exit ?_
                      refine AW_id ?_
                      refine AW_r rfl rfl fun K hK => ?_
                      simp (disch := omega) [creg_nil, creg_op, creg_gd, cO, cR, cG_bool, cG_undef, ↓spl_tt, ↓spl_tf, ↓spl_ft, ↓spl_ff, spl_ct, spl_cf, putC, nmC, aop, ev, cv, updL, upd_app, upd_upd, lkE_app, lk_nil, lk_cons, aLen, aBuiltin, aBin, aIntBin, aFieldAddr, placeOf, aLoad, cellsAt, aUn, aIndexAddr, st0, valCells, isOne, Value.oneCell', aStore, setCells, List.getElem?_cons_zero, List.getElem?_cons_succ, Option.getD_some, formOb_nn, aBuild, parts, fillA, placesOf, aField, aIndex, aSlice, optIdx, aStrBin, aMakeSlice, viewCells, viewCell, arrN, frzU, t2, t3, t4, t5, t6, t7, t8, t9, t10, t11, t12, t13, t14, t15, t16, t17, t18, t19, t21, t22, t28, t29, t30, t33, t39, t45, t46, t47, t50, t51, t52, t56, t66, t67, t71, t77, t80, t81, t86, t88, t89, t90, t91, t92, t94, t95, t96, t98, t99, t100, t101, t102, u_bool, wrap64, List.getElem?_eq_getElem, szR, cS, lenZ]
                      repeat' first | (refine ⟨fun _ => ?_, fun _ => ?_⟩) | (refine ⟨by omega, ?_⟩) | (intro _)
                      all_goals (refine hK _ ?_; clear hK K)
                      all_goals
                        refine AW_ret (end_s ?_)
                        simp (disch := omega) [creg_nil, creg_op, creg_gd, cO, cR, cG_bool, cG_undef, ↓spl_tt, ↓spl_tf, ↓spl_ft, ↓spl_ff, spl_ct, spl_cf, putC, nmC, aop, ev, cv, updL, upd_app, upd_upd, lkE_app, lk_nil, lk_cons, aLen, aBuiltin, aBin, aIntBin, aFieldAddr, placeOf, aLoad, cellsAt, aUn, aIndexAddr, st0, valCells, isOne, Value.oneCell', aStore, setCells, List.getElem?_cons_zero, List.getElem?_cons_succ, Option.getD_some, formOb_nn, aBuild, parts, fillA, placesOf, aField, aIndex, aSlice, optIdx, aStrBin, aMakeSlice, viewCells, viewCell, arrN, frzU, t2, t3, t4, t5, t6, t7, t8, t9, t10, t11, t12, t13, t14, t15, t16, t17, t18, t19, t21, t22, t28, t29, t30, t33, t39, t45, t46, t47, t50, t51, t52, t56, t66, t67, t71, t77, t80, t81, t86, t88, t89, t90, t91, t92, t94, t95, t96, t98, t99, t100, t101, t102, u_bool, wrap64, List.getElem?_eq_getElem, szR, cS, lenZ, endR_some, am0_gg, am0_ss, am0_ll, am1_gg, am1_ss, am1_ll, am1_nl, am1_al, am2_gg, am2_ss, am2_ll, am2_nl, am2_al, am2_ff, am1s_nn, am1s_cc, am2s_nn, am2s_cc, amRs_one, amRs_two', amRs_thr, resAll_nil, resAll_tmp, resAll_cell, szS]
                        all_goals first | omega | (split <;> omega)
theorem toStringS (xs : List (List UInt8)) (hs : szS lenZ xs ≤ 1048576) : PCall Try.prog 13 [.sl 1 (xs.map cS)] (.sl 1 (xs.map cS)) := by
  have hn : xs.length ≤ 1048576 := by have := sumZ_nonneg lenZ_nonneg xs; simp only [szS] at hs; omega
  refine gcall_of_walk Try.func13 (by rfl) (by rfl) (by rw [Try.ntmps13]; exact Nat.le_of_ble_eq_true rfl) rfl (by decide) ?_
  rw [Try.ntmps13]
  refine AW_k [(0, _)] ⟨rfl, trivial⟩ ?_
  refine AW_r rfl rfl fun K hK => ?_
  simp (disch := omega) [creg_nil, creg_op, creg_gd, cO, cR, cG_bool, cG_undef, ↓spl_tt, ↓spl_tf, ↓spl_ft, ↓spl_ff, spl_ct, spl_cf, putC, nmC, aop, ev, cv, updL, upd_app, upd_upd, lkE_app, lk_nil, lk_cons, aLen, aBuiltin, aBin, aIntBin, aFieldAddr, placeOf, aLoad, cellsAt, aUn, aIndexAddr, st0, valCells, isOne, Value.oneCell', aStore, setCells, List.getElem?_cons_zero, List.getElem?_cons_succ, Option.getD_some, formOb_nn, aBuild, parts, fillA, placesOf, aField, aIndex, aSlice, optIdx, aStrBin, aMakeSlice, viewCells, viewCell, arrN, frzU, t2, t3, t4, t5, t6, t7, t8, t9, t10, t11, t12, t13, t14, t15, t16, t17, t18, t19, t21, t22, t28, t29, t30, t33, t39, t45, t46, t47, t50, t51, t52, t56, t66, t67, t71, t77, t80, t81, t86, t88, t89, t90, t91, t92, t94, t95, t96, t98, t99, t100, t101, t102, u_bool, wrap64, List.getElem?_eq_getElem]
  repeat' first | (refine ⟨fun _ => ?_, fun _ => ?_⟩) | (refine ⟨by omega, ?_⟩) | (intro _)
  all_goals (refine hK _ ?_; clear hK K)
  all_goals
    refine AW_r rfl rfl fun K hK => ?_
    simp (disch := omega) [creg_nil, creg_op, creg_gd, cO, cR, cG_bool, cG_undef, ↓spl_tt, ↓spl_tf, ↓spl_ft, ↓spl_ff, spl_ct, spl_cf, putC, nmC, aop, ev, cv, updL, upd_app, upd_upd, lkE_app, lk_nil, lk_cons, aLen, aBuiltin, aBin, aIntBin, aFieldAddr, placeOf, aLoad, cellsAt, aUn, aIndexAddr, st0, valCells, isOne, Value.oneCell', aStore, setCells, List.getElem?_cons_zero, List.getElem?_cons_succ, Option.getD_some, formOb_nn, aBuild, parts, fillA, placesOf, aField, aIndex, aSlice, optIdx, aStrBin, aMakeSlice, viewCells, viewCell, arrN, frzU, t2, t3, t4, t5, t6, t7, t8, t9, t10, t11, t12, t13, t14, t15, t16, t17, t18, t19, t21, t22, t28, t29, t30, t33, t39, t45, t46, t47, t50, t51, t52, t56, t66, t67, t71, t77, t80, t81, t86, t88, t89, t90, t91, t92, t94, t95, t96, t98, t99, t100, t101, t102, u_bool, wrap64, List.getElem?_eq_getElem]
    repeat' first | (refine ⟨fun _ => ?_, fun _ => ?_⟩) | (refine ⟨by omega, ?_⟩) | (intro _)
    all_goals (refine hK _ ?_; clear hK K)
    all_goals
      refine AW_seq ?_
      refine AW_r rfl rfl fun K hK => ?_
      simp (disch := omega) [creg_nil, creg_op, creg_gd, cO, cR, cG_bool, cG_undef, ↓spl_tt, ↓spl_tf, ↓spl_ft, ↓spl_ff, spl_ct, spl_cf, putC, nmC, aop, ev, cv, updL, upd_app, upd_upd, lkE_app, lk_nil, lk_cons, aLen, aBuiltin, aBin, aIntBin, aFieldAddr, placeOf, aLoad, cellsAt, aUn, aIndexAddr, st0, valCells, isOne, Value.oneCell', aStore, setCells, List.getElem?_cons_zero, List.getElem?_cons_succ, Option.getD_some, formOb_nn, aBuild, parts, fillA, placesOf, aField, aIndex, aSlice, optIdx, aStrBin, aMakeSlice, viewCells, viewCell, arrN, frzU, t2, t3, t4, t5, t6, t7, t8, t9, t10, t11, t12, t13, t14, t15, t16, t17, t18, t19, t21, t22, t28, t29, t30, t33, t39, t45, t46, t47, t50, t51, t52, t56, t66, t67, t71, t77, t80, t81, t86, t88, t89, t90, t91, t92, t94, t95, t96, t98, t99, t100, t101, t102, u_bool, wrap64, List.getElem?_eq_getElem]
      repeat' first | (refine ⟨fun _ => ?_, fun _ => ?_⟩) | (refine ⟨by omega, ?_⟩) | (intro _)
      all_goals (refine hK _ ?_; clear hK K)
      all_goals
        refine AW_block ?_
        refine AW_loopS (fun m s => ∃ (i : Nat) (ys : List (List AV)), m = xs.length - i ∧ (i ≤ xs.length ∧ ys.length = xs.length ∧ (∀ j, j < i → ys[j]? = (xs.map cS)[j]?) ∧ (∀ y ∈ ys, y.length = 1)) ∧ s = { env := lkE [(0, .sl 1 (xs.map cS)), (3, .arr 128 0 xs.length), (4, (.g (.int .i64 ((i : Nat)))))], ob := upd (formOb [] []) 128 (some (.flat 1 ys)) }) ?_ ?_
        · refine ⟨_, LeS.kp [(0, .sl 1 (xs.map cS)), (3, .arr 128 0 xs.length), (4, (.g (.int .i64 (((0) : Nat)))))] (by simp [KpE, upd_app, lkE_app, lk_cons]; try rfl), _, 0, List.replicate xs.length [.s []], rfl, ?_, rfl⟩
          · simp
        · rintro m s ⟨i, ys, rfl, ⟨hi, hl, hpre, hone⟩, rfl⟩
          refine AW_seq ?_
          refine AW_r rfl rfl fun K hK => ?_
          simp (disch := omega) [creg_nil, creg_op, creg_gd, cO, cR, cG_bool, cG_undef, ↓spl_tt, ↓spl_tf, ↓spl_ft, ↓spl_ff, spl_ct, spl_cf, putC, nmC, aop, ev, cv, updL, upd_app, upd_upd, lkE_app, lk_nil, lk_cons, aLen, aBuiltin, aBin, aIntBin, aFieldAddr, placeOf, aLoad, cellsAt, aUn, aIndexAddr, st0, valCells, isOne, Value.oneCell', aStore, setCells, List.getElem?_cons_zero, List.getElem?_cons_succ, Option.getD_some, formOb_nn, aBuild, parts, fillA, placesOf, aField, aIndex, aSlice, optIdx, aStrBin, aMakeSlice, viewCells, viewCell, arrN, frzU, t2, t3, t4, t5, t6, t7, t8, t9, t10, t11, t12, t13, t14, t15, t16, t17, t18, t19, t21, t22, t28, t29, t30, t33, t39, t45, t46, t47, t50, t51, t52, t56, t66, t67, t71, t77, t80, t81, t86, t88, t89, t90, t91, t92, t94, t95, t96, t98, t99, t100, t101, t102, u_bool, wrap64, List.getElem?_eq_getElem, cS]
          repeat' first | (refine ⟨fun _ => ?_, fun _ => ?_⟩) | (refine ⟨by omega, ?_⟩) | (intro _)
          all_goals (refine hK _ ?_; clear hK K)
          all_goals
            refine AW_cond rfl (fun hc4 => ?_) (fun hc4 => ?_)
            · try simp at hc4
              all_goals
                obtain ⟨c1, h6⟩ : ∃ c1, ys[i]'(by omega) = [c1] := List.length_eq_one_iff.1 (hone _ (List.getElem_mem _))
                refine AW_skip ?_
                refine AW_id ?_
                refine AW_seq ?_
                refine AW_block ?_
                refine AW_re rfl rfl fun K hK => ?_
                simp (disch := omega) [creg_nil, creg_op, creg_gd, cO, cR, cG_bool, cG_undef, ↓spl_tt, ↓spl_tf, ↓spl_ft, ↓spl_ff, spl_ct, spl_cf, putC, nmC, aop, ev, cv, updL, upd_app, upd_upd, lkE_app, lk_nil, lk_cons, aLen, aBuiltin, aBin, aIntBin, aFieldAddr, placeOf, aLoad, cellsAt, aUn, aIndexAddr, st0, valCells, isOne, Value.oneCell', aStore, setCells, List.getElem?_cons_zero, List.getElem?_cons_succ, Option.getD_some, formOb_nn, aBuild, parts, fillA, placesOf, aField, aIndex, aSlice, optIdx, aStrBin, aMakeSlice, viewCells, viewCell, arrN, frzU, t2, t3, t4, t5, t6, t7, t8, t9, t10, t11, t12, t13, t14, t15, t16, t17, t18, t19, t21, t22, t28, t29, t30, t33, t39, t45, t46, t47, t50, t51, t52, t56, t66, t67, t71, t77, t80, t81, t86, t88, t89, t90, t91, t92, t94, t95, t96, t98, t99, t100, t101, t102, u_bool, wrap64, List.getElem?_eq_getElem, cS, h6]
                repeat' first | (refine ⟨fun _ => ?_, fun _ => ?_⟩) | (refine ⟨by omega, ?_⟩) | (intro _)
                all_goals (refine hK _ ?_; clear hK K)
                all_goals
                  refine AW_id ?_
                  refine AW_re rfl rfl fun K hK => ?_
                  simp (disch := omega) [creg_nil, creg_op, creg_gd, cO, cR, cG_bool, cG_undef, ↓spl_tt, ↓spl_tf, ↓spl_ft, ↓spl_ff, spl_ct, spl_cf, putC, nmC, aop, ev, cv, updL, upd_app, upd_upd, lkE_app, lk_nil, lk_cons, aLen, aBuiltin, aBin, aIntBin, aFieldAddr, placeOf, aLoad, cellsAt, aUn, aIndexAddr, st0, valCells, isOne, Value.oneCell', aStore, setCells, List.getElem?_cons_zero, List.getElem?_cons_succ, Option.getD_some, formOb_nn, aBuild, parts, fillA, placesOf, aField, aIndex, aSlice, optIdx, aStrBin, aMakeSlice, viewCells, viewCell, arrN, frzU, t2, t3, t4, t5, t6, t7, t8, t9, t10, t11, t12, t13, t14, t15, t16, t17, t18, t19, t21, t22, t28, t29, t30, t33, t39, t45, t46, t47, t50, t51, t52, t56, t66, t67, t71, t77, t80, t81, t86, t88, t89, t90, t91, t92, t94, t95, t96, t98, t99, t100, t101, t102, u_bool, wrap64, List.getElem?_eq_getElem, cS, h6]
                  repeat' first | (refine ⟨fun _ => ?_, fun _ => ?_⟩) | (refine ⟨by omega, ?_⟩) | (intro _)
                  all_goals (refine hK _ ?_; clear hK K)
                  all_goals
                    refine ⟨_, LeS.kp [(0, .sl 1 (xs.map cS)), (3, .arr 128 0 xs.length), (4, (.g (.int .i64 (((i + 1) : Nat)))))] (by simp [KpE, upd_app, lkE_app, lk_cons]; try rfl), _, ?_, i + 1, ys.set i (cS xs[i]), rfl, ?_, ?_⟩
                    · omega
                    · refine ⟨by omega, by simpa using hl, fun j hj => ?_, fun y hy => ?_⟩
                      · by_cases hji : j = i
                        · subst hji; rw [List.getElem?_set_self (by omega), List.getElem?_map, List.getElem?_eq_getElem (by omega)]; rfl
                        · rw [List.getElem?_set_ne (by omega)]; exact hpre j (by omega)
                      · rcases List.mem_or_eq_of_mem_set hy with hy | rfl
                        · exact hone y hy
                        · rfl
                    · simp [cS]
            · try simp at hc4
              all_goals
                have hi2 : i = xs.length := by omega
                subst hi2
                have hys : ys = xs.map cS := List.ext_getElem? fun j => by
                  by_cases hj : j < xs.length
                  · exact hpre j hj
                  · rw [List.getElem?_eq_none (by omega), List.getElem?_eq_none (by simp; omega)]
                subst hys
                refine AW_exit ?_
                refine AW_id ?_
                refine AW_r rfl rfl fun K hK => ?_
                simp (disch := omega) [creg_nil, creg_op, creg_gd, cO, cR, cG_bool, cG_undef, ↓spl_tt, ↓spl_tf, ↓spl_ft, ↓spl_ff, spl_ct, spl_cf, putC, nmC, aop, ev, cv, updL, upd_app, upd_upd, lkE_app, lk_nil, lk_cons, aLen, aBuiltin, aBin, aIntBin, aFieldAddr, placeOf, aLoad, cellsAt, aUn, aIndexAddr, st0, valCells, isOne, Value.oneCell', aStore, setCells, List.getElem?_cons_zero, List.getElem?_cons_succ, Option.getD_some, formOb_nn, aBuild, parts, fillA, placesOf, aField, aIndex, aSlice, optIdx, aStrBin, aMakeSlice, viewCells, viewCell, arrN, frzU, t2, t3, t4, t5, t6, t7, t8, t9, t10, t11, t12, t13, t14, t15, t16, t17, t18, t19, t21, t22, t28, t29, t30, t33, t39, t45, t46, t47, t50, t51, t52, t56, t66, t67, t71, t77, t80, t81, t86, t88, t89, t90, t91, t92, t94, t95, t96, t98, t99, t100, t101, t102, u_bool, wrap64, List.getElem?_eq_getElem, cS]
                repeat' first | (refine ⟨fun _ => ?_, fun _ => ?_⟩) | (refine ⟨by omega, ?_⟩) | (intro _)
                all_goals (refine hK _ ?_; clear hK K)
                all_goals
                  refine AW_ret (end_s ?_)
                  simp (disch := omega) [creg_nil, creg_op, creg_gd, cO, cR, cG_bool, cG_undef, ↓spl_tt, ↓spl_tf, ↓spl_ft, ↓spl_ff, spl_ct, spl_cf, putC, nmC, aop, ev, cv, updL, upd_app, upd_upd, lkE_app, lk_nil, lk_cons, aLen, aBuiltin, aBin, aIntBin, aFieldAddr, placeOf, aLoad, cellsAt, aUn, aIndexAddr, st0, valCells, isOne, Value.oneCell', aStore, setCells, List.getElem?_cons_zero, List.getElem?_cons_succ, Option.getD_some, formOb_nn, aBuild, parts, fillA, placesOf, aField, aIndex, aSlice, optIdx, aStrBin, aMakeSlice, viewCells, viewCell, arrN, frzU, t2, t3, t4, t5, t6, t7, t8, t9, t10, t11, t12, t13, t14, t15, t16, t17, t18, t19, t21, t22, t28, t29, t30, t33, t39, t45, t46, t47, t50, t51, t52, t56, t66, t67, t71, t77, t80, t81, t86, t88, t89, t90, t91, t92, t94, t95, t96, t98, t99, t100, t101, t102, u_bool, wrap64, List.getElem?_eq_getElem, cS, endR_some, am0_gg, am0_ss, am0_ll, am1_gg, am1_ss, am1_ll, am1_nl, am1_al, am2_gg, am2_ss, am2_ll, am2_nl, am2_al, am2_ff, am1s_nn, am1s_cc, am2s_nn, am2s_cc, amRs_one, amRs_two', amRs_thr, resAll_nil, resAll_tmp, resAll_cell]
                  all_goals first | omega | (simp_all; done) | (simp [List.take_of_length_le]; done) | ((try simp_all); (try simp (disch := omega) only [wrap64, Int.tdiv_eq_ediv_of_nonneg, Int.tmod_eq_emod_of_nonneg, and_true, true_and]); done) | ((try simp_all); (try simp (disch := omega) only [wrap64, Int.tdiv_eq_ediv_of_nonneg, Int.tmod_eq_emod_of_nonneg, and_true, true_and] at *); omega)
theorem eqStringS (xs ys : List (List UInt8)) (hs : szS lenZ xs ≤ 1048576) : PCall Try.prog 15 [.sl 1 (xs.map cS), .sl 1 (ys.map cS)] (.g (.bool (eqB xs ys))) := by
  have hn : xs.length ≤ 1048576 := by have := sumZ_nonneg lenZ_nonneg xs; simp only [szS] at hs; omega
  refine gcall_of_walk Try.func15 (by rfl) (by rfl) (by rw [Try.ntmps15]; exact Nat.le_of_ble_eq_true rfl) rfl (by decide) ?_
  rw [Try.ntmps15]
  refine AW_k [(0, _), (1, _)] ⟨rfl, rfl, trivial⟩ ?_
  refine AW_r rfl rfl fun K hK => ?_
  simp (disch := omega) [creg_nil, creg_op, creg_gd, cO, cR, cG_bool, cG_undef, ↓spl_tt, ↓spl_tf, ↓spl_ft, ↓spl_ff, spl_ct, spl_cf, putC, nmC, aop, ev, cv, updL, upd_app, upd_upd, lkE_app, lk_nil, lk_cons, aLen, aBuiltin, aBin, aIntBin, aFieldAddr, placeOf, aLoad, cellsAt, aUn, aIndexAddr, st0, valCells, isOne, Value.oneCell', aStore, setCells, List.getElem?_cons_zero, List.getElem?_cons_succ, Option.getD_some, formOb_nn, aBuild, parts, fillA, placesOf, aField, aIndex, aSlice, optIdx, aStrBin, aMakeSlice, viewCells, viewCell, arrN, frzU, t2, t3, t4, t5, t6, t7, t8, t9, t10, t11, t12, t13, t14, t15, t16, t17, t18, t19, t21, t22, t28, t29, t30, t33, t39, t45, t46, t47, t50, t51, t52, t56, t66, t67, t71, t77, t80, t81, t86, t88, t89, t90, t91, t92, t94, t95, t96, t98, t99, t100, t101, t102, u_bool, wrap64, List.getElem?_eq_getElem]
  repeat' first | (refine ⟨fun _ => ?_, fun _ => ?_⟩) | (refine ⟨by omega, ?_⟩) | (intro _)
  all_goals (refine hK _ ?_; clear hK K)
  all_goals
    refine AW_seq ?_
    refine AW_r rfl rfl fun K hK => ?_
    simp (disch := omega) [creg_nil, creg_op, creg_gd, cO, cR, cG_bool, cG_undef, ↓spl_tt, ↓spl_tf, ↓spl_ft, ↓spl_ff, spl_ct, spl_cf, putC, nmC, aop, ev, cv, updL, upd_app, upd_upd, lkE_app, lk_nil, lk_cons, aLen, aBuiltin, aBin, aIntBin, aFieldAddr, placeOf, aLoad, cellsAt, aUn, aIndexAddr, st0, valCells, isOne, Value.oneCell', aStore, setCells, List.getElem?_cons_zero, List.getElem?_cons_succ, Option.getD_some, formOb_nn, aBuild, parts, fillA, placesOf, aField, aIndex, aSlice, optIdx, aStrBin, aMakeSlice, viewCells, viewCell, arrN, frzU, t2, t3, t4, t5, t6, t7, t8, t9, t10, t11, t12, t13, t14, t15, t16, t17, t18, t19, t21, t22, t28, t29, t30, t33, t39, t45, t46, t47, t50, t51, t52, t56, t66, t67, t71, t77, t80, t81, t86, t88, t89, t90, t91, t92, t94, t95, t96, t98, t99, t100, t101, t102, u_bool, wrap64, List.getElem?_eq_getElem]
    repeat' first | (refine ⟨fun _ => ?_, fun _ => ?_⟩) | (refine ⟨by omega, ?_⟩) | (intro _)
    all_goals (refine hK _ ?_; clear hK K)
    all_goals
      refine AW_cond rfl (fun hc5 => ?_) (fun hc5 => ?_)
      · try simp at hc5
        all_goals
          refine AW_r rfl rfl fun K hK => ?_
          simp (disch := omega) [creg_nil, creg_op, creg_gd, cO, cR, cG_bool, cG_undef, ↓spl_tt, ↓spl_tf, ↓spl_ft, ↓spl_ff, spl_ct, spl_cf, putC, nmC, aop, ev, cv, updL, upd_app, upd_upd, lkE_app, lk_nil, lk_cons, aLen, aBuiltin, aBin, aIntBin, aFieldAddr, placeOf, aLoad, cellsAt, aUn, aIndexAddr, st0, valCells, isOne, Value.oneCell', aStore, setCells, List.getElem?_cons_zero, List.getElem?_cons_succ, Option.getD_some, formOb_nn, aBuild, parts, fillA, placesOf, aField, aIndex, aSlice, optIdx, aStrBin, aMakeSlice, viewCells, viewCell, arrN, frzU, t2, t3, t4, t5, t6, t7, t8, t9, t10, t11, t12, t13, t14, t15, t16, t17, t18, t19, t21, t22, t28, t29, t30, t33, t39, t45, t46, t47, t50, t51, t52, t56, t66, t67, t71, t77, t80, t81, t86, t88, t89, t90, t91, t92, t94, t95, t96, t98, t99, t100, t101, t102, u_bool, wrap64, List.getElem?_eq_getElem]
          repeat' first | (refine ⟨fun _ => ?_, fun _ => ?_⟩) | (refine ⟨by omega, ?_⟩) | (intro _)
          all_goals (refine hK _ ?_; clear hK K)
          all_goals
            refine AW_ret (end_s ?_)
            simp (disch := omega) [creg_nil, creg_op, creg_gd, cO, cR, cG_bool, cG_undef, ↓spl_tt, ↓spl_tf, ↓spl_ft, ↓spl_ff, spl_ct, spl_cf, putC, nmC, aop, ev, cv, updL, upd_app, upd_upd, lkE_app, lk_nil, lk_cons, aLen, aBuiltin, aBin, aIntBin, aFieldAddr, placeOf, aLoad, cellsAt, aUn, aIndexAddr, st0, valCells, isOne, Value.oneCell', aStore, setCells, List.getElem?_cons_zero, List.getElem?_cons_succ, Option.getD_some, formOb_nn, aBuild, parts, fillA, placesOf, aField, aIndex, aSlice, optIdx, aStrBin, aMakeSlice, viewCells, viewCell, arrN, frzU, t2, t3, t4, t5, t6, t7, t8, t9, t10, t11, t12, t13, t14, t15, t16, t17, t18, t19, t21, t22, t28, t29, t30, t33, t39, t45, t46, t47, t50, t51, t52, t56, t66, t67, t71, t77, t80, t81, t86, t88, t89, t90, t91, t92, t94, t95, t96, t98, t99, t100, t101, t102, u_bool, wrap64, List.getElem?_eq_getElem, endR_some, am0_gg, am0_ss, am0_ll, am1_gg, am1_ss, am1_ll, am1_nl, am1_al, am2_gg, am2_ss, am2_ll, am2_nl, am2_al, am2_ff, am1s_nn, am1s_cc, am2s_nn, am2s_cc, amRs_one, amRs_two', amRs_thr, resAll_nil, resAll_tmp, resAll_cell]
            all_goals first | (exact eqB_of heq) | (refine eqB_ne fun heq => ?_; subst heq; simp_all [eqB_true, eqB_false, eqB_self]; done) | (refine (eqB_ne fun heq => ?_).symm; subst heq; simp_all [eqB_true, eqB_false, eqB_self]; done) | simp_all [eqB_self]
      · try simp at hc5
        all_goals
          refine AW_skip ?_
          refine AW_id ?_
          refine AW_seq ?_
          refine AW_r rfl rfl fun K hK => ?_
          simp (disch := omega) [creg_nil, creg_op, creg_gd, cO, cR, cG_bool, cG_undef, ↓spl_tt, ↓spl_tf, ↓spl_ft, ↓spl_ff, spl_ct, spl_cf, putC, nmC, aop, ev, cv, updL, upd_app, upd_upd, lkE_app, lk_nil, lk_cons, aLen, aBuiltin, aBin, aIntBin, aFieldAddr, placeOf, aLoad, cellsAt, aUn, aIndexAddr, st0, valCells, isOne, Value.oneCell', aStore, setCells, List.getElem?_cons_zero, List.getElem?_cons_succ, Option.getD_some, formOb_nn, aBuild, parts, fillA, placesOf, aField, aIndex, aSlice, optIdx, aStrBin, aMakeSlice, viewCells, viewCell, arrN, frzU, t2, t3, t4, t5, t6, t7, t8, t9, t10, t11, t12, t13, t14, t15, t16, t17, t18, t19, t21, t22, t28, t29, t30, t33, t39, t45, t46, t47, t50, t51, t52, t56, t66, t67, t71, t77, t80, t81, t86, t88, t89, t90, t91, t92, t94, t95, t96, t98, t99, t100, t101, t102, u_bool, wrap64, List.getElem?_eq_getElem]
          repeat' first | (refine ⟨fun _ => ?_, fun _ => ?_⟩) | (refine ⟨by omega, ?_⟩) | (intro _)
          all_goals (refine hK _ ?_; clear hK K)
          all_goals
            refine AW_block ?_
            refine AW_loopS (fun m s => ∃ (i : Nat), m = xs.length - i ∧ (i ≤ xs.length ∧ ∀ j, j < i → xs[j]? = ys[j]?) ∧ s = { env := lkE [(0, .sl 1 (xs.map cS)), (1, .sl 1 (ys.map cS)), (5, (.g (.int .i64 ((i : Nat)))))], ob := formOb [] [] }) ?_ ?_
            · refine ⟨_, LeS.kp [(0, .sl 1 (xs.map cS)), (1, .sl 1 (ys.map cS)), (5, (.g (.int .i64 (((0) : Nat)))))] (by simp [KpE, upd_app, lkE_app, lk_cons]; try rfl), _, 0, rfl, ?_, rfl⟩
              · simp
            · rintro m s ⟨i, rfl, ⟨hi, hpre⟩, rfl⟩
              refine AW_seq ?_
              refine AW_r rfl rfl fun K hK => ?_
              simp (disch := omega) [creg_nil, creg_op, creg_gd, cO, cR, cG_bool, cG_undef, ↓spl_tt, ↓spl_tf, ↓spl_ft, ↓spl_ff, spl_ct, spl_cf, putC, nmC, aop, ev, cv, updL, upd_app, upd_upd, lkE_app, lk_nil, lk_cons, aLen, aBuiltin, aBin, aIntBin, aFieldAddr, placeOf, aLoad, cellsAt, aUn, aIndexAddr, st0, valCells, isOne, Value.oneCell', aStore, setCells, List.getElem?_cons_zero, List.getElem?_cons_succ, Option.getD_some, formOb_nn, aBuild, parts, fillA, placesOf, aField, aIndex, aSlice, optIdx, aStrBin, aMakeSlice, viewCells, viewCell, arrN, frzU, t2, t3, t4, t5, t6, t7, t8, t9, t10, t11, t12, t13, t14, t15, t16, t17, t18, t19, t21, t22, t28, t29, t30, t33, t39, t45, t46, t47, t50, t51, t52, t56, t66, t67, t71, t77, t80, t81, t86, t88, t89, t90, t91, t92, t94, t95, t96, t98, t99, t100, t101, t102, u_bool, wrap64, List.getElem?_eq_getElem, cS]
              repeat' first | (refine ⟨fun _ => ?_, fun _ => ?_⟩) | (refine ⟨by omega, ?_⟩) | (intro _)
              all_goals (refine hK _ ?_; clear hK K)
              all_goals
                refine AW_cond rfl (fun hc6 => ?_) (fun hc6 => ?_)
                · try simp at hc6
                  all_goals
                    have h7 : i < ys.length := by omega
                    refine AW_skip ?_
                    refine AW_id ?_
                    refine AW_seq ?_
                    refine AW_block ?_
                    refine AW_q rfl mix (by kernel_rfl) rfl fun K hK => ?_
                    simp (disch := omega) [creg_nil, creg_op, creg_gd, cO, cR, cG_bool, cG_undef, ↓spl_tt, ↓spl_tf, ↓spl_ft, ↓spl_ff, spl_ct, spl_cf, putC, nmC, aop, ev, cv, updL, upd_app, upd_upd, lkE_app, lk_nil, lk_cons, aLen, aBuiltin, aBin, aIntBin, aFieldAddr, placeOf, aLoad, cellsAt, aUn, aIndexAddr, st0, valCells, isOne, Value.oneCell', aStore, setCells, List.getElem?_cons_zero, List.getElem?_cons_succ, Option.getD_some, formOb_nn, aBuild, parts, fillA, placesOf, aField, aIndex, aSlice, optIdx, aStrBin, aMakeSlice, viewCells, viewCell, arrN, frzU, t2, t3, t4, t5, t6, t7, t8, t9, t10, t11, t12, t13, t14, t15, t16, t17, t18, t19, t21, t22, t28, t29, t30, t33, t39, t45, t46, t47, t50, t51, t52, t56, t66, t67, t71, t77, t80, t81, t86, t88, t89, t90, t91, t92, t94, t95, t96, t98, t99, t100, t101, t102, u_bool, wrap64, List.getElem?_eq_getElem, cS]
                    repeat' first | (refine ⟨fun _ => ?_, fun _ => ?_⟩) | (refine ⟨by omega, ?_⟩) | (intro _)
                    all_goals (refine hK _ ?_; clear hK K)
                    all_goals
                      refine AW_cond rfl (fun hc7 => ?_) (fun hc7 => ?_)
                      · try simp at hc7
                        all_goals
                          refine AW_r rfl rfl fun K hK => ?_
                          simp (disch := omega) [creg_nil, creg_op, creg_gd, cO, cR, cG_bool, cG_undef, ↓spl_tt, ↓spl_tf, ↓spl_ft, ↓spl_ff, spl_ct, spl_cf, putC, nmC, aop, ev, cv, updL, upd_app, upd_upd, lkE_app, lk_nil, lk_cons, aLen, aBuiltin, aBin, aIntBin, aFieldAddr, placeOf, aLoad, cellsAt, aUn, aIndexAddr, st0, valCells, isOne, Value.oneCell', aStore, setCells, List.getElem?_cons_zero, List.getElem?_cons_succ, Option.getD_some, formOb_nn, aBuild, parts, fillA, placesOf, aField, aIndex, aSlice, optIdx, aStrBin, aMakeSlice, viewCells, viewCell, arrN, frzU, t2, t3, t4, t5, t6, t7, t8, t9, t10, t11, t12, t13, t14, t15, t16, t17, t18, t19, t21, t22, t28, t29, t30, t33, t39, t45, t46, t47, t50, t51, t52, t56, t66, t67, t71, t77, t80, t81, t86, t88, t89, t90, t91, t92, t94, t95, t96, t98, t99, t100, t101, t102, u_bool, wrap64, List.getElem?_eq_getElem, cS]
                          repeat' first | (refine ⟨fun _ => ?_, fun _ => ?_⟩) | (refine ⟨by omega, ?_⟩) | (intro _)
                          all_goals (refine hK _ ?_; clear hK K)
                          all_goals
                            refine AW_ret (end_s ?_)
                            simp (disch := omega) [creg_nil, creg_op, creg_gd, cO, cR, cG_bool, cG_undef, ↓spl_tt, ↓spl_tf, ↓spl_ft, ↓spl_ff, spl_ct, spl_cf, putC, nmC, aop, ev, cv, updL, upd_app, upd_upd, lkE_app, lk_nil, lk_cons, aLen, aBuiltin, aBin, aIntBin, aFieldAddr, placeOf, aLoad, cellsAt, aUn, aIndexAddr, st0, valCells, isOne, Value.oneCell', aStore, setCells, List.getElem?_cons_zero, List.getElem?_cons_succ, Option.getD_some, formOb_nn, aBuild, parts, fillA, placesOf, aField, aIndex, aSlice, optIdx, aStrBin, aMakeSlice, viewCells, viewCell, arrN, frzU, t2, t3, t4, t5, t6, t7, t8, t9, t10, t11, t12, t13, t14, t15, t16, t17, t18, t19, t21, t22, t28, t29, t30, t33, t39, t45, t46, t47, t50, t51, t52, t56, t66, t67, t71, t77, t80, t81, t86, t88, t89, t90, t91, t92, t94, t95, t96, t98, t99, t100, t101, t102, u_bool, wrap64, List.getElem?_eq_getElem, cS, endR_some, am0_gg, am0_ss, am0_ll, am1_gg, am1_ss, am1_ll, am1_nl, am1_al, am2_gg, am2_ss, am2_ll, am2_nl, am2_al, am2_ff, am1s_nn, am1s_cc, am2s_nn, am2s_cc, amRs_one, amRs_two', amRs_thr, resAll_nil, resAll_tmp, resAll_cell]
                            all_goals first | (exact eqB_of heq) | (refine eqB_ne fun heq => ?_; subst heq; simp_all [eqB_true, eqB_false, eqB_self]; done) | (refine (eqB_ne fun heq => ?_).symm; subst heq; simp_all [eqB_true, eqB_false, eqB_self]; done) | simp_all [eqB_self]
                      · try simp at hc7
                        all_goals
                          refine AW_skip ?_
                          refine AW_id ?_
                          refine AW_re rfl rfl fun K hK => ?_
                          simp (disch := omega) [creg_nil, creg_op, creg_gd, cO, cR, cG_bool, cG_undef, ↓spl_tt, ↓spl_tf, ↓spl_ft, ↓spl_ff, spl_ct, spl_cf, putC, nmC, aop, ev, cv, updL, upd_app, upd_upd, lkE_app, lk_nil, lk_cons, aLen, aBuiltin, aBin, aIntBin, aFieldAddr, placeOf, aLoad, cellsAt, aUn, aIndexAddr, st0, valCells, isOne, Value.oneCell', aStore, setCells, List.getElem?_cons_zero, List.getElem?_cons_succ, Option.getD_some, formOb_nn, aBuild, parts, fillA, placesOf, aField, aIndex, aSlice, optIdx, aStrBin, aMakeSlice, viewCells, viewCell, arrN, frzU, t2, t3, t4, t5, t6, t7, t8, t9, t10, t11, t12, t13, t14, t15, t16, t17, t18, t19, t21, t22, t28, t29, t30, t33, t39, t45, t46, t47, t50, t51, t52, t56, t66, t67, t71, t77, t80, t81, t86, t88, t89, t90, t91, t92, t94, t95, t96, t98, t99, t100, t101, t102, u_bool, wrap64, List.getElem?_eq_getElem, cS]
                          repeat' first | (refine ⟨fun _ => ?_, fun _ => ?_⟩) | (refine ⟨by omega, ?_⟩) | (intro _)
                          all_goals (refine hK _ ?_; clear hK K)
                          all_goals
                            refine ⟨_, LeS.kp [(0, .sl 1 (xs.map cS)), (1, .sl 1 (ys.map cS)), (5, (.g (.int .i64 (((i + 1) : Nat)))))] (by simp [KpE, upd_app, lkE_app, lk_cons]; try rfl), _, ?_, i + 1, rfl, ?_, rfl⟩
                            · omega
                            · refine ⟨by omega, fun j hj => ?_⟩
                              by_cases hji : j = i
                              · subst hji; simp_all [eqB_true, eqB_false]
                              · exact hpre j (by omega)
                · try simp at hc6
                  all_goals
                    have hi2 : i = xs.length := by omega
                    subst hi2
                    have heq : xs = ys := List.ext_getElem? fun j => by
                      by_cases hj : j < xs.length
                      · exact hpre j hj
                      · rw [List.getElem?_eq_none (by omega), List.getElem?_eq_none (by omega)]
                    refine AW_exit ?_
                    refine AW_id ?_
                    refine AW_r rfl rfl fun K hK => ?_
                    simp (disch := omega) [creg_nil, creg_op, creg_gd, cO, cR, cG_bool, cG_undef, ↓spl_tt, ↓spl_tf, ↓spl_ft, ↓spl_ff, spl_ct, spl_cf, putC, nmC, aop, ev, cv, updL, upd_app, upd_upd, lkE_app, lk_nil, lk_cons, aLen, aBuiltin, aBin, aIntBin, aFieldAddr, placeOf, aLoad, cellsAt, aUn, aIndexAddr, st0, valCells, isOne, Value.oneCell', aStore, setCells, List.getElem?_cons_zero, List.getElem?_cons_succ, Option.getD_some, formOb_nn, aBuild, parts, fillA, placesOf, aField, aIndex, aSlice, optIdx, aStrBin, aMakeSlice, viewCells, viewCell, arrN, frzU, t2, t3, t4, t5, t6, t7, t8, t9, t10, t11, t12, t13, t14, t15, t16, t17, t18, t19, t21, t22, t28, t29, t30, t33, t39, t45, t46, t47, t50, t51, t52, t56, t66, t67, t71, t77, t80, t81, t86, t88, t89, t90, t91, t92, t94, t95, t96, t98, t99, t100, t101, t102, u_bool, wrap64, List.getElem?_eq_getElem, cS]
                    repeat' first | (refine ⟨fun _ => ?_, fun _ => ?_⟩) | (refine ⟨by omega, ?_⟩) | (intro _)
                    all_goals (refine hK _ ?_; clear hK K)
                    all_goals
                      refine AW_ret (end_s ?_)
                      simp (disch := omega) [creg_nil, creg_op, creg_gd, cO, cR, cG_bool, cG_undef, ↓spl_tt, ↓spl_tf, ↓spl_ft, ↓spl_ff, spl_ct, spl_cf, putC, nmC, aop, ev, cv, updL, upd_app, upd_upd, lkE_app, lk_nil, lk_cons, aLen, aBuiltin, aBin, aIntBin, aFieldAddr, placeOf, aLoad, cellsAt, aUn, aIndexAddr, st0, valCells, isOne, Value.oneCell', aStore, setCells, List.getElem?_cons_zero, List.getElem?_cons_succ, Option.getD_some, formOb_nn, aBuild, parts, fillA, placesOf, aField, aIndex, aSlice, optIdx, aStrBin, aMakeSlice, viewCells, viewCell, arrN, frzU, t2, t3, t4, t5, t6, t7, t8, t9, t10, t11, t12, t13, t14, t15, t16, t17, t18, t19, t21, t22, t28, t29, t30, t33, t39, t45, t46, t47, t50, t51, t52, t56, t66, t67, t71, t77, t80, t81, t86, t88, t89, t90, t91, t92, t94, t95, t96, t98, t99, t100, t101, t102, u_bool, wrap64, List.getElem?_eq_getElem, cS, endR_some, am0_gg, am0_ss, am0_ll, am1_gg, am1_ss, am1_ll, am1_nl, am1_al, am2_gg, am2_ss, am2_ll, am2_nl, am2_al, am2_ff, am1s_nn, am1s_cc, am2s_nn, am2s_cc, amRs_one, amRs_two', amRs_thr, resAll_nil, resAll_tmp, resAll_cell]
                      all_goals first | (exact eqB_of heq) | (refine eqB_ne fun heq => ?_; subst heq; simp_all [eqB_true, eqB_false, eqB_self]; done) | (refine (eqB_ne fun heq => ?_).symm; subst heq; simp_all [eqB_true, eqB_false, eqB_self]; done) | simp_all [eqB_self]
theorem szIntS (xs : List Int) (n : Int) (hn : 0 ≤ n ∧ n ≤ 1048576) (hw : (wfS wfI) xs) : PCall Try.prog 66 [.sl 1 (xs.map cI), (.g (.int .i64 (n)))] (.g (.int .i64 (szR n xs.length))) := by
  have hw1 := hw.1
  refine gcall_of_walk Try.func66 (by rfl) (by rfl) (by rw [Try.ntmps66]; exact Nat.le_of_ble_eq_true rfl) rfl (by decide) ?_
  rw [Try.ntmps66]
  refine AW_k [(0, _), (1, _)] ⟨rfl, rfl, trivial⟩ ?_
  refine AW_r rfl rfl fun K hK => ?_
  simp (disch := omega) [creg_nil, creg_op, creg_gd, cO, cR, cG_bool, cG_undef, ↓spl_tt, ↓spl_tf, ↓spl_ft, ↓spl_ff, spl_ct, spl_cf, putC, nmC, aop, ev, cv, updL, upd_app, upd_upd, lkE_app, lk_nil, lk_cons, aLen, aBuiltin, aBin, aIntBin, aFieldAddr, placeOf, aLoad, cellsAt, aUn, aIndexAddr, st0, valCells, isOne, Value.oneCell', aStore, setCells, List.getElem?_cons_zero, List.getElem?_cons_succ, Option.getD_some, formOb_nn, aBuild, parts, fillA, placesOf, aField, aIndex, aSlice, optIdx, aStrBin, aMakeSlice, viewCells, viewCell, arrN, frzU, t2, t3, t4, t5, t6, t7, t8, t9, t10, t11, t12, t13, t14, t15, t16, t17, t18, t19, t21, t22, t28, t29, t30, t33, t39, t45, t46, t47, t50, t51, t52, t56, t66, t67, t71, t77, t80, t81, t86, t88, t89, t90, t91, t92, t94, t95, t96, t98, t99, t100, t101, t102, u_bool, wrap64, List.getElem?_eq_getElem, szR]
  repeat' first | (refine ⟨fun _ => ?_, fun _ => ?_⟩) | (refine ⟨by omega, ?_⟩) | (intro _)
  all_goals (refine hK _ ?_; clear hK K)
  all_goals
    refine AW_r rfl rfl fun K hK => ?_
    simp (disch := omega) [creg_nil, creg_op, creg_gd, cO, cR, cG_bool, cG_undef, ↓spl_tt, ↓spl_tf, ↓spl_ft, ↓spl_ff, spl_ct, spl_cf, putC, nmC, aop, ev, cv, updL, upd_app, upd_upd, lkE_app, lk_nil, lk_cons, aLen, aBuiltin, aBin, aIntBin, aFieldAddr, placeOf, aLoad, cellsAt, aUn, aIndexAddr, st0, valCells, isOne, Value.oneCell', aStore, setCells, List.getElem?_cons_zero, List.getElem?_cons_succ, Option.getD_some, formOb_nn, aBuild, parts, fillA, placesOf, aField, aIndex, aSlice, optIdx, aStrBin, aMakeSlice, viewCells, viewCell, arrN, frzU, t2, t3, t4, t5, t6, t7, t8, t9, t10, t11, t12, t13, t14, t15, t16, t17, t18, t19, t21, t22, t28, t29, t30, t33, t39, t45, t46, t47, t50, t51, t52, t56, t66, t67, t71, t77, t80, t81, t86, t88, t89, t90, t91, t92, t94, t95, t96, t98, t99, t100, t101, t102, u_bool, wrap64, List.getElem?_eq_getElem, szR]
    repeat' first | (refine ⟨fun _ => ?_, fun _ => ?_⟩) | (refine ⟨by omega, ?_⟩) | (intro _)
    all_goals (refine hK _ ?_; clear hK K)
    all_goals
      refine AW_seq ?_
      refine AW_r rfl rfl fun K hK => ?_
      simp (disch := omega) [creg_nil, creg_op, creg_gd, cO, cR, cG_bool, cG_undef, ↓spl_tt, ↓spl_tf, ↓spl_ft, ↓spl_ff, spl_ct, spl_cf, putC, nmC, aop, ev, cv, updL, upd_app, upd_upd, lkE_app, lk_nil, lk_cons, aLen, aBuiltin, aBin, aIntBin, aFieldAddr, placeOf, aLoad, cellsAt, aUn, aIndexAddr, st0, valCells, isOne, Value.oneCell', aStore, setCells, List.getElem?_cons_zero, List.getElem?_cons_succ, Option.getD_some, formOb_nn, aBuild, parts, fillA, placesOf, aField, aIndex, aSlice, optIdx, aStrBin, aMakeSlice, viewCells, viewCell, arrN, frzU, t2, t3, t4, t5, t6, t7, t8, t9, t10, t11, t12, t13, t14, t15, t16, t17, t18, t19, t21, t22, t28, t29, t30, t33, t39, t45, t46, t47, t50, t51, t52, t56, t66, t67, t71, t77, t80, t81, t86, t88, t89, t90, t91, t92, t94, t95, t96, t98, t99, t100, t101, t102, u_bool, wrap64, List.getElem?_eq_getElem, szR]
      repeat' first | (refine ⟨fun _ => ?_, fun _ => ?_⟩) | (refine ⟨by omega, ?_⟩) | (intro _)
      all_goals (refine hK _ ?_; clear hK K)
      all_goals
        refine AW_cond rfl (fun hc8 => ?_) (fun hc8 => ?_)
        · try simp at hc8
          all_goals
            refine AW_r rfl rfl fun K hK => ?_
            simp (disch := omega) [creg_nil, creg_op, creg_gd, cO, cR, cG_bool, cG_undef, ↓spl_tt, ↓spl_tf, ↓spl_ft, ↓spl_ff, spl_ct, spl_cf, putC, nmC, aop, ev, cv, updL, upd_app, upd_upd, lkE_app, lk_nil, lk_cons, aLen, aBuiltin, aBin, aIntBin, aFieldAddr, placeOf, aLoad, cellsAt, aUn, aIndexAddr, st0, valCells, isOne, Value.oneCell', aStore, setCells, List.getElem?_cons_zero, List.getElem?_cons_succ, Option.getD_some, formOb_nn, aBuild, parts, fillA, placesOf, aField, aIndex, aSlice, optIdx, aStrBin, aMakeSlice, viewCells, viewCell, arrN, frzU, t2, t3, t4, t5, t6, t7, t8, t9, t10, t11, t12, t13, t14, t15, t16, t17, t18, t19, t21, t22, t28, t29, t30, t33, t39, t45, t46, t47, t50, t51, t52, t56, t66, t67, t71, t77, t80, t81, t86, t88, t89, t90, t91, t92, t94, t95, t96, t98, t99, t100, t101, t102, u_bool, wrap64, List.getElem?_eq_getElem, szR]
            repeat' first | (refine ⟨fun _ => ?_, fun _ => ?_⟩) | (refine ⟨by omega, ?_⟩) | (intro _)
            all_goals (refine hK _ ?_; clear hK K)
            all_goals
              refine AW_ret (end_s ?_)
              simp (disch := omega) [creg_nil, creg_op, creg_gd, cO, cR, cG_bool, cG_undef, ↓spl_tt, ↓spl_tf, ↓spl_ft, ↓spl_ff, spl_ct, spl_cf, putC, nmC, aop, ev, cv, updL, upd_app, upd_upd, lkE_app, lk_nil, lk_cons, aLen, aBuiltin, aBin, aIntBin, aFieldAddr, placeOf, aLoad, cellsAt, aUn, aIndexAddr, st0, valCells, isOne, Value.oneCell', aStore, setCells, List.getElem?_cons_zero, List.getElem?_cons_succ, Option.getD_some, formOb_nn, aBuild, parts, fillA, placesOf, aField, aIndex, aSlice, optIdx, aStrBin, aMakeSlice, viewCells, viewCell, arrN, frzU, t2, t3, t4, t5, t6, t7, t8, t9, t10, t11, t12, t13, t14, t15, t16, t17, t18, t19, t21, t22, t28, t29, t30, t33, t39, t45, t46, t47, t50, t51, t52, t56, t66, t67, t71, t77, t80, t81, t86, t88, t89, t90, t91, t92, t94, t95, t96, t98, t99, t100, t101, t102, u_bool, wrap64, List.getElem?_eq_getElem, szR, endR_some, am0_gg, am0_ss, am0_ll, am1_gg, am1_ss, am1_ll, am1_nl, am1_al, am2_gg, am2_ss, am2_ll, am2_nl, am2_al, am2_ff, am1s_nn, am1s_cc, am2s_nn, am2s_cc, amRs_one, amRs_two', amRs_thr, resAll_nil, resAll_tmp, resAll_cell]
              all_goals first | omega | (simp_all; done) | (simp [List.take_of_length_le]; done) | ((try simp_all); (try simp (disch := omega) only [wrap64, Int.tdiv_eq_ediv_of_nonneg, Int.tmod_eq_emod_of_nonneg, and_true, true_and]); done) | ((try simp_all); (try simp (disch := omega) only [wrap64, Int.tdiv_eq_ediv_of_nonneg, Int.tmod_eq_emod_of_nonneg, and_true, true_and] at *); omega)
        · try simp at hc8
          all_goals
            refine AW_skip ?_
            refine AW_id ?_
            refine AW_r rfl rfl fun K hK => ?_
            simp (disch := omega) [creg_nil, creg_op, creg_gd, cO, cR, cG_bool, cG_undef, ↓spl_tt, ↓spl_tf, ↓spl_ft, ↓spl_ff, spl_ct, spl_cf, putC, nmC, aop, ev, cv, updL, upd_app, upd_upd, lkE_app, lk_nil, lk_cons, aLen, aBuiltin, aBin, aIntBin, aFieldAddr, placeOf, aLoad, cellsAt, aUn, aIndexAddr, st0, valCells, isOne, Value.oneCell', aStore, setCells, List.getElem?_cons_zero, List.getElem?_cons_succ, Option.getD_some, formOb_nn, aBuild, parts, fillA, placesOf, aField, aIndex, aSlice, optIdx, aStrBin, aMakeSlice, viewCells, viewCell, arrN, frzU, t2, t3, t4, t5, t6, t7, t8, t9, t10, t11, t12, t13, t14, t15, t16, t17, t18, t19, t21, t22, t28, t29, t30, t33, t39, t45, t46, t47, t50, t51, t52, t56, t66, t67, t71, t77, t80, t81, t86, t88, t89, t90, t91, t92, t94, t95, t96, t98, t99, t100, t101, t102, u_bool, wrap64, List.getElem?_eq_getElem, szR]
            repeat' first | (refine ⟨fun _ => ?_, fun _ => ?_⟩) | (refine ⟨by omega, ?_⟩) | (intro _)
            all_goals (refine hK _ ?_; clear hK K)
            all_goals
              refine AW_ret (end_s ?_)
              simp (disch := omega) [creg_nil, creg_op, creg_gd, cO, cR, cG_bool, cG_undef, ↓spl_tt, ↓spl_tf, ↓spl_ft, ↓spl_ff, spl_ct, spl_cf, putC, nmC, aop, ev, cv, updL, upd_app, upd_upd, lkE_app, lk_nil, lk_cons, aLen, aBuiltin, aBin, aIntBin, aFieldAddr, placeOf, aLoad, cellsAt, aUn, aIndexAddr, st0, valCells, isOne, Value.oneCell', aStore, setCells, List.getElem?_cons_zero, List.getElem?_cons_succ, Option.getD_some, formOb_nn, aBuild, parts, fillA, placesOf, aField, aIndex, aSlice, optIdx, aStrBin, aMakeSlice, viewCells, viewCell, arrN, frzU, t2, t3, t4, t5, t6, t7, t8, t9, t10, t11, t12, t13, t14, t15, t16, t17, t18, t19, t21, t22, t28, t29, t30, t33, t39, t45, t46, t47, t50, t51, t52, t56, t66, t67, t71, t77, t80, t81, t86, t88, t89, t90, t91, t92, t94, t95, t96, t98, t99, t100, t101, t102, u_bool, wrap64, List.getElem?_eq_getElem, szR, endR_some, am0_gg, am0_ss, am0_ll, am1_gg, am1_ss, am1_ll, am1_nl, am1_al, am2_gg, am2_ss, am2_ll, am2_nl, am2_al, am2_ff, am1s_nn, am1s_cc, am2s_nn, am2s_cc, amRs_one, amRs_two', amRs_thr, resAll_nil, resAll_tmp, resAll_cell]
              all_goals first | omega | (simp_all; done) | (simp [List.take_of_length_le]; done) | ((try simp_all); (try simp (disch := omega) only [wrap64, Int.tdiv_eq_ediv_of_nonneg, Int.tmod_eq_emod_of_nonneg, and_true, true_and]); done) | ((try simp_all); (try simp (disch := omega) only [wrap64, Int.tdiv_eq_ediv_of_nonneg, Int.tmod_eq_emod_of_nonneg, and_true, true_and] at *); omega)
theorem toIntS (xs : List Int) (hs : (xs.length : Int) ≤ 1048576) : PCall Try.prog 17 [.sl 1 (xs.map cI)] (.sl 1 (xs.map cI)) := by
  have hn : xs.length ≤ 1048576 := by omega
  refine gcall_of_walk Try.func17 (by rfl) (by rfl) (by rw [Try.ntmps17]; exact Nat.le_of_ble_eq_true rfl) rfl (by decide) ?_
  rw [Try.ntmps17]
  refine AW_k [(0, _)] ⟨rfl, trivial⟩ ?_
  refine AW_r rfl rfl fun K hK => ?_
  simp (disch := omega) [creg_nil, creg_op, creg_gd, cO, cR, cG_bool, cG_undef, ↓spl_tt, ↓spl_tf, ↓spl_ft, ↓spl_ff, spl_ct, spl_cf, putC, nmC, aop, ev, cv, updL, upd_app, upd_upd, lkE_app, lk_nil, lk_cons, aLen, aBuiltin, aBin, aIntBin, aFieldAddr, placeOf, aLoad, cellsAt, aUn, aIndexAddr, st0, valCells, isOne, Value.oneCell', aStore, setCells, List.getElem?_cons_zero, List.getElem?_cons_succ, Option.getD_some, formOb_nn, aBuild, parts, fillA, placesOf, aField, aIndex, aSlice, optIdx, aStrBin, aMakeSlice, viewCells, viewCell, arrN, frzU, t2, t3, t4, t5, t6, t7, t8, t9, t10, t11, t12, t13, t14, t15, t16, t17, t18, t19, t21, t22, t28, t29, t30, t33, t39, t45, t46, t47, t50, t51, t52, t56, t66, t67, t71, t77, t80, t81, t86, t88, t89, t90, t91, t92, t94, t95, t96, t98, t99, t100, t101, t102, u_bool, wrap64, List.getElem?_eq_getElem]
  repeat' first | (refine ⟨fun _ => ?_, fun _ => ?_⟩) | (refine ⟨by omega, ?_⟩) | (intro _)
  all_goals (refine hK _ ?_; clear hK K)
  all_goals
    refine AW_r rfl rfl fun K hK => ?_
    simp (disch := omega) [creg_nil, creg_op, creg_gd, cO, cR, cG_bool, cG_undef, ↓spl_tt, ↓spl_tf, ↓spl_ft, ↓spl_ff, spl_ct, spl_cf, putC, nmC, aop, ev, cv, updL, upd_app, upd_upd, lkE_app, lk_nil, lk_cons, aLen, aBuiltin, aBin, aIntBin, aFieldAddr, placeOf, aLoad, cellsAt, aUn, aIndexAddr, st0, valCells, isOne, Value.oneCell', aStore, setCells, List.getElem?_cons_zero, List.getElem?_cons_succ, Option.getD_some, formOb_nn, aBuild, parts, fillA, placesOf, aField, aIndex, aSlice, optIdx, aStrBin, aMakeSlice, viewCells, viewCell, arrN, frzU, t2, t3, t4, t5, t6, t7, t8, t9, t10, t11, t12, t13, t14, t15, t16, t17, t18, t19, t21, t22, t28, t29, t30, t33, t39, t45, t46, t47, t50, t51, t52, t56, t66, t67, t71, t77, t80, t81, t86, t88, t89, t90, t91, t92, t94, t95, t96, t98, t99, t100, t101, t102, u_bool, wrap64, List.getElem?_eq_getElem]
    repeat' first | (refine ⟨fun _ => ?_, fun _ => ?_⟩) | (refine ⟨by omega, ?_⟩) | (intro _)
    all_goals (refine hK _ ?_; clear hK K)
    all_goals
      refine AW_seq ?_
      refine AW_r rfl rfl fun K hK => ?_
      simp (disch := omega) [creg_nil, creg_op, creg_gd, cO, cR, cG_bool, cG_undef, ↓spl_tt, ↓spl_tf, ↓spl_ft, ↓spl_ff, spl_ct, spl_cf, putC, nmC, aop, ev, cv, updL, upd_app, upd_upd, lkE_app, lk_nil, lk_cons, aLen, aBuiltin, aBin, aIntBin, aFieldAddr, placeOf, aLoad, cellsAt, aUn, aIndexAddr, st0, valCells, isOne, Value.oneCell', aStore, setCells, List.getElem?_cons_zero, List.getElem?_cons_succ, Option.getD_some, formOb_nn, aBuild, parts, fillA, placesOf, aField, aIndex, aSlice, optIdx, aStrBin, aMakeSlice, viewCells, viewCell, arrN, frzU, t2, t3, t4, t5, t6, t7, t8, t9, t10, t11, t12, t13, t14, t15, t16, t17, t18, t19, t21, t22, t28, t29, t30, t33, t39, t45, t46, t47, t50, t51, t52, t56, t66, t67, t71, t77, t80, t81, t86, t88, t89, t90, t91, t92, t94, t95, t96, t98, t99, t100, t101, t102, u_bool, wrap64, List.getElem?_eq_getElem]
      repeat' first | (refine ⟨fun _ => ?_, fun _ => ?_⟩) | (refine ⟨by omega, ?_⟩) | (intro _)
      all_goals (refine hK _ ?_; clear hK K)
      all_goals
        refine AW_block ?_
        refine AW_loopS (fun m s => ∃ (i : Nat) (ys : List (List AV)), m = xs.length - i ∧ (i ≤ xs.length ∧ ys.length = xs.length ∧ (∀ j, j < i → ys[j]? = (xs.map cI)[j]?) ∧ (∀ y ∈ ys, y.length = 1)) ∧ s = { env := lkE [(0, .sl 1 (xs.map cI)), (3, .arr 128 0 xs.length), (4, (.g (.int .i64 ((i : Nat)))))], ob := upd (formOb [] []) 128 (some (.flat 1 ys)) }) ?_ ?_
        · refine ⟨_, LeS.kp [(0, .sl 1 (xs.map cI)), (3, .arr 128 0 xs.length), (4, (.g (.int .i64 (((0) : Nat)))))] (by simp [KpE, upd_app, lkE_app, lk_cons]; try rfl), _, 0, List.replicate xs.length [.g (.int .i64 0)], rfl, ?_, rfl⟩
          · simp
        · rintro m s ⟨i, ys, rfl, ⟨hi, hl, hpre, hone⟩, rfl⟩
          refine AW_seq ?_
          refine AW_r rfl rfl fun K hK => ?_
          simp (disch := omega) [creg_nil, creg_op, creg_gd, cO, cR, cG_bool, cG_undef, ↓spl_tt, ↓spl_tf, ↓spl_ft, ↓spl_ff, spl_ct, spl_cf, putC, nmC, aop, ev, cv, updL, upd_app, upd_upd, lkE_app, lk_nil, lk_cons, aLen, aBuiltin, aBin, aIntBin, aFieldAddr, placeOf, aLoad, cellsAt, aUn, aIndexAddr, st0, valCells, isOne, Value.oneCell', aStore, setCells, List.getElem?_cons_zero, List.getElem?_cons_succ, Option.getD_some, formOb_nn, aBuild, parts, fillA, placesOf, aField, aIndex, aSlice, optIdx, aStrBin, aMakeSlice, viewCells, viewCell, arrN, frzU, t2, t3, t4, t5, t6, t7, t8, t9, t10, t11, t12, t13, t14, t15, t16, t17, t18, t19, t21, t22, t28, t29, t30, t33, t39, t45, t46, t47, t50, t51, t52, t56, t66, t67, t71, t77, t80, t81, t86, t88, t89, t90, t91, t92, t94, t95, t96, t98, t99, t100, t101, t102, u_bool, wrap64, List.getElem?_eq_getElem, cI]
          repeat' first | (refine ⟨fun _ => ?_, fun _ => ?_⟩) | (refine ⟨by omega, ?_⟩) | (intro _)
          all_goals (refine hK _ ?_; clear hK K)
          all_goals
            refine AW_cond rfl (fun hc9 => ?_) (fun hc9 => ?_)
            · try simp at hc9
              all_goals
                obtain ⟨c1, h6⟩ : ∃ c1, ys[i]'(by omega) = [c1] := List.length_eq_one_iff.1 (hone _ (List.getElem_mem _))
                refine AW_skip ?_
                refine AW_id ?_
                refine AW_seq ?_
                refine AW_block ?_
                refine AW_re rfl rfl fun K hK => ?_
                simp (disch := omega) [creg_nil, creg_op, creg_gd, cO, cR, cG_bool, cG_undef, ↓spl_tt, ↓spl_tf, ↓spl_ft, ↓spl_ff, spl_ct, spl_cf, putC, nmC, aop, ev, cv, updL, upd_app, upd_upd, lkE_app, lk_nil, lk_cons, aLen, aBuiltin, aBin, aIntBin, aFieldAddr, placeOf, aLoad, cellsAt, aUn, aIndexAddr, st0, valCells, isOne, Value.oneCell', aStore, setCells, List.getElem?_cons_zero, List.getElem?_cons_succ, Option.getD_some, formOb_nn, aBuild, parts, fillA, placesOf, aField, aIndex, aSlice, optIdx, aStrBin, aMakeSlice, viewCells, viewCell, arrN, frzU, t2, t3, t4, t5, t6, t7, t8, t9, t10, t11, t12, t13, t14, t15, t16, t17, t18, t19, t21, t22, t28, t29, t30, t33, t39, t45, t46, t47, t50, t51, t52, t56, t66, t67, t71, t77, t80, t81, t86, t88, t89, t90, t91, t92, t94, t95, t96, t98, t99, t100, t101, t102, u_bool, wrap64, List.getElem?_eq_getElem, cI, h6]
                repeat' first | (refine ⟨fun _ => ?_, fun _ => ?_⟩) | (refine ⟨by omega, ?_⟩) | (intro _)
                all_goals (refine hK _ ?_; clear hK K)
                all_goals
                  refine AW_id ?_
                  refine AW_re rfl rfl fun K hK => ?_
                  simp (disch := omega) [creg_nil, creg_op, creg_gd, cO, cR, cG_bool, cG_undef, ↓spl_tt, ↓spl_tf, ↓spl_ft, ↓spl_ff, spl_ct, spl_cf, putC, nmC, aop, ev, cv, updL, upd_app, upd_upd, lkE_app, lk_nil, lk_cons, aLen, aBuiltin, aBin, aIntBin, aFieldAddr, placeOf, aLoad, cellsAt, aUn, aIndexAddr, st0, valCells, isOne, Value.oneCell', aStore, setCells, List.getElem?_cons_zero, List.getElem?_cons_succ, Option.getD_some, formOb_nn, aBuild, parts, fillA, placesOf, aField, aIndex, aSlice, optIdx, aStrBin, aMakeSlice, viewCells, viewCell, arrN, frzU, t2, t3, t4, t5, t6, t7, t8, t9, t10, t11, t12, t13, t14, t15, t16, t17, t18, t19, t21, t22, t28, t29, t30, t33, t39, t45, t46, t47, t50, t51, t52, t56, t66, t67, t71, t77, t80, t81, t86, t88, t89, t90, t91, t92, t94, t95, t96, t98, t99, t100, t101, t102, u_bool, wrap64, List.getElem?_eq_getElem, cI, h6]
                  repeat' first | (refine ⟨fun _ => ?_, fun _ => ?_⟩) | (refine ⟨by omega, ?_⟩) | (intro _)
                  all_goals (refine hK _ ?_; clear hK K)
                  all_goals
                    refine ⟨_, LeS.kp [(0, .sl 1 (xs.map cI)), (3, .arr 128 0 xs.length), (4, (.g (.int .i64 (((i + 1) : Nat)))))] (by simp [KpE, upd_app, lkE_app, lk_cons]; try rfl), _, ?_, i + 1, ys.set i (cI xs[i]), rfl, ?_, ?_⟩
                    · omega
                    · refine ⟨by omega, by simpa using hl, fun j hj => ?_, fun y hy => ?_⟩
                      · by_cases hji : j = i
                        · subst hji; rw [List.getElem?_set_self (by omega), List.getElem?_map, List.getElem?_eq_getElem (by omega)]; rfl
                        · rw [List.getElem?_set_ne (by omega)]; exact hpre j (by omega)
                      · rcases List.mem_or_eq_of_mem_set hy with hy | rfl
                        · exact hone y hy
                        · rfl
                    · simp [cI]
            · try simp at hc9
              all_goals
                have hi2 : i = xs.length := by omega
                subst hi2
                have hys : ys = xs.map cI := List.ext_getElem? fun j => by
                  by_cases hj : j < xs.length
                  · exact hpre j hj
                  · rw [List.getElem?_eq_none (by omega), List.getElem?_eq_none (by simp; omega)]
                subst hys
                refine AW_exit ?_
                refine AW_id ?_
                refine AW_r rfl rfl fun K hK => ?_
                simp (disch := omega) [creg_nil, creg_op, creg_gd, cO, cR, cG_bool, cG_undef, ↓spl_tt, ↓spl_tf, ↓spl_ft, ↓spl_ff, spl_ct, spl_cf, putC, nmC, aop, ev, cv, updL, upd_app, upd_upd, lkE_app, lk_nil, lk_cons, aLen, aBuiltin, aBin, aIntBin, aFieldAddr, placeOf, aLoad, cellsAt, aUn, aIndexAddr, st0, valCells, isOne, Value.oneCell', aStore, setCells, List.getElem?_cons_zero, List.getElem?_cons_succ, Option.getD_some, formOb_nn, aBuild, parts, fillA, placesOf, aField, aIndex, aSlice, optIdx, aStrBin, aMakeSlice, viewCells, viewCell, arrN, frzU, t2, t3, t4, t5, t6, t7, t8, t9, t10, t11, t12, t13, t14, t15, t16, t17, t18, t19, t21, t22, t28, t29, t30, t33, t39, t45, t46, t47, t50, t51, t52, t56, t66, t67, t71, t77, t80, t81, t86, t88, t89, t90, t91, t92, t94, t95, t96, t98, t99, t100, t101, t102, u_bool, wrap64, List.getElem?_eq_getElem, cI]
                repeat' first | (refine ⟨fun _ => ?_, fun _ => ?_⟩) | (refine ⟨by omega, ?_⟩) | (intro _)
                all_goals (refine hK _ ?_; clear hK K)
                all_goals
                  refine AW_ret (end_s ?_)
                  simp (disch := omega) [creg_nil, creg_op, creg_gd, cO, cR, cG_bool, cG_undef, ↓spl_tt, ↓spl_tf, ↓spl_ft, ↓spl_ff, spl_ct, spl_cf, putC, nmC, aop, ev, cv, updL, upd_app, upd_upd, lkE_app, lk_nil, lk_cons, aLen, aBuiltin, aBin, aIntBin, aFieldAddr, placeOf, aLoad, cellsAt, aUn, aIndexAddr, st0, valCells, isOne, Value.oneCell', aStore, setCells, List.getElem?_cons_zero, List.getElem?_cons_succ, Option.getD_some, formOb_nn, aBuild, parts, fillA, placesOf, aField, aIndex, aSlice, optIdx, aStrBin, aMakeSlice, viewCells, viewCell, arrN, frzU, t2, t3, t4, t5, t6, t7, t8, t9, t10, t11, t12, t13, t14, t15, t16, t17, t18, t19, t21, t22, t28, t29, t30, t33, t39, t45, t46, t47, t50, t51, t52, t56, t66, t67, t71, t77, t80, t81, t86, t88, t89, t90, t91, t92, t94, t95, t96, t98, t99, t100, t101, t102, u_bool, wrap64, List.getElem?_eq_getElem, cI, endR_some, am0_gg, am0_ss, am0_ll, am1_gg, am1_ss, am1_ll, am1_nl, am1_al, am2_gg, am2_ss, am2_ll, am2_nl, am2_al, am2_ff, am1s_nn, am1s_cc, am2s_nn, am2s_cc, amRs_one, amRs_two', amRs_thr, resAll_nil, resAll_tmp, resAll_cell]
                  all_goals first | omega | (simp_all; done) | (simp [List.take_of_length_le]; done) | ((try simp_all); (try simp (disch := omega) only [wrap64, Int.tdiv_eq_ediv_of_nonneg, Int.tmod_eq_emod_of_nonneg, and_true, true_and]); done) | ((try simp_all); (try simp (disch := omega) only [wrap64, Int.tdiv_eq_ediv_of_nonneg, Int.tmod_eq_emod_of_nonneg, and_true, true_and] at *); omega)
theorem eqIntS (xs ys : List Int) (hs : (xs.length : Int) ≤ 1048576) : PCall Try.prog 20 [.sl 1 (xs.map cI), .sl 1 (ys.map cI)] (.g (.bool (eqB xs ys))) := by
  have hn : xs.length ≤ 1048576 := by omega
  refine gcall_of_walk Try.func20 (by rfl) (by rfl) (by rw [Try.ntmps20]; exact Nat.le_of_ble_eq_true rfl) rfl (by decide) ?_
  rw [Try.ntmps20]
  refine AW_k [(0, _), (1, _)] ⟨rfl, rfl, trivial⟩ ?_
  refine AW_r rfl rfl fun K hK => ?_
  simp (disch := omega) [creg_nil, creg_op, creg_gd, cO, cR, cG_bool, cG_undef, ↓spl_tt, ↓spl_tf, ↓spl_ft, ↓spl_ff, spl_ct, spl_cf, putC, nmC, aop, ev, cv, updL, upd_app, upd_upd, lkE_app, lk_nil, lk_cons, aLen, aBuiltin, aBin, aIntBin, aFieldAddr, placeOf, aLoad, cellsAt, aUn, aIndexAddr, st0, valCells, isOne, Value.oneCell', aStore, setCells, List.getElem?_cons_zero, List.getElem?_cons_succ, Option.getD_some, formOb_nn, aBuild, parts, fillA, placesOf, aField, aIndex, aSlice, optIdx, aStrBin, aMakeSlice, viewCells, viewCell, arrN, frzU, t2, t3, t4, t5, t6, t7, t8, t9, t10, t11, t12, t13, t14, t15, t16, t17, t18, t19, t21, t22, t28, t29, t30, t33, t39, t45, t46, t47, t50, t51, t52, t56, t66, t67, t71, t77, t80, t81, t86, t88, t89, t90, t91, t92, t94, t95, t96, t98, t99, t100, t101, t102, u_bool, wrap64, List.getElem?_eq_getElem]
  repeat' first | (refine ⟨fun _ => ?_, fun _ => ?_⟩) | (refine ⟨by omega, ?_⟩) | (intro _)
  all_goals (refine hK _ ?_; clear hK K)
  all_goals
    refine AW_seq ?_
    refine AW_r rfl rfl fun K hK => ?_
    simp (disch := omega) [creg_nil, creg_op, creg_gd, cO, cR, cG_bool, cG_undef, ↓spl_tt, ↓spl_tf, ↓spl_ft, ↓spl_ff, spl_ct, spl_cf, putC, nmC, aop, ev, cv, updL, upd_app, upd_upd, lkE_app, lk_nil, lk_cons, aLen, aBuiltin, aBin, aIntBin, aFieldAddr, placeOf, aLoad, cellsAt, aUn, aIndexAddr, st0, valCells, isOne, Value.oneCell', aStore, setCells, List.getElem?_cons_zero, List.getElem?_cons_succ, Option.getD_some, formOb_nn, aBuild, parts, fillA, placesOf, aField, aIndex, aSlice, optIdx, aStrBin, aMakeSlice, viewCells, viewCell, arrN, frzU, t2, t3, t4, t5, t6, t7, t8, t9, t10, t11, t12, t13, t14, t15, t16, t17, t18, t19, t21, t22, t28, t29, t30, t33, t39, t45, t46, t47, t50, t51, t52, t56, t66, t67, t71, t77, t80, t81, t86, t88, t89, t90, t91, t92, t94, t95, t96, t98, t99, t100, t101, t102, u_bool, wrap64, List.getElem?_eq_getElem]
    repeat' first | (refine ⟨fun _ => ?_, fun _ => ?_⟩) | (refine ⟨by omega, ?_⟩) | (intro _)
    all_goals (refine hK _ ?_; clear hK K)
    all_goals
      refine AW_cond rfl (fun hc10 => ?_) (fun hc10 => ?_)
      · try simp at hc10
        all_goals
          refine AW_r rfl rfl fun K hK => ?_
          simp (disch := omega) [creg_nil, creg_op, creg_gd, cO, cR, cG_bool, cG_undef, ↓spl_tt, ↓spl_tf, ↓spl_ft, ↓spl_ff, spl_ct, spl_cf, putC, nmC, aop, ev, cv, updL, upd_app, upd_upd, lkE_app, lk_nil, lk_cons, aLen, aBuiltin, aBin, aIntBin, aFieldAddr, placeOf, aLoad, cellsAt, aUn, aIndexAddr, st0, valCells, isOne, Value.oneCell', aStore, setCells, List.getElem?_cons_zero, List.getElem?_cons_succ, Option.getD_some, formOb_nn, aBuild, parts, fillA, placesOf, aField, aIndex, aSlice, optIdx, aStrBin, aMakeSlice, viewCells, viewCell, arrN, frzU, t2, t3, t4, t5, t6, t7, t8, t9, t10, t11, t12, t13, t14, t15, t16, t17, t18, t19, t21, t22, t28, t29, t30, t33, t39, t45, t46, t47, t50, t51, t52, t56, t66, t67, t71, t77, t80, t81, t86, t88, t89, t90, t91, t92, t94, t95, t96, t98, t99, t100, t101, t102, u_bool, wrap64, List.getElem?_eq_getElem]
          repeat' first | (refine ⟨fun _ => ?_, fun _ => ?_⟩) | (refine ⟨by omega, ?_⟩) | (intro _)
          all_goals (refine hK _ ?_; clear hK K)
          all_goals
            refine AW_ret (end_s ?_)
            simp (disch := omega) [creg_nil, creg_op, creg_gd, cO, cR, cG_bool, cG_undef, ↓spl_tt, ↓spl_tf, ↓spl_ft, ↓spl_ff, spl_ct, spl_cf, putC, nmC, aop, ev, cv, updL, upd_app, upd_upd, lkE_app, lk_nil, lk_cons, aLen, aBuiltin, aBin, aIntBin, aFieldAddr, placeOf, aLoad, cellsAt, aUn, aIndexAddr, st0, valCells, isOne, Value.oneCell', aStore, setCells, List.getElem?_cons_zero, List.getElem?_cons_succ, Option.getD_some, formOb_nn, aBuild, parts, fillA, placesOf, aField, aIndex, aSlice, optIdx, aStrBin, aMakeSlice, viewCells, viewCell, arrN, frzU, t2, t3, t4, t5, t6, t7, t8, t9, t10, t11, t12, t13, t14, t15, t16, t17, t18, t19, t21, t22, t28, t29, t30, t33, t39, t45, t46, t47, t50, t51, t52, t56, t66, t67, t71, t77, t80, t81, t86, t88, t89, t90, t91, t92, t94, t95, t96, t98, t99, t100, t101, t102, u_bool, wrap64, List.getElem?_eq_getElem, endR_some, am0_gg, am0_ss, am0_ll, am1_gg, am1_ss, am1_ll, am1_nl, am1_al, am2_gg, am2_ss, am2_ll, am2_nl, am2_al, am2_ff, am1s_nn, am1s_cc, am2s_nn, am2s_cc, amRs_one, amRs_two', amRs_thr, resAll_nil, resAll_tmp, resAll_cell]
            all_goals first | (exact eqB_of heq) | (refine eqB_ne fun heq => ?_; subst heq; simp_all [eqB_true, eqB_false, eqB_self]; done) | (refine (eqB_ne fun heq => ?_).symm; subst heq; simp_all [eqB_true, eqB_false, eqB_self]; done) | simp_all [eqB_self]
      · try simp at hc10
        all_goals
          refine AW_skip ?_
          refine AW_id ?_
          refine AW_seq ?_
          refine AW_r rfl rfl fun K hK => ?_
          simp (disch := omega) [creg_nil, creg_op, creg_gd, cO, cR, cG_bool, cG_undef, ↓spl_tt, ↓spl_tf, ↓spl_ft, ↓spl_ff, spl_ct, spl_cf, putC, nmC, aop, ev, cv, updL, upd_app, upd_upd, lkE_app, lk_nil, lk_cons, aLen, aBuiltin, aBin, aIntBin, aFieldAddr, placeOf, aLoad, cellsAt, aUn, aIndexAddr, st0, valCells, isOne, Value.oneCell', aStore, setCells, List.getElem?_cons_zero, List.getElem?_cons_succ, Option.getD_some, formOb_nn, aBuild, parts, fillA, placesOf, aField, aIndex, aSlice, optIdx, aStrBin, aMakeSlice, viewCells, viewCell, arrN, frzU, t2, t3, t4, t5, t6, t7, t8, t9, t10, t11, t12, t13, t14, t15, t16, t17, t18, t19, t21, t22, t28, t29, t30, t33, t39, t45, t46, t47, t50, t51, t52, t56, t66, t67, t71, t77, t80, t81, t86, t88, t89, t90, t91, t92, t94, t95, t96, t98, t99, t100, t101, t102, u_bool, wrap64, List.getElem?_eq_getElem]
          repeat' first | (refine ⟨fun _ => ?_, fun _ => ?_⟩) | (refine ⟨by omega, ?_⟩) | (intro _)
          all_goals (refine hK _ ?_; clear hK K)
          all_goals
            refine AW_block ?_
            refine AW_loopS (fun m s => ∃ (i : Nat), m = xs.length - i ∧ (i ≤ xs.length ∧ ∀ j, j < i → xs[j]? = ys[j]?) ∧ s = { env := lkE [(0, .sl 1 (xs.map cI)), (1, .sl 1 (ys.map cI)), (5, (.g (.int .i64 ((i : Nat)))))], ob := formOb [] [] }) ?_ ?_
            · refine ⟨_, LeS.kp [(0, .sl 1 (xs.map cI)), (1, .sl 1 (ys.map cI)), (5, (.g (.int .i64 (((0) : Nat)))))] (by simp [KpE, upd_app, lkE_app, lk_cons]; try rfl), _, 0, rfl, ?_, rfl⟩
              · simp
            · rintro m s ⟨i, rfl, ⟨hi, hpre⟩, rfl⟩
              refine AW_seq ?_
              refine AW_r rfl rfl fun K hK => ?_
              simp (disch := omega) [creg_nil, creg_op, creg_gd, cO, cR, cG_bool, cG_undef, ↓spl_tt, ↓spl_tf, ↓spl_ft, ↓spl_ff, spl_ct, spl_cf, putC, nmC, aop, ev, cv, updL, upd_app, upd_upd, lkE_app, lk_nil, lk_cons, aLen, aBuiltin, aBin, aIntBin, aFieldAddr, placeOf, aLoad, cellsAt, aUn, aIndexAddr, st0, valCells, isOne, Value.oneCell', aStore, setCells, List.getElem?_cons_zero, List.getElem?_cons_succ, Option.getD_some, formOb_nn, aBuild, parts, fillA, placesOf, aField, aIndex, aSlice, optIdx, aStrBin, aMakeSlice, viewCells, viewCell, arrN, frzU, t2, t3, t4, t5, t6, t7, t8, t9, t10, t11, t12, t13, t14, t15, t16, t17, t18, t19, t21, t22, t28, t29, t30, t33, t39, t45, t46, t47, t50, t51, t52, t56, t66, t67, t71, t77, t80, t81, t86, t88, t89, t90, t91, t92, t94, t95, t96, t98, t99, t100, t101, t102, u_bool, wrap64, List.getElem?_eq_getElem, cI]
              repeat' first | (refine ⟨fun _ => ?_, fun _ => ?_⟩) | (refine ⟨by omega, ?_⟩) | (intro _)
              all_goals (refine hK _ ?_; clear hK K)
              all_goals
                refine AW_cond rfl (fun hc11 => ?_) (fun hc11 => ?_)
                · try simp at hc11
                  all_goals
                    have h7 : i < ys.length := by omega
                    refine AW_skip ?_
                    refine AW_id ?_
                    refine AW_seq ?_
                    refine AW_block ?_
                    refine AW_q rfl mix (by kernel_rfl) rfl fun K hK => ?_
                    simp (disch := omega) [creg_nil, creg_op, creg_gd, cO, cR, cG_bool, cG_undef, ↓spl_tt, ↓spl_tf, ↓spl_ft, ↓spl_ff, spl_ct, spl_cf, putC, nmC, aop, ev, cv, updL, upd_app, upd_upd, lkE_app, lk_nil, lk_cons, aLen, aBuiltin, aBin, aIntBin, aFieldAddr, placeOf, aLoad, cellsAt, aUn, aIndexAddr, st0, valCells, isOne, Value.oneCell', aStore, setCells, List.getElem?_cons_zero, List.getElem?_cons_succ, Option.getD_some, formOb_nn, aBuild, parts, fillA, placesOf, aField, aIndex, aSlice, optIdx, aStrBin, aMakeSlice, viewCells, viewCell, arrN, frzU, t2, t3, t4, t5, t6, t7, t8, t9, t10, t11, t12, t13, t14, t15, t16, t17, t18, t19, t21, t22, t28, t29, t30, t33, t39, t45, t46, t47, t50, t51, t52, t56, t66, t67, t71, t77, t80, t81, t86, t88, t89, t90, t91, t92, t94, t95, t96, t98, t99, t100, t101, t102, u_bool, wrap64, List.getElem?_eq_getElem, cI]
                    repeat' first | (refine ⟨fun _ => ?_, fun _ => ?_⟩) | (refine ⟨by omega, ?_⟩) | (intro _)
                    all_goals (refine hK _ ?_; clear hK K)
                    all_goals
                      refine AW_cond rfl (fun hc12 => ?_) (fun hc12 => ?_)
                      · try simp at hc12
                        all_goals
                          refine AW_r rfl rfl fun K hK => ?_
                          simp (disch := omega) [creg_nil, creg_op, creg_gd, cO, cR, cG_bool, cG_undef, ↓spl_tt, ↓spl_tf, ↓spl_ft, ↓spl_ff, spl_ct, spl_cf, putC, nmC, aop, ev, cv, updL, upd_app, upd_upd, lkE_app, lk_nil, lk_cons, aLen, aBuiltin, aBin, aIntBin, aFieldAddr, placeOf, aLoad, cellsAt, aUn, aIndexAddr, st0, valCells, isOne, Value.oneCell', aStore, setCells, List.getElem?_cons_zero, List.getElem?_cons_succ, Option.getD_some, formOb_nn, aBuild, parts, fillA, placesOf, aField, aIndex, aSlice, optIdx, aStrBin, aMakeSlice, viewCells, viewCell, arrN, frzU, t2, t3, t4, t5, t6, t7, t8, t9, t10, t11, t12, t13, t14, t15, t16, t17, t18, t19, t21, t22, t28, t29, t30, t33, t39, t45, t46, t47, t50, t51, t52, t56, t66, t67, t71, t77, t80, t81, t86, t88, t89, t90, t91, t92, t94, t95, t96, t98, t99, t100, t101, t102, u_bool, wrap64, List.getElem?_eq_getElem, cI]
                          repeat' first | (refine ⟨fun _ => ?_, fun _ => ?_⟩) | (refine ⟨by omega, ?_⟩) | (intro _)
                          all_goals (refine hK _ ?_; clear hK K)
                          all_goals
                            refine AW_ret (end_s ?_)
                            simp (disch := omega) [creg_nil, creg_op, creg_gd, cO, cR, cG_bool, cG_undef, ↓spl_tt, ↓spl_tf, ↓spl_ft, ↓spl_ff, spl_ct, spl_cf, putC, nmC, aop, ev, cv, updL, upd_app, upd_upd, lkE_app, lk_nil, lk_cons, aLen, aBuiltin, aBin, aIntBin, aFieldAddr, placeOf, aLoad, cellsAt, aUn, aIndexAddr, st0, valCells, isOne, Value.oneCell', aStore, setCells, List.getElem?_cons_zero, List.getElem?_cons_succ, Option.getD_some, formOb_nn, aBuild, parts, fillA, placesOf, aField, aIndex, aSlice, optIdx, aStrBin, aMakeSlice, viewCells, viewCell, arrN, frzU, t2, t3, t4, t5, t6, t7, t8, t9, t10, t11, t12, t13, t14, t15, t16, t17, t18, t19, t21, t22, t28, t29, t30, t33, t39, t45, t46, t47, t50, t51, t52, t56, t66, t67, t71, t77, t80, t81, t86, t88, t89, t90, t91, t92, t94, t95, t96, t98, t99, t100, t101, t102, u_bool, wrap64, List.getElem?_eq_getElem, cI, endR_some, am0_gg, am0_ss, am0_ll, am1_gg, am1_ss, am1_ll, am1_nl, am1_al, am2_gg, am2_ss, am2_ll, am2_nl, am2_al, am2_ff, am1s_nn, am1s_cc, am2s_nn, am2s_cc, amRs_one, amRs_two', amRs_thr, resAll_nil, resAll_tmp, resAll_cell]
                            all_goals first | (exact eqB_of heq) | (refine eqB_ne fun heq => ?_; subst heq; simp_all [eqB_true, eqB_false, eqB_self]; done) | (refine (eqB_ne fun heq => ?_).symm; subst heq; simp_all [eqB_true, eqB_false, eqB_self]; done) | simp_all [eqB_self]
                      · try simp at hc12
                        all_goals
                          refine AW_skip ?_
                          refine AW_id ?_
                          refine AW_re rfl rfl fun K hK => ?_
                          simp (disch := omega) [creg_nil, creg_op, creg_gd, cO, cR, cG_bool, cG_undef, ↓spl_tt, ↓spl_tf, ↓spl_ft, ↓spl_ff, spl_ct, spl_cf, putC, nmC, aop, ev, cv, updL, upd_app, upd_upd, lkE_app, lk_nil, lk_cons, aLen, aBuiltin, aBin, aIntBin, aFieldAddr, placeOf, aLoad, cellsAt, aUn, aIndexAddr, st0, valCells, isOne, Value.oneCell', aStore, setCells, List.getElem?_cons_zero, List.getElem?_cons_succ, Option.getD_some, formOb_nn, aBuild, parts, fillA, placesOf, aField, aIndex, aSlice, optIdx, aStrBin, aMakeSlice, viewCells, viewCell, arrN, frzU, t2, t3, t4, t5, t6, t7, t8, t9, t10, t11, t12, t13, t14, t15, t16, t17, t18, t19, t21, t22, t28, t29, t30, t33, t39, t45, t46, t47, t50, t51, t52, t56, t66, t67, t71, t77, t80, t81, t86, t88, t89, t90, t91, t92, t94, t95, t96, t98, t99, t100, t101, t102, u_bool, wrap64, List.getElem?_eq_getElem, cI]
                          repeat' first | (refine ⟨fun _ => ?_, fun _ => ?_⟩) | (refine ⟨by omega, ?_⟩) | (intro _)
                          all_goals (refine hK _ ?_; clear hK K)
                          all_goals
                            refine ⟨_, LeS.kp [(0, .sl 1 (xs.map cI)), (1, .sl 1 (ys.map cI)), (5, (.g (.int .i64 (((i + 1) : Nat)))))] (by simp [KpE, upd_app, lkE_app, lk_cons]; try rfl), _, ?_, i + 1, rfl, ?_, rfl⟩
                            · omega
                            · refine ⟨by omega, fun j hj => ?_⟩
                              by_cases hji : j = i
                              · subst hji; simp_all [eqB_true, eqB_false]
                              · exact hpre j (by omega)
                · try simp at hc11
                  all_goals
                    have hi2 : i = xs.length := by omega
                    subst hi2
                    have heq : xs = ys := List.ext_getElem? fun j => by
                      by_cases hj : j < xs.length
                      · exact hpre j hj
                      · rw [List.getElem?_eq_none (by omega), List.getElem?_eq_none (by omega)]
                    refine AW_exit ?_
                    refine AW_id ?_
                    refine AW_r rfl rfl fun K hK => ?_
                    simp (disch := omega) [creg_nil, creg_op, creg_gd, cO, cR, cG_bool, cG_undef, ↓spl_tt, ↓spl_tf, ↓spl_ft, ↓spl_ff, spl_ct, spl_cf, putC, nmC, aop, ev, cv, updL, upd_app, upd_upd, lkE_app, lk_nil, lk_cons, aLen, aBuiltin, aBin, aIntBin, aFieldAddr, placeOf, aLoad, cellsAt, aUn, aIndexAddr, st0, valCells, isOne, Value.oneCell', aStore, setCells, List.getElem?_cons_zero, List.getElem?_cons_succ, Option.getD_some, formOb_nn, aBuild, parts, fillA, placesOf, aField, aIndex, aSlice, optIdx, aStrBin, aMakeSlice, viewCells, viewCell, arrN, frzU, t2, t3, t4, t5, t6, t7, t8, t9, t10, t11, t12, t13, t14, t15, t16, t17, t18, t19, t21, t22, t28, t29, t30, t33, t39, t45, t46, t47, t50, t51, t52, t56, t66, t67, t71, t77, t80, t81, t86, t88, t89, t90, t91, t92, t94, t95, t96, t98, t99, t100, t101, t102, u_bool, wrap64, List.getElem?_eq_getElem, cI]
                    repeat' first | (refine ⟨fun _ => ?_, fun _ => ?_⟩) | (refine ⟨by omega, ?_⟩) | (intro _)
                    all_goals (refine hK _ ?_; clear hK K)
                    all_goals
                      refine AW_ret (end_s ?_)
                      simp (disch := omega) [creg_nil, creg_op, creg_gd, cO, cR, cG_bool, cG_undef, ↓spl_tt, ↓spl_tf, ↓spl_ft, ↓spl_ff, spl_ct, spl_cf, putC, nmC, aop, ev, cv, updL, upd_app, upd_upd, lkE_app, lk_nil, lk_cons, aLen, aBuiltin, aBin, aIntBin, aFieldAddr, placeOf, aLoad, cellsAt, aUn, aIndexAddr, st0, valCells, isOne, Value.oneCell', aStore, setCells, List.getElem?_cons_zero, List.getElem?_cons_succ, Option.getD_some, formOb_nn, aBuild, parts, fillA, placesOf, aField, aIndex, aSlice, optIdx, aStrBin, aMakeSlice, viewCells, viewCell, arrN, frzU, t2, t3, t4, t5, t6, t7, t8, t9, t10, t11, t12, t13, t14, t15, t16, t17, t18, t19, t21, t22, t28, t29, t30, t33, t39, t45, t46, t47, t50, t51, t52, t56, t66, t67, t71, t77, t80, t81, t86, t88, t89, t90, t91, t92, t94, t95, t96, t98, t99, t100, t101, t102, u_bool, wrap64, List.getElem?_eq_getElem, cI, endR_some, am0_gg, am0_ss, am0_ll, am1_gg, am1_ss, am1_ll, am1_nl, am1_al, am2_gg, am2_ss, am2_ll, am2_nl, am2_al, am2_ff, am1s_nn, am1s_cc, am2s_nn, am2s_cc, amRs_one, amRs_two', amRs_thr, resAll_nil, resAll_tmp, resAll_cell]
                      all_goals first | (exact eqB_of heq) | (refine eqB_ne fun heq => ?_; subst heq; simp_all [eqB_true, eqB_false, eqB_self]; done) | (refine (eqB_ne fun heq => ?_).symm; subst heq; simp_all [eqB_true, eqB_false, eqB_self]; done) | simp_all [eqB_self]
theorem toRule (u : DtRule) : PCall Try.prog 18 [.agg (DtRule.cells u)] (.agg (DtRule.cells u)) := by
  refine gcall_of_walk Try.func18 (by rfl) (by rfl) (by rw [Try.ntmps18]; exact Nat.le_of_ble_eq_true rfl) rfl (by decide) ?_
  rw [Try.ntmps18]
  refine AW_k [(0, _)] ⟨rfl, trivial⟩ ?_
  refine AW_r rfl rfl fun K hK => ?_
  simp [creg_nil, creg_op, creg_gd, cO, cR, cG_bool, cG_undef, ↓spl_tt, ↓spl_tf, ↓spl_ft, ↓spl_ff, spl_ct, spl_cf, putC, nmC, aop, ev, cv, updL, upd_app, upd_upd, lkE_app, lk_nil, lk_cons, aLen, aBuiltin, aBin, aIntBin, aFieldAddr, placeOf, aLoad, cellsAt, aUn, aIndexAddr, st0, valCells, isOne, Value.oneCell', aStore, setCells, List.getElem?_cons_zero, List.getElem?_cons_succ, Option.getD_some, formOb_nn, aBuild, parts, fillA, placesOf, aField, aIndex, aSlice, optIdx, aStrBin, aMakeSlice, viewCells, viewCell, arrN, frzU, t2, t3, t4, t5, t6, t7, t8, t9, t10, t11, t12, t13, t14, t15, t16, t17, t18, t19, t21, t22, t28, t29, t30, t33, t39, t45, t46, t47, t50, t51, t52, t56, t66, t67, t71, t77, t80, t81, t86, t88, t89, t90, t91, t92, t94, t95, t96, t98, t99, t100, t101, t102, u_bool, DtRule.cells]
  repeat' first | (refine ⟨fun _ => ?_, fun _ => ?_⟩) | (refine ⟨by omega, ?_⟩) | (intro _)
  all_goals (refine hK _ ?_; clear hK K)
  all_goals
    refine AW_r rfl rfl fun K hK => ?_
    simp [creg_nil, creg_op, creg_gd, cO, cR, cG_bool, cG_undef, ↓spl_tt, ↓spl_tf, ↓spl_ft, ↓spl_ff, spl_ct, spl_cf, putC, nmC, aop, ev, cv, updL, upd_app, upd_upd, lkE_app, lk_nil, lk_cons, aLen, aBuiltin, aBin, aIntBin, aFieldAddr, placeOf, aLoad, cellsAt, aUn, aIndexAddr, st0, valCells, isOne, Value.oneCell', aStore, setCells, List.getElem?_cons_zero, List.getElem?_cons_succ, Option.getD_some, formOb_nn, aBuild, parts, fillA, placesOf, aField, aIndex, aSlice, optIdx, aStrBin, aMakeSlice, viewCells, viewCell, arrN, frzU, t2, t3, t4, t5, t6, t7, t8, t9, t10, t11, t12, t13, t14, t15, t16, t17, t18, t19, t21, t22, t28, t29, t30, t33, t39, t45, t46, t47, t50, t51, t52, t56, t66, t67, t71, t77, t80, t81, t86, t88, t89, t90, t91, t92, t94, t95, t96, t98, t99, t100, t101, t102, u_bool, DtRule.cells]
    repeat' first | (refine ⟨fun _ => ?_, fun _ => ?_⟩) | (refine ⟨by omega, ?_⟩) | (intro _)
    all_goals (refine hK _ ?_; clear hK K)
    all_goals
      refine AW_r rfl rfl fun K hK => ?_
      simp [creg_nil, creg_op, creg_gd, cO, cR, cG_bool, cG_undef, ↓spl_tt, ↓spl_tf, ↓spl_ft, ↓spl_ff, spl_ct, spl_cf, putC, nmC, aop, ev, cv, updL, upd_app, upd_upd, lkE_app, lk_nil, lk_cons, aLen, aBuiltin, aBin, aIntBin, aFieldAddr, placeOf, aLoad, cellsAt, aUn, aIndexAddr, st0, valCells, isOne, Value.oneCell', aStore, setCells, List.getElem?_cons_zero, List.getElem?_cons_succ, Option.getD_some, formOb_nn, aBuild, parts, fillA, placesOf, aField, aIndex, aSlice, optIdx, aStrBin, aMakeSlice, viewCells, viewCell, arrN, frzU, t2, t3, t4, t5, t6, t7, t8, t9, t10, t11, t12, t13, t14, t15, t16, t17, t18, t19, t21, t22, t28, t29, t30, t33, t39, t45, t46, t47, t50, t51, t52, t56, t66, t67, t71, t77, t80, t81, t86, t88, t89, t90, t91, t92, t94, t95, t96, t98, t99, t100, t101, t102, u_bool, DtRule.cells]
      repeat' first | (refine ⟨fun _ => ?_, fun _ => ?_⟩) | (refine ⟨by omega, ?_⟩) | (intro _)
      all_goals (refine hK _ ?_; clear hK K)
      all_goals
        refine AW_r rfl rfl fun K hK => ?_
        simp [creg_nil, creg_op, creg_gd, cO, cR, cG_bool, cG_undef, ↓spl_tt, ↓spl_tf, ↓spl_ft, ↓spl_ff, spl_ct, spl_cf, putC, nmC, aop, ev, cv, updL, upd_app, upd_upd, lkE_app, lk_nil, lk_cons, aLen, aBuiltin, aBin, aIntBin, aFieldAddr, placeOf, aLoad, cellsAt, aUn, aIndexAddr, st0, valCells, isOne, Value.oneCell', aStore, setCells, List.getElem?_cons_zero, List.getElem?_cons_succ, Option.getD_some, formOb_nn, aBuild, parts, fillA, placesOf, aField, aIndex, aSlice, optIdx, aStrBin, aMakeSlice, viewCells, viewCell, arrN, frzU, t2, t3, t4, t5, t6, t7, t8, t9, t10, t11, t12, t13, t14, t15, t16, t17, t18, t19, t21, t22, t28, t29, t30, t33, t39, t45, t46, t47, t50, t51, t52, t56, t66, t67, t71, t77, t80, t81, t86, t88, t89, t90, t91, t92, t94, t95, t96, t98, t99, t100, t101, t102, u_bool, DtRule.cells]
        repeat' first | (refine ⟨fun _ => ?_, fun _ => ?_⟩) | (refine ⟨by omega, ?_⟩) | (intro _)
        all_goals (refine hK _ ?_; clear hK K)
        all_goals
          refine AW_r rfl rfl fun K hK => ?_
          simp [creg_nil, creg_op, creg_gd, cO, cR, cG_bool, cG_undef, ↓spl_tt, ↓spl_tf, ↓spl_ft, ↓spl_ff, spl_ct, spl_cf, putC, nmC, aop, ev, cv, updL, upd_app, upd_upd, lkE_app, lk_nil, lk_cons, aLen, aBuiltin, aBin, aIntBin, aFieldAddr, placeOf, aLoad, cellsAt, aUn, aIndexAddr, st0, valCells, isOne, Value.oneCell', aStore, setCells, List.getElem?_cons_zero, List.getElem?_cons_succ, Option.getD_some, formOb_nn, aBuild, parts, fillA, placesOf, aField, aIndex, aSlice, optIdx, aStrBin, aMakeSlice, viewCells, viewCell, arrN, frzU, t2, t3, t4, t5, t6, t7, t8, t9, t10, t11, t12, t13, t14, t15, t16, t17, t18, t19, t21, t22, t28, t29, t30, t33, t39, t45, t46, t47, t50, t51, t52, t56, t66, t67, t71, t77, t80, t81, t86, t88, t89, t90, t91, t92, t94, t95, t96, t98, t99, t100, t101, t102, u_bool, DtRule.cells]
          repeat' first | (refine ⟨fun _ => ?_, fun _ => ?_⟩) | (refine ⟨by omega, ?_⟩) | (intro _)
          all_goals (refine hK _ ?_; clear hK K)
          all_goals
            refine AW_r rfl rfl fun K hK => ?_
            simp [creg_nil, creg_op, creg_gd, cO, cR, cG_bool, cG_undef, ↓spl_tt, ↓spl_tf, ↓spl_ft, ↓spl_ff, spl_ct, spl_cf, putC, nmC, aop, ev, cv, updL, upd_app, upd_upd, lkE_app, lk_nil, lk_cons, aLen, aBuiltin, aBin, aIntBin, aFieldAddr, placeOf, aLoad, cellsAt, aUn, aIndexAddr, st0, valCells, isOne, Value.oneCell', aStore, setCells, List.getElem?_cons_zero, List.getElem?_cons_succ, Option.getD_some, formOb_nn, aBuild, parts, fillA, placesOf, aField, aIndex, aSlice, optIdx, aStrBin, aMakeSlice, viewCells, viewCell, arrN, frzU, t2, t3, t4, t5, t6, t7, t8, t9, t10, t11, t12, t13, t14, t15, t16, t17, t18, t19, t21, t22, t28, t29, t30, t33, t39, t45, t46, t47, t50, t51, t52, t56, t66, t67, t71, t77, t80, t81, t86, t88, t89, t90, t91, t92, t94, t95, t96, t98, t99, t100, t101, t102, u_bool, DtRule.cells]
            repeat' first | (refine ⟨fun _ => ?_, fun _ => ?_⟩) | (refine ⟨by omega, ?_⟩) | (intro _)
            all_goals (refine hK _ ?_; clear hK K)
            all_goals
              refine AW_ret (end_s ?_)
              simp [creg_nil, creg_op, creg_gd, cO, cR, cG_bool, cG_undef, ↓spl_tt, ↓spl_tf, ↓spl_ft, ↓spl_ff, spl_ct, spl_cf, putC, nmC, aop, ev, cv, updL, upd_app, upd_upd, lkE_app, lk_nil, lk_cons, aLen, aBuiltin, aBin, aIntBin, aFieldAddr, placeOf, aLoad, cellsAt, aUn, aIndexAddr, st0, valCells, isOne, Value.oneCell', aStore, setCells, List.getElem?_cons_zero, List.getElem?_cons_succ, Option.getD_some, formOb_nn, aBuild, parts, fillA, placesOf, aField, aIndex, aSlice, optIdx, aStrBin, aMakeSlice, viewCells, viewCell, arrN, frzU, t2, t3, t4, t5, t6, t7, t8, t9, t10, t11, t12, t13, t14, t15, t16, t17, t18, t19, t21, t22, t28, t29, t30, t33, t39, t45, t46, t47, t50, t51, t52, t56, t66, t67, t71, t77, t80, t81, t86, t88, t89, t90, t91, t92, t94, t95, t96, t98, t99, t100, t101, t102, u_bool, DtRule.cells, endR_some, am0_gg, am0_ss, am0_ll, am1_gg, am1_ss, am1_ll, am1_nl, am1_al, am2_gg, am2_ss, am2_ll, am2_nl, am2_al, am2_ff, am1s_nn, am1s_cc, am2s_nn, am2s_cc, amRs_one, amRs_two', amRs_thr, resAll_nil, resAll_tmp, resAll_cell]
              all_goals first | omega | (simp_all; done) | (simp [List.take_of_length_le]; done) | ((try simp_all); (try simp (disch := omega) only [wrap64, Int.tdiv_eq_ediv_of_nonneg, Int.tmod_eq_emod_of_nonneg, and_true, true_and]); done) | ((try simp_all); (try simp (disch := omega) only [wrap64, Int.tdiv_eq_ediv_of_nonneg, Int.tmod_eq_emod_of_nonneg, and_true, true_and] at *); omega)
theorem eqBoolS (xs ys : List Bool) (hs : (xs.length : Int) ≤ 1048576) : PCall Try.prog 27 [.sl 1 (xs.map cB), .sl 1 (ys.map cB)] (.g (.bool (eqB xs ys))) := by
  have hn : xs.length ≤ 1048576 := by omega
  refine gcall_of_walk Try.func27 (by rfl) (by rfl) (by rw [Try.ntmps27]; exact Nat.le_of_ble_eq_true rfl) rfl (by decide) ?_
  rw [Try.ntmps27]
  refine AW_k [(0, _), (1, _)] ⟨rfl, rfl, trivial⟩ ?_
  refine AW_r rfl rfl fun K hK => ?_
  simp (disch := omega) [creg_nil, creg_op, creg_gd, cO, cR, cG_bool, cG_undef, ↓spl_tt, ↓spl_tf, ↓spl_ft, ↓spl_ff, spl_ct, spl_cf, putC, nmC, aop, ev, cv, updL, upd_app, upd_upd, lkE_app, lk_nil, lk_cons, aLen, aBuiltin, aBin, aIntBin, aFieldAddr, placeOf, aLoad, cellsAt, aUn, aIndexAddr, st0, valCells, isOne, Value.oneCell', aStore, setCells, List.getElem?_cons_zero, List.getElem?_cons_succ, Option.getD_some, formOb_nn, aBuild, parts, fillA, placesOf, aField, aIndex, aSlice, optIdx, aStrBin, aMakeSlice, viewCells, viewCell, arrN, frzU, t2, t3, t4, t5, t6, t7, t8, t9, t10, t11, t12, t13, t14, t15, t16, t17, t18, t19, t21, t22, t28, t29, t30, t33, t39, t45, t46, t47, t50, t51, t52, t56, t66, t67, t71, t77, t80, t81, t86, t88, t89, t90, t91, t92, t94, t95, t96, t98, t99, t100, t101, t102, u_bool, wrap64, List.getElem?_eq_getElem]
  repeat' first | (refine ⟨fun _ => ?_, fun _ => ?_⟩) | (refine ⟨by omega, ?_⟩) | (intro _)
  all_goals (refine hK _ ?_; clear hK K)
  all_goals
    refine AW_seq ?_
    refine AW_r rfl rfl fun K hK => ?_
    simp (disch := omega) [creg_nil, creg_op, creg_gd, cO, cR, cG_bool, cG_undef, ↓spl_tt, ↓spl_tf, ↓spl_ft, ↓spl_ff, spl_ct, spl_cf, putC, nmC, aop, ev, cv, updL, upd_app, upd_upd, lkE_app, lk_nil, lk_cons, aLen, aBuiltin, aBin, aIntBin, aFieldAddr, placeOf, aLoad, cellsAt, aUn, aIndexAddr, st0, valCells, isOne, Value.oneCell', aStore, setCells, List.getElem?_cons_zero, List.getElem?_cons_succ, Option.getD_some, formOb_nn, aBuild, parts, fillA, placesOf, aField, aIndex, aSlice, optIdx, aStrBin, aMakeSlice, viewCells, viewCell, arrN, frzU, t2, t3, t4, t5, t6, t7, t8, t9, t10, t11, t12, t13, t14, t15, t16, t17, t18, t19, t21, t22, t28, t29, t30, t33, t39, t45, t46, t47, t50, t51, t52, t56, t66, t67, t71, t77, t80, t81, t86, t88, t89, t90, t91, t92, t94, t95, t96, t98, t99, t100, t101, t102, u_bool, wrap64, List.getElem?_eq_getElem]
    repeat' first | (refine ⟨fun _ => ?_, fun _ => ?_⟩) | (refine ⟨by omega, ?_⟩) | (intro _)
    all_goals (refine hK _ ?_; clear hK K)
    all_goals
      refine AW_cond rfl (fun hc13 => ?_) (fun hc13 => ?_)
      · try simp at hc13
        all_goals
          refine AW_r rfl rfl fun K hK => ?_
          simp (disch := omega) [creg_nil, creg_op, creg_gd, cO, cR, cG_bool, cG_undef, ↓spl_tt, ↓spl_tf, ↓spl_ft, ↓spl_ff, spl_ct, spl_cf, putC, nmC, aop, ev, cv, updL, upd_app, upd_upd, lkE_app, lk_nil, lk_cons, aLen, aBuiltin, aBin, aIntBin, aFieldAddr, placeOf, aLoad, cellsAt, aUn, aIndexAddr, st0, valCells, isOne, Value.oneCell', aStore, setCells, List.getElem?_cons_zero, List.getElem?_cons_succ, Option.getD_some, formOb_nn, aBuild, parts, fillA, placesOf, aField, aIndex, aSlice, optIdx, aStrBin, aMakeSlice, viewCells, viewCell, arrN, frzU, t2, t3, t4, t5, t6, t7, t8, t9, t10, t11, t12, t13, t14, t15, t16, t17, t18, t19, t21, t22, t28, t29, t30, t33, t39, t45, t46, t47, t50, t51, t52, t56, t66, t67, t71, t77, t80, t81, t86, t88, t89, t90, t91, t92, t94, t95, t96, t98, t99, t100, t101, t102, u_bool, wrap64, List.getElem?_eq_getElem]
          repeat' first | (refine ⟨fun _ => ?_, fun _ => ?_⟩) | (refine ⟨by omega, ?_⟩) | (intro _)
          all_goals (refine hK _ ?_; clear hK K)
          all_goals
            refine AW_ret (end_s ?_)
            simp (disch := omega) [creg_nil, creg_op, creg_gd, cO, cR, cG_bool, cG_undef, ↓spl_tt, ↓spl_tf, ↓spl_ft, ↓spl_ff, spl_ct, spl_cf, putC, nmC, aop, ev, cv, updL, upd_app, upd_upd, lkE_app, lk_nil, lk_cons, aLen, aBuiltin, aBin, aIntBin, aFieldAddr, placeOf, aLoad, cellsAt, aUn, aIndexAddr, st0, valCells, isOne, Value.oneCell', aStore, setCells, List.getElem?_cons_zero, List.getElem?_cons_succ, Option.getD_some, formOb_nn, aBuild, parts, fillA, placesOf, aField, aIndex, aSlice, optIdx, aStrBin, aMakeSlice, viewCells, viewCell, arrN, frzU, t2, t3, t4, t5, t6, t7, t8, t9, t10, t11, t12, t13, t14, t15, t16, t17, t18, t19, t21, t22, t28, t29, t30, t33, t39, t45, t46, t47, t50, t51, t52, t56, t66, t67, t71, t77, t80, t81, t86, t88, t89, t90, t91, t92, t94, t95, t96, t98, t99, t100, t101, t102, u_bool, wrap64, List.getElem?_eq_getElem, endR_some, am0_gg, am0_ss, am0_ll, am1_gg, am1_ss, am1_ll, am1_nl, am1_al, am2_gg, am2_ss, am2_ll, am2_nl, am2_al, am2_ff, am1s_nn, am1s_cc, am2s_nn, am2s_cc, amRs_one, amRs_two', amRs_thr, resAll_nil, resAll_tmp, resAll_cell]
            all_goals first | (exact eqB_of heq) | (refine eqB_ne fun heq => ?_; subst heq; simp_all [eqB_true, eqB_false, eqB_self]; done) | (refine (eqB_ne fun heq => ?_).symm; subst heq; simp_all [eqB_true, eqB_false, eqB_self]; done) | simp_all [eqB_self]
      · try simp at hc13
        all_goals
          refine AW_skip ?_
          refine AW_id ?_
          refine AW_seq ?_
          refine AW_r rfl rfl fun K hK => ?_
          simp (disch := omega) [creg_nil, creg_op, creg_gd, cO, cR, cG_bool, cG_undef, ↓spl_tt, ↓spl_tf, ↓spl_ft, ↓spl_ff, spl_ct, spl_cf, putC, nmC, aop, ev, cv, updL, upd_app, upd_upd, lkE_app, lk_nil, lk_cons, aLen, aBuiltin, aBin, aIntBin, aFieldAddr, placeOf, aLoad, cellsAt, aUn, aIndexAddr, st0, valCells, isOne, Value.oneCell', aStore, setCells, List.getElem?_cons_zero, List.getElem?_cons_succ, Option.getD_some, formOb_nn, aBuild, parts, fillA, placesOf, aField, aIndex, aSlice, optIdx, aStrBin, aMakeSlice, viewCells, viewCell, arrN, frzU, t2, t3, t4, t5, t6, t7, t8, t9, t10, t11, t12, t13, t14, t15, t16, t17, t18, t19, t21, t22, t28, t29, t30, t33, t39, t45, t46, t47, t50, t51, t52, t56, t66, t67, t71, t77, t80, t81, t86, t88, t89, t90, t91, t92, t94, t95, t96, t98, t99, t100, t101, t102, u_bool, wrap64, List.getElem?_eq_getElem]
          repeat' first | (refine ⟨fun _ => ?_, fun _ => ?_⟩) | (refine ⟨by omega, ?_⟩) | (intro _)
          all_goals (refine hK _ ?_; clear hK K)
          all_goals
            refine AW_block ?_
            refine AW_loopS (fun m s => ∃ (i : Nat), m = xs.length - i ∧ (i ≤ xs.length ∧ ∀ j, j < i → xs[j]? = ys[j]?) ∧ s = { env := lkE [(0, .sl 1 (xs.map cB)), (1, .sl 1 (ys.map cB)), (5, (.g (.int .i64 ((i : Nat)))))], ob := formOb [] [] }) ?_ ?_
            · refine ⟨_, LeS.kp [(0, .sl 1 (xs.map cB)), (1, .sl 1 (ys.map cB)), (5, (.g (.int .i64 (((0) : Nat)))))] (by simp [KpE, upd_app, lkE_app, lk_cons]; try rfl), _, 0, rfl, ?_, rfl⟩
              · simp
            · rintro m s ⟨i, rfl, ⟨hi, hpre⟩, rfl⟩
              refine AW_seq ?_
              refine AW_r rfl rfl fun K hK => ?_
              simp (disch := omega) [creg_nil, creg_op, creg_gd, cO, cR, cG_bool, cG_undef, ↓spl_tt, ↓spl_tf, ↓spl_ft, ↓spl_ff, spl_ct, spl_cf, putC, nmC, aop, ev, cv, updL, upd_app, upd_upd, lkE_app, lk_nil, lk_cons, aLen, aBuiltin, aBin, aIntBin, aFieldAddr, placeOf, aLoad, cellsAt, aUn, aIndexAddr, st0, valCells, isOne, Value.oneCell', aStore, setCells, List.getElem?_cons_zero, List.getElem?_cons_succ, Option.getD_some, formOb_nn, aBuild, parts, fillA, placesOf, aField, aIndex, aSlice, optIdx, aStrBin, aMakeSlice, viewCells, viewCell, arrN, frzU, t2, t3, t4, t5, t6, t7, t8, t9, t10, t11, t12, t13, t14, t15, t16, t17, t18, t19, t21, t22, t28, t29, t30, t33, t39, t45, t46, t47, t50, t51, t52, t56, t66, t67, t71, t77, t80, t81, t86, t88, t89, t90, t91, t92, t94, t95, t96, t98, t99, t100, t101, t102, u_bool, wrap64, List.getElem?_eq_getElem, cB]
              repeat' first | (refine ⟨fun _ => ?_, fun _ => ?_⟩) | (refine ⟨by omega, ?_⟩) | (intro _)
              all_goals (refine hK _ ?_; clear hK K)
              all_goals
                refine AW_cond rfl (fun hc14 => ?_) (fun hc14 => ?_)
                · try simp at hc14
                  all_goals
                    have h7 : i < ys.length := by omega
                    refine AW_skip ?_
                    refine AW_id ?_
                    refine AW_seq ?_
                    refine AW_block ?_
                    refine AW_q rfl mix (by kernel_rfl) rfl fun K hK => ?_
                    simp (disch := omega) [creg_nil, creg_op, creg_gd, cO, cR, cG_bool, cG_undef, ↓spl_tt, ↓spl_tf, ↓spl_ft, ↓spl_ff, spl_ct, spl_cf, putC, nmC, aop, ev, cv, updL, upd_app, upd_upd, lkE_app, lk_nil, lk_cons, aLen, aBuiltin, aBin, aIntBin, aFieldAddr, placeOf, aLoad, cellsAt, aUn, aIndexAddr, st0, valCells, isOne, Value.oneCell', aStore, setCells, List.getElem?_cons_zero, List.getElem?_cons_succ, Option.getD_some, formOb_nn, aBuild, parts, fillA, placesOf, aField, aIndex, aSlice, optIdx, aStrBin, aMakeSlice, viewCells, viewCell, arrN, frzU, t2, t3, t4, t5, t6, t7, t8, t9, t10, t11, t12, t13, t14, t15, t16, t17, t18, t19, t21, t22, t28, t29, t30, t33, t39, t45, t46, t47, t50, t51, t52, t56, t66, t67, t71, t77, t80, t81, t86, t88, t89, t90, t91, t92, t94, t95, t96, t98, t99, t100, t101, t102, u_bool, wrap64, List.getElem?_eq_getElem, cB]
                    repeat' first | (refine ⟨fun _ => ?_, fun _ => ?_⟩) | (refine ⟨by omega, ?_⟩) | (intro _)
                    all_goals (refine hK _ ?_; clear hK K)
                    all_goals
                      refine AW_cond rfl (fun hc15 => ?_) (fun hc15 => ?_)
                      · try simp at hc15
                        all_goals
                          refine AW_r rfl rfl fun K hK => ?_
                          simp (disch := omega) [creg_nil, creg_op, creg_gd, cO, cR, cG_bool, cG_undef, ↓spl_tt, ↓spl_tf, ↓spl_ft, ↓spl_ff, spl_ct, spl_cf, putC, nmC, aop, ev, cv, updL, upd_app, upd_upd, lkE_app, lk_nil, lk_cons, aLen, aBuiltin, aBin, aIntBin, aFieldAddr, placeOf, aLoad, cellsAt, aUn, aIndexAddr, st0, valCells, isOne, Value.oneCell', aStore, setCells, List.getElem?_cons_zero, List.getElem?_cons_succ, Option.getD_some, formOb_nn, aBuild, parts, fillA, placesOf, aField, aIndex, aSlice, optIdx, aStrBin, aMakeSlice, viewCells, viewCell, arrN, frzU, t2, t3, t4, t5, t6, t7, t8, t9, t10, t11, t12, t13, t14, t15, t16, t17, t18, t19, t21, t22, t28, t29, t30, t33, t39, t45, t46, t47, t50, t51, t52, t56, t66, t67, t71, t77, t80, t81, t86, t88, t89, t90, t91, t92, t94, t95, t96, t98, t99, t100, t101, t102, u_bool, wrap64, List.getElem?_eq_getElem, cB]
                          repeat' first | (refine ⟨fun _ => ?_, fun _ => ?_⟩) | (refine ⟨by omega, ?_⟩) | (intro _)
                          all_goals (refine hK _ ?_; clear hK K)
                          all_goals
                            refine AW_ret (end_s ?_)
                            simp (disch := omega) [creg_nil, creg_op, creg_gd, cO, cR, cG_bool, cG_undef, ↓spl_tt, ↓spl_tf, ↓spl_ft, ↓spl_ff, spl_ct, spl_cf, putC, nmC, aop, ev, cv, updL, upd_app, upd_upd, lkE_app, lk_nil, lk_cons, aLen, aBuiltin, aBin, aIntBin, aFieldAddr, placeOf, aLoad, cellsAt, aUn, aIndexAddr, st0, valCells, isOne, Value.oneCell', aStore, setCells, List.getElem?_cons_zero, List.getElem?_cons_succ, Option.getD_some, formOb_nn, aBuild, parts, fillA, placesOf, aField, aIndex, aSlice, optIdx, aStrBin, aMakeSlice, viewCells, viewCell, arrN, frzU, t2, t3, t4, t5, t6, t7, t8, t9, t10, t11, t12, t13, t14, t15, t16, t17, t18, t19, t21, t22, t28, t29, t30, t33, t39, t45, t46, t47, t50, t51, t52, t56, t66, t67, t71, t77, t80, t81, t86, t88, t89, t90, t91, t92, t94, t95, t96, t98, t99, t100, t101, t102, u_bool, wrap64, List.getElem?_eq_getElem, cB, endR_some, am0_gg, am0_ss, am0_ll, am1_gg, am1_ss, am1_ll, am1_nl, am1_al, am2_gg, am2_ss, am2_ll, am2_nl, am2_al, am2_ff, am1s_nn, am1s_cc, am2s_nn, am2s_cc, amRs_one, amRs_two', amRs_thr, resAll_nil, resAll_tmp, resAll_cell]
                            all_goals first | (exact eqB_of heq) | (refine eqB_ne fun heq => ?_; subst heq; simp_all [eqB_true, eqB_false, eqB_self]; done) | (refine (eqB_ne fun heq => ?_).symm; subst heq; simp_all [eqB_true, eqB_false, eqB_self]; done) | simp_all [eqB_self]
                      · try simp at hc15
                        all_goals
                          refine AW_skip ?_
                          refine AW_id ?_
                          refine AW_re rfl rfl fun K hK => ?_
                          simp (disch := omega) [creg_nil, creg_op, creg_gd, cO, cR, cG_bool, cG_undef, ↓spl_tt, ↓spl_tf, ↓spl_ft, ↓spl_ff, spl_ct, spl_cf, putC, nmC, aop, ev, cv, updL, upd_app, upd_upd, lkE_app, lk_nil, lk_cons, aLen, aBuiltin, aBin, aIntBin, aFieldAddr, placeOf, aLoad, cellsAt, aUn, aIndexAddr, st0, valCells, isOne, Value.oneCell', aStore, setCells, List.getElem?_cons_zero, List.getElem?_cons_succ, Option.getD_some, formOb_nn, aBuild, parts, fillA, placesOf, aField, aIndex, aSlice, optIdx, aStrBin, aMakeSlice, viewCells, viewCell, arrN, frzU, t2, t3, t4, t5, t6, t7, t8, t9, t10, t11, t12, t13, t14, t15, t16, t17, t18, t19, t21, t22, t28, t29, t30, t33, t39, t45, t46, t47, t50, t51, t52, t56, t66, t67, t71, t77, t80, t81, t86, t88, t89, t90, t91, t92, t94, t95, t96, t98, t99, t100, t101, t102, u_bool, wrap64, List.getElem?_eq_getElem, cB]
                          repeat' first | (refine ⟨fun _ => ?_, fun _ => ?_⟩) | (refine ⟨by omega, ?_⟩) | (intro _)
                          all_goals (refine hK _ ?_; clear hK K)
                          all_goals
                            refine ⟨_, LeS.kp [(0, .sl 1 (xs.map cB)), (1, .sl 1 (ys.map cB)), (5, (.g (.int .i64 (((i + 1) : Nat)))))] (by simp [KpE, upd_app, lkE_app, lk_cons]; try rfl), _, ?_, i + 1, rfl, ?_, rfl⟩
                            · omega
                            · refine ⟨by omega, fun j hj => ?_⟩
                              by_cases hji : j = i
                              · subst hji; simp_all [eqB_true, eqB_false]
                              · exact hpre j (by omega)
                · try simp at hc14
                  all_goals
                    have hi2 : i = xs.length := by omega
                    subst hi2
                    have heq : xs = ys := List.ext_getElem? fun j => by
                      by_cases hj : j < xs.length
                      · exact hpre j hj
                      · rw [List.getElem?_eq_none (by omega), List.getElem?_eq_none (by omega)]
                    refine AW_exit ?_
                    refine AW_id ?_
                    refine AW_r rfl rfl fun K hK => ?_
                    simp (disch := omega) [creg_nil, creg_op, creg_gd, cO, cR, cG_bool, cG_undef, ↓spl_tt, ↓spl_tf, ↓spl_ft, ↓spl_ff, spl_ct, spl_cf, putC, nmC, aop, ev, cv, updL, upd_app, upd_upd, lkE_app, lk_nil, lk_cons, aLen, aBuiltin, aBin, aIntBin, aFieldAddr, placeOf, aLoad, cellsAt, aUn, aIndexAddr, st0, valCells, isOne, Value.oneCell', aStore, setCells, List.getElem?_cons_zero, List.getElem?_cons_succ, Option.getD_some, formOb_nn, aBuild, parts, fillA, placesOf, aField, aIndex, aSlice, optIdx, aStrBin, aMakeSlice, viewCells, viewCell, arrN, frzU, t2, t3, t4, t5, t6, t7, t8, t9, t10, t11, t12, t13, t14, t15, t16, t17, t18, t19, t21, t22, t28, t29, t30, t33, t39, t45, t46, t47, t50, t51, t52, t56, t66, t67, t71, t77, t80, t81, t86, t88, t89, t90, t91, t92, t94, t95, t96, t98, t99, t100, t101, t102, u_bool, wrap64, List.getElem?_eq_getElem, cB]
                    repeat' first | (refine ⟨fun _ => ?_, fun _ => ?_⟩) | (refine ⟨by omega, ?_⟩) | (intro _)
                    all_goals (refine hK _ ?_; clear hK K)
                    all_goals
                      refine AW_ret (end_s ?_)
                      simp (disch := omega) [creg_nil, creg_op, creg_gd, cO, cR, cG_bool, cG_undef, ↓spl_tt, ↓spl_tf, ↓spl_ft, ↓spl_ff, spl_ct, spl_cf, putC, nmC, aop, ev, cv, updL, upd_app, upd_upd, lkE_app, lk_nil, lk_cons, aLen, aBuiltin, aBin, aIntBin, aFieldAddr, placeOf, aLoad, cellsAt, aUn, aIndexAddr, st0, valCells, isOne, Value.oneCell', aStore, setCells, List.getElem?_cons_zero, List.getElem?_cons_succ, Option.getD_some, formOb_nn, aBuild, parts, fillA, placesOf, aField, aIndex, aSlice, optIdx, aStrBin, aMakeSlice, viewCells, viewCell, arrN, frzU, t2, t3, t4, t5, t6, t7, t8, t9, t10, t11, t12, t13, t14, t15, t16, t17, t18, t19, t21, t22, t28, t29, t30, t33, t39, t45, t46, t47, t50, t51, t52, t56, t66, t67, t71, t77, t80, t81, t86, t88, t89, t90, t91, t92, t94, t95, t96, t98, t99, t100, t101, t102, u_bool, wrap64, List.getElem?_eq_getElem, cB, endR_some, am0_gg, am0_ss, am0_ll, am1_gg, am1_ss, am1_ll, am1_nl, am1_al, am2_gg, am2_ss, am2_ll, am2_nl, am2_al, am2_ff, am1s_nn, am1s_cc, am2s_nn, am2s_cc, amRs_one, amRs_two', amRs_thr, resAll_nil, resAll_tmp, resAll_cell]
                      all_goals first | (exact eqB_of heq) | (refine eqB_ne fun heq => ?_; subst heq; simp_all [eqB_true, eqB_false, eqB_self]; done) | (refine (eqB_ne fun heq => ?_).symm; subst heq; simp_all [eqB_true, eqB_false, eqB_self]; done) | simp_all [eqB_self]
theorem szUp (u : DtUp) (n : Int) (hn : 0 ≤ n ∧ n ≤ 1048576) (hw : DtUp.wf u) : PCall Try.prog 60 [.agg (DtUp.cells u), (.g (.int .i64 (n)))] (.g (.int .i64 (szR n (DtUp.sz u)))) := by
  have ⟨w0, w1, w2⟩ := hw
  have w02 : u.fChunk.length ≤ 9223372036854775807 := w0
  have w12 := w1.1
  refine gcall_of_walk Try.func60 (by rfl) (by rfl) (by rw [Try.ntmps60]; exact Nat.le_of_ble_eq_true rfl) rfl (by decide) ?_
  rw [Try.ntmps60]
  refine AW_k [(0, _), (1, _)] ⟨rfl, rfl, trivial⟩ ?_
  refine AW_r rfl rfl fun K hK => ?_
  simp (disch := omega) [creg_nil, creg_op, creg_gd, cO, cR, cG_bool, cG_undef, ↓spl_tt, ↓spl_tf, ↓spl_ft, ↓spl_ff, spl_ct, spl_cf, putC, nmC, aop, ev, cv, updL, upd_app, upd_upd, lkE_app, lk_nil, lk_cons, aLen, aBuiltin, aBin, aIntBin, aFieldAddr, placeOf, aLoad, cellsAt, aUn, aIndexAddr, st0, valCells, isOne, Value.oneCell', aStore, setCells, List.getElem?_cons_zero, List.getElem?_cons_succ, Option.getD_some, formOb_nn, aBuild, parts, fillA, placesOf, aField, aIndex, aSlice, optIdx, aStrBin, aMakeSlice, viewCells, viewCell, arrN, frzU, t2, t3, t4, t5, t6, t7, t8, t9, t10, t11, t12, t13, t14, t15, t16, t17, t18, t19, t21, t22, t28, t29, t30, t33, t39, t45, t46, t47, t50, t51, t52, t56, t66, t67, t71, t77, t80, t81, t86, t88, t89, t90, t91, t92, t94, t95, t96, t98, t99, t100, t101, t102, u_bool, wrap64, List.getElem?_eq_getElem, szR, DtUp.cells]
  repeat' first | (refine ⟨fun _ => ?_, fun _ => ?_⟩) | (refine ⟨by omega, ?_⟩) | (intro _)
  all_goals (refine hK _ ?_; clear hK K)
  all_goals
    refine AW_r rfl rfl fun K hK => ?_
    simp (disch := omega) [creg_nil, creg_op, creg_gd, cO, cR, cG_bool, cG_undef, ↓spl_tt, ↓spl_tf, ↓spl_ft, ↓spl_ff, spl_ct, spl_cf, putC, nmC, aop, ev, cv, updL, upd_app, upd_upd, lkE_app, lk_nil, lk_cons, aLen, aBuiltin, aBin, aIntBin, aFieldAddr, placeOf, aLoad, cellsAt, aUn, aIndexAddr, st0, valCells, isOne, Value.oneCell', aStore, setCells, List.getElem?_cons_zero, List.getElem?_cons_succ, Option.getD_some, formOb_nn, aBuild, parts, fillA, placesOf, aField, aIndex, aSlice, optIdx, aStrBin, aMakeSlice, viewCells, viewCell, arrN, frzU, t2, t3, t4, t5, t6, t7, t8, t9, t10, t11, t12, t13, t14, t15, t16, t17, t18, t19, t21, t22, t28, t29, t30, t33, t39, t45, t46, t47, t50, t51, t52, t56, t66, t67, t71, t77, t80, t81, t86, t88, t89, t90, t91, t92, t94, t95, t96, t98, t99, t100, t101, t102, u_bool, wrap64, List.getElem?_eq_getElem, szR, DtUp.cells]
    repeat' first | (refine ⟨fun _ => ?_, fun _ => ?_⟩) | (refine ⟨by omega, ?_⟩) | (intro _)
    all_goals (refine hK _ ?_; clear hK K)
    all_goals
      refine AW_seq ?_
      refine AW_r rfl rfl fun K hK => ?_
      simp (disch := omega) [creg_nil, creg_op, creg_gd, cO, cR, cG_bool, cG_undef, ↓spl_tt, ↓spl_tf, ↓spl_ft, ↓spl_ff, spl_ct, spl_cf, putC, nmC, aop, ev, cv, updL, upd_app, upd_upd, lkE_app, lk_nil, lk_cons, aLen, aBuiltin, aBin, aIntBin, aFieldAddr, placeOf, aLoad, cellsAt, aUn, aIndexAddr, st0, valCells, isOne, Value.oneCell', aStore, setCells, List.getElem?_cons_zero, List.getElem?_cons_succ, Option.getD_some, formOb_nn, aBuild, parts, fillA, placesOf, aField, aIndex, aSlice, optIdx, aStrBin, aMakeSlice, viewCells, viewCell, arrN, frzU, t2, t3, t4, t5, t6, t7, t8, t9, t10, t11, t12, t13, t14, t15, t16, t17, t18, t19, t21, t22, t28, t29, t30, t33, t39, t45, t46, t47, t50, t51, t52, t56, t66, t67, t71, t77, t80, t81, t86, t88, t89, t90, t91, t92, t94, t95, t96, t98, t99, t100, t101, t102, u_bool, wrap64, List.getElem?_eq_getElem, szR, DtUp.cells]
      repeat' first | (refine ⟨fun _ => ?_, fun _ => ?_⟩) | (refine ⟨by omega, ?_⟩) | (intro _)
      all_goals (refine hK _ ?_; clear hK K)
      all_goals
        refine AW_cond rfl (fun hc16 => ?_) (fun hc16 => ?_)
        · try simp at hc16
          all_goals
            refine AW_r rfl rfl fun K hK => ?_
            simp (disch := omega) [creg_nil, creg_op, creg_gd, cO, cR, cG_bool, cG_undef, ↓spl_tt, ↓spl_tf, ↓spl_ft, ↓spl_ff, spl_ct, spl_cf, putC, nmC, aop, ev, cv, updL, upd_app, upd_upd, lkE_app, lk_nil, lk_cons, aLen, aBuiltin, aBin, aIntBin, aFieldAddr, placeOf, aLoad, cellsAt, aUn, aIndexAddr, st0, valCells, isOne, Value.oneCell', aStore, setCells, List.getElem?_cons_zero, List.getElem?_cons_succ, Option.getD_some, formOb_nn, aBuild, parts, fillA, placesOf, aField, aIndex, aSlice, optIdx, aStrBin, aMakeSlice, viewCells, viewCell, arrN, frzU, t2, t3, t4, t5, t6, t7, t8, t9, t10, t11, t12, t13, t14, t15, t16, t17, t18, t19, t21, t22, t28, t29, t30, t33, t39, t45, t46, t47, t50, t51, t52, t56, t66, t67, t71, t77, t80, t81, t86, t88, t89, t90, t91, t92, t94, t95, t96, t98, t99, t100, t101, t102, u_bool, wrap64, List.getElem?_eq_getElem, szR, DtUp.cells]
            repeat' first | (refine ⟨fun _ => ?_, fun _ => ?_⟩) | (refine ⟨by omega, ?_⟩) | (intro _)
            all_goals (refine hK _ ?_; clear hK K)
            all_goals
              refine AW_ret (end_s ?_)
              simp (disch := omega) [creg_nil, creg_op, creg_gd, cO, cR, cG_bool, cG_undef, ↓spl_tt, ↓spl_tf, ↓spl_ft, ↓spl_ff, spl_ct, spl_cf, putC, nmC, aop, ev, cv, updL, upd_app, upd_upd, lkE_app, lk_nil, lk_cons, aLen, aBuiltin, aBin, aIntBin, aFieldAddr, placeOf, aLoad, cellsAt, aUn, aIndexAddr, st0, valCells, isOne, Value.oneCell', aStore, setCells, List.getElem?_cons_zero, List.getElem?_cons_succ, Option.getD_some, formOb_nn, aBuild, parts, fillA, placesOf, aField, aIndex, aSlice, optIdx, aStrBin, aMakeSlice, viewCells, viewCell, arrN, frzU, t2, t3, t4, t5, t6, t7, t8, t9, t10, t11, t12, t13, t14, t15, t16, t17, t18, t19, t21, t22, t28, t29, t30, t33, t39, t45, t46, t47, t50, t51, t52, t56, t66, t67, t71, t77, t80, t81, t86, t88, t89, t90, t91, t92, t94, t95, t96, t98, t99, t100, t101, t102, u_bool, wrap64, List.getElem?_eq_getElem, szR, DtUp.cells, endR_some, am0_gg, am0_ss, am0_ll, am1_gg, am1_ss, am1_ll, am1_nl, am1_al, am2_gg, am2_ss, am2_ll, am2_nl, am2_al, am2_ff, am1s_nn, am1s_cc, am2s_nn, am2s_cc, amRs_one, amRs_two', amRs_thr, resAll_nil, resAll_tmp, resAll_cell, DtUp.sz]
              all_goals first | omega | (simp_all; done) | (split <;> omega) | (split <;> simp_all <;> omega) | (simp_all [szR]; omega)
        · try simp at hc16
          all_goals
            refine AW_skip ?_
            refine AW_id ?_
            refine AW_r rfl rfl fun K hK => ?_
            simp (disch := omega) [creg_nil, creg_op, creg_gd, cO, cR, cG_bool, cG_undef, ↓spl_tt, ↓spl_tf, ↓spl_ft, ↓spl_ff, spl_ct, spl_cf, putC, nmC, aop, ev, cv, updL, upd_app, upd_upd, lkE_app, lk_nil, lk_cons, aLen, aBuiltin, aBin, aIntBin, aFieldAddr, placeOf, aLoad, cellsAt, aUn, aIndexAddr, st0, valCells, isOne, Value.oneCell', aStore, setCells, List.getElem?_cons_zero, List.getElem?_cons_succ, Option.getD_some, formOb_nn, aBuild, parts, fillA, placesOf, aField, aIndex, aSlice, optIdx, aStrBin, aMakeSlice, viewCells, viewCell, arrN, frzU, t2, t3, t4, t5, t6, t7, t8, t9, t10, t11, t12, t13, t14, t15, t16, t17, t18, t19, t21, t22, t28, t29, t30, t33, t39, t45, t46, t47, t50, t51, t52, t56, t66, t67, t71, t77, t80, t81, t86, t88, t89, t90, t91, t92, t94, t95, t96, t98, t99, t100, t101, t102, u_bool, wrap64, List.getElem?_eq_getElem, szR, DtUp.cells]
            repeat' first | (refine CKd_v (am2s_cons am2_sl (am2s_cons am2_g am2s_nil)) (szIntS _ _ (by omega) (by assumption)) rfl ?_; simp (disch := omega) [creg_nil, creg_op, creg_gd, cO, cR, cG_bool, cG_undef, ↓spl_tt, ↓spl_tf, ↓spl_ft, ↓spl_ff, spl_ct, spl_cf, putC, nmC, aop, ev, cv, updL, upd_app, upd_upd, lkE_app, lk_nil, lk_cons, aLen, aBuiltin, aBin, aIntBin, aFieldAddr, placeOf, aLoad, cellsAt, aUn, aIndexAddr, st0, valCells, isOne, Value.oneCell', aStore, setCells, List.getElem?_cons_zero, List.getElem?_cons_succ, Option.getD_some, formOb_nn, aBuild, parts, fillA, placesOf, aField, aIndex, aSlice, optIdx, aStrBin, aMakeSlice, viewCells, viewCell, arrN, frzU, t2, t3, t4, t5, t6, t7, t8, t9, t10, t11, t12, t13, t14, t15, t16, t17, t18, t19, t21, t22, t28, t29, t30, t33, t39, t45, t46, t47, t50, t51, t52, t56, t66, t67, t71, t77, t80, t81, t86, t88, t89, t90, t91, t92, t94, t95, t96, t98, t99, t100, t101, t102, u_bool, wrap64, List.getElem?_eq_getElem, szR, DtUp.cells]) | (refine ⟨fun _ => ?_, fun _ => ?_⟩) | (refine ⟨by omega, ?_⟩) | (intro _)
            all_goals (refine hK _ ?_; clear hK K)
            all_goals
              refine AW_seq ?_
              refine AW_r rfl rfl fun K hK => ?_
              simp (disch := omega) [creg_nil, creg_op, creg_gd, cO, cR, cG_bool, cG_undef, ↓spl_tt, ↓spl_tf, ↓spl_ft, ↓spl_ff, spl_ct, spl_cf, putC, nmC, aop, ev, cv, updL, upd_app, upd_upd, lkE_app, lk_nil, lk_cons, aLen, aBuiltin, aBin, aIntBin, aFieldAddr, placeOf, aLoad, cellsAt, aUn, aIndexAddr, st0, valCells, isOne, Value.oneCell', aStore, setCells, List.getElem?_cons_zero, List.getElem?_cons_succ, Option.getD_some, formOb_nn, aBuild, parts, fillA, placesOf, aField, aIndex, aSlice, optIdx, aStrBin, aMakeSlice, viewCells, viewCell, arrN, frzU, t2, t3, t4, t5, t6, t7, t8, t9, t10, t11, t12, t13, t14, t15, t16, t17, t18, t19, t21, t22, t28, t29, t30, t33, t39, t45, t46, t47, t50, t51, t52, t56, t66, t67, t71, t77, t80, t81, t86, t88, t89, t90, t91, t92, t94, t95, t96, t98, t99, t100, t101, t102, u_bool, wrap64, List.getElem?_eq_getElem, szR, DtUp.cells]
              repeat' first | (refine ⟨fun _ => ?_, fun _ => ?_⟩) | (refine ⟨by omega, ?_⟩) | (intro _)
              all_goals (refine hK _ ?_; clear hK K)
              all_goals
                refine AW_cond rfl (fun hc17 => ?_) (fun hc17 => ?_)
                · try simp at hc17
                  all_goals
                    refine AW_r rfl rfl fun K hK => ?_
                    simp (disch := omega) [creg_nil, creg_op, creg_gd, cO, cR, cG_bool, cG_undef, ↓spl_tt, ↓spl_tf, ↓spl_ft, ↓spl_ff, spl_ct, spl_cf, putC, nmC, aop, ev, cv, updL, upd_app, upd_upd, lkE_app, lk_nil, lk_cons, aLen, aBuiltin, aBin, aIntBin, aFieldAddr, placeOf, aLoad, cellsAt, aUn, aIndexAddr, st0, valCells, isOne, Value.oneCell', aStore, setCells, List.getElem?_cons_zero, List.getElem?_cons_succ, Option.getD_some, formOb_nn, aBuild, parts, fillA, placesOf, aField, aIndex, aSlice, optIdx, aStrBin, aMakeSlice, viewCells, viewCell, arrN, frzU, t2, t3, t4, t5, t6, t7, t8, t9, t10, t11, t12, t13, t14, t15, t16, t17, t18, t19, t21, t22, t28, t29, t30, t33, t39, t45, t46, t47, t50, t51, t52, t56, t66, t67, t71, t77, t80, t81, t86, t88, t89, t90, t91, t92, t94, t95, t96, t98, t99, t100, t101, t102, u_bool, wrap64, List.getElem?_eq_getElem, szR, DtUp.cells]
                    repeat' first | (refine ⟨fun _ => ?_, fun _ => ?_⟩) | (refine ⟨by omega, ?_⟩) | (intro _)
                    all_goals (refine hK _ ?_; clear hK K)
                    all_goals
                      refine AW_ret (end_s ?_)
                      simp (disch := omega) [creg_nil, creg_op, creg_gd, cO, cR, cG_bool, cG_undef, ↓spl_tt, ↓spl_tf, ↓spl_ft, ↓spl_ff, spl_ct, spl_cf, putC, nmC, aop, ev, cv, updL, upd_app, upd_upd, lkE_app, lk_nil, lk_cons, aLen, aBuiltin, aBin, aIntBin, aFieldAddr, placeOf, aLoad, cellsAt, aUn, aIndexAddr, st0, valCells, isOne, Value.oneCell', aStore, setCells, List.getElem?_cons_zero, List.getElem?_cons_succ, Option.getD_some, formOb_nn, aBuild, parts, fillA, placesOf, aField, aIndex, aSlice, optIdx, aStrBin, aMakeSlice, viewCells, viewCell, arrN, frzU, t2, t3, t4, t5, t6, t7, t8, t9, t10, t11, t12, t13, t14, t15, t16, t17, t18, t19, t21, t22, t28, t29, t30, t33, t39, t45, t46, t47, t50, t51, t52, t56, t66, t67, t71, t77, t80, t81, t86, t88, t89, t90, t91, t92, t94, t95, t96, t98, t99, t100, t101, t102, u_bool, wrap64, List.getElem?_eq_getElem, szR, DtUp.cells, endR_some, am0_gg, am0_ss, am0_ll, am1_gg, am1_ss, am1_ll, am1_nl, am1_al, am2_gg, am2_ss, am2_ll, am2_nl, am2_al, am2_ff, am1s_nn, am1s_cc, am2s_nn, am2s_cc, amRs_one, amRs_two', amRs_thr, resAll_nil, resAll_tmp, resAll_cell, DtUp.sz]
                      all_goals first | omega | (simp_all; done) | (split <;> omega) | (split <;> simp_all <;> omega) | (simp_all [szR]; omega)
                · try simp at hc17
                  all_goals
                    refine AW_skip ?_
                    refine AW_id ?_
                    refine AW_r rfl rfl fun K hK => ?_
                    simp (disch := omega) [creg_nil, creg_op, creg_gd, cO, cR, cG_bool, cG_undef, ↓spl_tt, ↓spl_tf, ↓spl_ft, ↓spl_ff, spl_ct, spl_cf, putC, nmC, aop, ev, cv, updL, upd_app, upd_upd, lkE_app, lk_nil, lk_cons, aLen, aBuiltin, aBin, aIntBin, aFieldAddr, placeOf, aLoad, cellsAt, aUn, aIndexAddr, st0, valCells, isOne, Value.oneCell', aStore, setCells, List.getElem?_cons_zero, List.getElem?_cons_succ, Option.getD_some, formOb_nn, aBuild, parts, fillA, placesOf, aField, aIndex, aSlice, optIdx, aStrBin, aMakeSlice, viewCells, viewCell, arrN, frzU, t2, t3, t4, t5, t6, t7, t8, t9, t10, t11, t12, t13, t14, t15, t16, t17, t18, t19, t21, t22, t28, t29, t30, t33, t39, t45, t46, t47, t50, t51, t52, t56, t66, t67, t71, t77, t80, t81, t86, t88, t89, t90, t91, t92, t94, t95, t96, t98, t99, t100, t101, t102, u_bool, wrap64, List.getElem?_eq_getElem, szR, DtUp.cells]
                    repeat' first | (refine ⟨fun _ => ?_, fun _ => ?_⟩) | (refine ⟨by omega, ?_⟩) | (intro _)
                    all_goals (refine hK _ ?_; clear hK K)
                    all_goals
                      refine AW_ret (end_s ?_)
                      simp (disch := omega) [creg_nil, creg_op, creg_gd, cO, cR, cG_bool, cG_undef, ↓spl_tt, ↓spl_tf, ↓spl_ft, ↓spl_ff, spl_ct, spl_cf, putC, nmC, aop, ev, cv, updL, upd_app, upd_upd, lkE_app, lk_nil, lk_cons, aLen, aBuiltin, aBin, aIntBin, aFieldAddr, placeOf, aLoad, cellsAt, aUn, aIndexAddr, st0, valCells, isOne, Value.oneCell', aStore, setCells, List.getElem?_cons_zero, List.getElem?_cons_succ, Option.getD_some, formOb_nn, aBuild, parts, fillA, placesOf, aField, aIndex, aSlice, optIdx, aStrBin, aMakeSlice, viewCells, viewCell, arrN, frzU, t2, t3, t4, t5, t6, t7, t8, t9, t10, t11, t12, t13, t14, t15, t16, t17, t18, t19, t21, t22, t28, t29, t30, t33, t39, t45, t46, t47, t50, t51, t52, t56, t66, t67, t71, t77, t80, t81, t86, t88, t89, t90, t91, t92, t94, t95, t96, t98, t99, t100, t101, t102, u_bool, wrap64, List.getElem?_eq_getElem, szR, DtUp.cells, endR_some, am0_gg, am0_ss, am0_ll, am1_gg, am1_ss, am1_ll, am1_nl, am1_al, am2_gg, am2_ss, am2_ll, am2_nl, am2_al, am2_ff, am1s_nn, am1s_cc, am2s_nn, am2s_cc, amRs_one, amRs_two', amRs_thr, resAll_nil, resAll_tmp, resAll_cell, DtUp.sz]
                      all_goals first | omega | (simp_all; done) | (split <;> omega) | (split <;> simp_all <;> omega) | (simp_all [szR]; omega)
theorem toUp (u : DtUp) (hs : DtUp.sz u ≤ 1048576) : PCall Try.prog 61 [.agg (DtUp.cells u)] (.agg (DtUp.cells u)) := by
  simp only [DtUp.sz] at hs
  have s0 : (u.fChunk.length : Int) ≤ 1048576 := by omega
  have s1 : (u.fNodes.length : Int) ≤ 1048576 := by omega
  refine gcall_of_walk Try.func61 (by rfl) (by rfl) (by rw [Try.ntmps61]; exact Nat.le_of_ble_eq_true rfl) rfl (by decide) ?_
  rw [Try.ntmps61]
  refine AW_k [(0, _)] ⟨rfl, trivial⟩ ?_
  refine AW_r rfl rfl fun K hK => ?_
  simp [creg_nil, creg_op, creg_gd, cO, cR, cG_bool, cG_undef, ↓spl_tt, ↓spl_tf, ↓spl_ft, ↓spl_ff, spl_ct, spl_cf, putC, nmC, aop, ev, cv, updL, upd_app, upd_upd, lkE_app, lk_nil, lk_cons, aLen, aBuiltin, aBin, aIntBin, aFieldAddr, placeOf, aLoad, cellsAt, aUn, aIndexAddr, st0, valCells, isOne, Value.oneCell', aStore, setCells, List.getElem?_cons_zero, List.getElem?_cons_succ, Option.getD_some, formOb_nn, aBuild, parts, fillA, placesOf, aField, aIndex, aSlice, optIdx, aStrBin, aMakeSlice, viewCells, viewCell, arrN, frzU, t2, t3, t4, t5, t6, t7, t8, t9, t10, t11, t12, t13, t14, t15, t16, t17, t18, t19, t21, t22, t28, t29, t30, t33, t39, t45, t46, t47, t50, t51, t52, t56, t66, t67, t71, t77, t80, t81, t86, t88, t89, t90, t91, t92, t94, t95, t96, t98, t99, t100, t101, t102, u_bool, DtUp.cells]
  repeat' first | (refine ⟨fun _ => ?_, fun _ => ?_⟩) | (refine ⟨by omega, ?_⟩) | (intro _)
  all_goals (refine hK _ ?_; clear hK K)
  all_goals
    refine AW_r rfl rfl fun K hK => ?_
    simp [creg_nil, creg_op, creg_gd, cO, cR, cG_bool, cG_undef, ↓spl_tt, ↓spl_tf, ↓spl_ft, ↓spl_ff, spl_ct, spl_cf, putC, nmC, aop, ev, cv, updL, upd_app, upd_upd, lkE_app, lk_nil, lk_cons, aLen, aBuiltin, aBin, aIntBin, aFieldAddr, placeOf, aLoad, cellsAt, aUn, aIndexAddr, st0, valCells, isOne, Value.oneCell', aStore, setCells, List.getElem?_cons_zero, List.getElem?_cons_succ, Option.getD_some, formOb_nn, aBuild, parts, fillA, placesOf, aField, aIndex, aSlice, optIdx, aStrBin, aMakeSlice, viewCells, viewCell, arrN, frzU, t2, t3, t4, t5, t6, t7, t8, t9, t10, t11, t12, t13, t14, t15, t16, t17, t18, t19, t21, t22, t28, t29, t30, t33, t39, t45, t46, t47, t50, t51, t52, t56, t66, t67, t71, t77, t80, t81, t86, t88, t89, t90, t91, t92, t94, t95, t96, t98, t99, t100, t101, t102, u_bool, DtUp.cells]
    repeat' first | (refine ⟨fun _ => ?_, fun _ => ?_⟩) | (refine ⟨by omega, ?_⟩) | (intro _)
    all_goals (refine hK _ ?_; clear hK K)
    all_goals
      refine AW_r rfl rfl fun K hK => ?_
      simp [creg_nil, creg_op, creg_gd, cO, cR, cG_bool, cG_undef, ↓spl_tt, ↓spl_tf, ↓spl_ft, ↓spl_ff, spl_ct, spl_cf, putC, nmC, aop, ev, cv, updL, upd_app, upd_upd, lkE_app, lk_nil, lk_cons, aLen, aBuiltin, aBin, aIntBin, aFieldAddr, placeOf, aLoad, cellsAt, aUn, aIndexAddr, st0, valCells, isOne, Value.oneCell', aStore, setCells, List.getElem?_cons_zero, List.getElem?_cons_succ, Option.getD_some, formOb_nn, aBuild, parts, fillA, placesOf, aField, aIndex, aSlice, optIdx, aStrBin, aMakeSlice, viewCells, viewCell, arrN, frzU, t2, t3, t4, t5, t6, t7, t8, t9, t10, t11, t12, t13, t14, t15, t16, t17, t18, t19, t21, t22, t28, t29, t30, t33, t39, t45, t46, t47, t50, t51, t52, t56, t66, t67, t71, t77, t80, t81, t86, t88, t89, t90, t91, t92, t94, t95, t96, t98, t99, t100, t101, t102, u_bool, DtUp.cells]
      repeat' first | (refine ⟨fun _ => ?_, fun _ => ?_⟩) | (refine ⟨by omega, ?_⟩) | (intro _)
      all_goals (refine hK _ ?_; clear hK K)
      all_goals
        refine AW_r rfl rfl fun K hK => ?_
        simp [creg_nil, creg_op, creg_gd, cO, cR, cG_bool, cG_undef, ↓spl_tt, ↓spl_tf, ↓spl_ft, ↓spl_ff, spl_ct, spl_cf, putC, nmC, aop, ev, cv, updL, upd_app, upd_upd, lkE_app, lk_nil, lk_cons, aLen, aBuiltin, aBin, aIntBin, aFieldAddr, placeOf, aLoad, cellsAt, aUn, aIndexAddr, st0, valCells, isOne, Value.oneCell', aStore, setCells, List.getElem?_cons_zero, List.getElem?_cons_succ, Option.getD_some, formOb_nn, aBuild, parts, fillA, placesOf, aField, aIndex, aSlice, optIdx, aStrBin, aMakeSlice, viewCells, viewCell, arrN, frzU, t2, t3, t4, t5, t6, t7, t8, t9, t10, t11, t12, t13, t14, t15, t16, t17, t18, t19, t21, t22, t28, t29, t30, t33, t39, t45, t46, t47, t50, t51, t52, t56, t66, t67, t71, t77, t80, t81, t86, t88, t89, t90, t91, t92, t94, t95, t96, t98, t99, t100, t101, t102, u_bool, DtUp.cells]
        repeat' first | (refine CKd_v (am2s_cons am2_sl am2s_nil) (toIntS _ (by first | assumption | omega)) rfl ?_; simp [creg_nil, creg_op, creg_gd, cO, cR, cG_bool, cG_undef, ↓spl_tt, ↓spl_tf, ↓spl_ft, ↓spl_ff, spl_ct, spl_cf, putC, nmC, aop, ev, cv, updL, upd_app, upd_upd, lkE_app, lk_nil, lk_cons, aLen, aBuiltin, aBin, aIntBin, aFieldAddr, placeOf, aLoad, cellsAt, aUn, aIndexAddr, st0, valCells, isOne, Value.oneCell', aStore, setCells, List.getElem?_cons_zero, List.getElem?_cons_succ, Option.getD_some, formOb_nn, aBuild, parts, fillA, placesOf, aField, aIndex, aSlice, optIdx, aStrBin, aMakeSlice, viewCells, viewCell, arrN, frzU, t2, t3, t4, t5, t6, t7, t8, t9, t10, t11, t12, t13, t14, t15, t16, t17, t18, t19, t21, t22, t28, t29, t30, t33, t39, t45, t46, t47, t50, t51, t52, t56, t66, t67, t71, t77, t80, t81, t86, t88, t89, t90, t91, t92, t94, t95, t96, t98, t99, t100, t101, t102, u_bool, DtUp.cells]) | (refine ⟨fun _ => ?_, fun _ => ?_⟩) | (refine ⟨by omega, ?_⟩) | (intro _)
        all_goals (refine hK _ ?_; clear hK K)
        all_goals
          refine AW_r rfl rfl fun K hK => ?_
          simp [creg_nil, creg_op, creg_gd, cO, cR, cG_bool, cG_undef, ↓spl_tt, ↓spl_tf, ↓spl_ft, ↓spl_ff, spl_ct, spl_cf, putC, nmC, aop, ev, cv, updL, upd_app, upd_upd, lkE_app, lk_nil, lk_cons, aLen, aBuiltin, aBin, aIntBin, aFieldAddr, placeOf, aLoad, cellsAt, aUn, aIndexAddr, st0, valCells, isOne, Value.oneCell', aStore, setCells, List.getElem?_cons_zero, List.getElem?_cons_succ, Option.getD_some, formOb_nn, aBuild, parts, fillA, placesOf, aField, aIndex, aSlice, optIdx, aStrBin, aMakeSlice, viewCells, viewCell, arrN, frzU, t2, t3, t4, t5, t6, t7, t8, t9, t10, t11, t12, t13, t14, t15, t16, t17, t18, t19, t21, t22, t28, t29, t30, t33, t39, t45, t46, t47, t50, t51, t52, t56, t66, t67, t71, t77, t80, t81, t86, t88, t89, t90, t91, t92, t94, t95, t96, t98, t99, t100, t101, t102, u_bool, DtUp.cells]
          repeat' first | (refine ⟨fun _ => ?_, fun _ => ?_⟩) | (refine ⟨by omega, ?_⟩) | (intro _)
          all_goals (refine hK _ ?_; clear hK K)
          all_goals
            refine AW_r rfl rfl fun K hK => ?_
            simp [creg_nil, creg_op, creg_gd, cO, cR, cG_bool, cG_undef, ↓spl_tt, ↓spl_tf, ↓spl_ft, ↓spl_ff, spl_ct, spl_cf, putC, nmC, aop, ev, cv, updL, upd_app, upd_upd, lkE_app, lk_nil, lk_cons, aLen, aBuiltin, aBin, aIntBin, aFieldAddr, placeOf, aLoad, cellsAt, aUn, aIndexAddr, st0, valCells, isOne, Value.oneCell', aStore, setCells, List.getElem?_cons_zero, List.getElem?_cons_succ, Option.getD_some, formOb_nn, aBuild, parts, fillA, placesOf, aField, aIndex, aSlice, optIdx, aStrBin, aMakeSlice, viewCells, viewCell, arrN, frzU, t2, t3, t4, t5, t6, t7, t8, t9, t10, t11, t12, t13, t14, t15, t16, t17, t18, t19, t21, t22, t28, t29, t30, t33, t39, t45, t46, t47, t50, t51, t52, t56, t66, t67, t71, t77, t80, t81, t86, t88, t89, t90, t91, t92, t94, t95, t96, t98, t99, t100, t101, t102, u_bool, DtUp.cells]
            repeat' first | (refine ⟨fun _ => ?_, fun _ => ?_⟩) | (refine ⟨by omega, ?_⟩) | (intro _)
            all_goals (refine hK _ ?_; clear hK K)
            all_goals
              refine AW_ret (end_s ?_)
              simp [creg_nil, creg_op, creg_gd, cO, cR, cG_bool, cG_undef, ↓spl_tt, ↓spl_tf, ↓spl_ft, ↓spl_ff, spl_ct, spl_cf, putC, nmC, aop, ev, cv, updL, upd_app, upd_upd, lkE_app, lk_nil, lk_cons, aLen, aBuiltin, aBin, aIntBin, aFieldAddr, placeOf, aLoad, cellsAt, aUn, aIndexAddr, st0, valCells, isOne, Value.oneCell', aStore, setCells, List.getElem?_cons_zero, List.getElem?_cons_succ, Option.getD_some, formOb_nn, aBuild, parts, fillA, placesOf, aField, aIndex, aSlice, optIdx, aStrBin, aMakeSlice, viewCells, viewCell, arrN, frzU, t2, t3, t4, t5, t6, t7, t8, t9, t10, t11, t12, t13, t14, t15, t16, t17, t18, t19, t21, t22, t28, t29, t30, t33, t39, t45, t46, t47, t50, t51, t52, t56, t66, t67, t71, t77, t80, t81, t86, t88, t89, t90, t91, t92, t94, t95, t96, t98, t99, t100, t101, t102, u_bool, DtUp.cells, endR_some, am0_gg, am0_ss, am0_ll, am1_gg, am1_ss, am1_ll, am1_nl, am1_al, am2_gg, am2_ss, am2_ll, am2_nl, am2_al, am2_ff, am1s_nn, am1s_cc, am2s_nn, am2s_cc, amRs_one, amRs_two', amRs_thr, resAll_nil, resAll_tmp, resAll_cell]
              all_goals first | omega | (simp_all; done) | (simp [List.take_of_length_le]; done) | ((try simp_all); (try simp (disch := omega) only [wrap64, Int.tdiv_eq_ediv_of_nonneg, Int.tmod_eq_emod_of_nonneg, and_true, true_and]); done) | ((try simp_all); (try simp (disch := omega) only [wrap64, Int.tdiv_eq_ediv_of_nonneg, Int.tmod_eq_emod_of_nonneg, and_true, true_and] at *); omega)
theorem eqUp (u v : DtUp) (hs : DtUp.sz u ≤ 1048576) : PCall Try.prog 62 [.agg (DtUp.cells u), .agg (DtUp.cells v)] (.g (.bool (eqB u v))) := by
  simp only [DtUp.sz] at hs
  have s0 : (u.fChunk.length : Int) ≤ 1048576 := by omega
  have s1 : (u.fNodes.length : Int) ≤ 1048576 := by omega
  have he := DtUp.ext_iff u v
  refine gcall_of_walk Try.func62 (by rfl) (by rfl) (by rw [Try.ntmps62]; exact Nat.le_of_ble_eq_true rfl) rfl (by decide) ?_
  rw [Try.ntmps62]
  refine AW_k [(0, _), (1, _)] ⟨rfl, rfl, trivial⟩ ?_
  refine AW_r rfl rfl fun K hK => ?_
  simp [creg_nil, creg_op, creg_gd, cO, cR, cG_bool, cG_undef, ↓spl_tt, ↓spl_tf, ↓spl_ft, ↓spl_ff, spl_ct, spl_cf, putC, nmC, aop, ev, cv, updL, upd_app, upd_upd, lkE_app, lk_nil, lk_cons, aLen, aBuiltin, aBin, aIntBin, aFieldAddr, placeOf, aLoad, cellsAt, aUn, aIndexAddr, st0, valCells, isOne, Value.oneCell', aStore, setCells, List.getElem?_cons_zero, List.getElem?_cons_succ, Option.getD_some, formOb_nn, aBuild, parts, fillA, placesOf, aField, aIndex, aSlice, optIdx, aStrBin, aMakeSlice, viewCells, viewCell, arrN, frzU, t2, t3, t4, t5, t6, t7, t8, t9, t10, t11, t12, t13, t14, t15, t16, t17, t18, t19, t21, t22, t28, t29, t30, t33, t39, t45, t46, t47, t50, t51, t52, t56, t66, t67, t71, t77, t80, t81, t86, t88, t89, t90, t91, t92, t94, t95, t96, t98, t99, t100, t101, t102, u_bool, DtUp.cells]
  repeat' first | (refine ⟨fun _ => ?_, fun _ => ?_⟩) | (refine ⟨by omega, ?_⟩) | (intro _)
  all_goals (refine hK _ ?_; clear hK K)
  all_goals
    refine AW_seq ?_
    refine AW_r rfl rfl fun K hK => ?_
    simp [creg_nil, creg_op, creg_gd, cO, cR, cG_bool, cG_undef, ↓spl_tt, ↓spl_tf, ↓spl_ft, ↓spl_ff, spl_ct, spl_cf, putC, nmC, aop, ev, cv, updL, upd_app, upd_upd, lkE_app, lk_nil, lk_cons, aLen, aBuiltin, aBin, aIntBin, aFieldAddr, placeOf, aLoad, cellsAt, aUn, aIndexAddr, st0, valCells, isOne, Value.oneCell', aStore, setCells, List.getElem?_cons_zero, List.getElem?_cons_succ, Option.getD_some, formOb_nn, aBuild, parts, fillA, placesOf, aField, aIndex, aSlice, optIdx, aStrBin, aMakeSlice, viewCells, viewCell, arrN, frzU, t2, t3, t4, t5, t6, t7, t8, t9, t10, t11, t12, t13, t14, t15, t16, t17, t18, t19, t21, t22, t28, t29, t30, t33, t39, t45, t46, t47, t50, t51, t52, t56, t66, t67, t71, t77, t80, t81, t86, t88, t89, t90, t91, t92, t94, t95, t96, t98, t99, t100, t101, t102, u_bool, DtUp.cells]
    repeat' first | (refine ⟨fun _ => ?_, fun _ => ?_⟩) | (refine ⟨by omega, ?_⟩) | (intro _)
    all_goals (refine hK _ ?_; clear hK K)
    all_goals
      refine AW_cond rfl (fun hc18 => ?_) (fun hc18 => ?_)
      · try simp at hc18
        all_goals
          refine AW_r rfl rfl fun K hK => ?_
          simp [creg_nil, creg_op, creg_gd, cO, cR, cG_bool, cG_undef, ↓spl_tt, ↓spl_tf, ↓spl_ft, ↓spl_ff, spl_ct, spl_cf, putC, nmC, aop, ev, cv, updL, upd_app, upd_upd, lkE_app, lk_nil, lk_cons, aLen, aBuiltin, aBin, aIntBin, aFieldAddr, placeOf, aLoad, cellsAt, aUn, aIndexAddr, st0, valCells, isOne, Value.oneCell', aStore, setCells, List.getElem?_cons_zero, List.getElem?_cons_succ, Option.getD_some, formOb_nn, aBuild, parts, fillA, placesOf, aField, aIndex, aSlice, optIdx, aStrBin, aMakeSlice, viewCells, viewCell, arrN, frzU, t2, t3, t4, t5, t6, t7, t8, t9, t10, t11, t12, t13, t14, t15, t16, t17, t18, t19, t21, t22, t28, t29, t30, t33, t39, t45, t46, t47, t50, t51, t52, t56, t66, t67, t71, t77, t80, t81, t86, t88, t89, t90, t91, t92, t94, t95, t96, t98, t99, t100, t101, t102, u_bool, DtUp.cells]
          repeat' first | (refine ⟨fun _ => ?_, fun _ => ?_⟩) | (refine ⟨by omega, ?_⟩) | (intro _)
          all_goals (refine hK _ ?_; clear hK K)
          all_goals
            refine AW_ret (end_s ?_)
            simp [creg_nil, creg_op, creg_gd, cO, cR, cG_bool, cG_undef, ↓spl_tt, ↓spl_tf, ↓spl_ft, ↓spl_ff, spl_ct, spl_cf, putC, nmC, aop, ev, cv, updL, upd_app, upd_upd, lkE_app, lk_nil, lk_cons, aLen, aBuiltin, aBin, aIntBin, aFieldAddr, placeOf, aLoad, cellsAt, aUn, aIndexAddr, st0, valCells, isOne, Value.oneCell', aStore, setCells, List.getElem?_cons_zero, List.getElem?_cons_succ, Option.getD_some, formOb_nn, aBuild, parts, fillA, placesOf, aField, aIndex, aSlice, optIdx, aStrBin, aMakeSlice, viewCells, viewCell, arrN, frzU, t2, t3, t4, t5, t6, t7, t8, t9, t10, t11, t12, t13, t14, t15, t16, t17, t18, t19, t21, t22, t28, t29, t30, t33, t39, t45, t46, t47, t50, t51, t52, t56, t66, t67, t71, t77, t80, t81, t86, t88, t89, t90, t91, t92, t94, t95, t96, t98, t99, t100, t101, t102, u_bool, DtUp.cells, endR_some, am0_gg, am0_ss, am0_ll, am1_gg, am1_ss, am1_ll, am1_nl, am1_al, am2_gg, am2_ss, am2_ll, am2_nl, am2_al, am2_ff, am1s_nn, am1s_cc, am2s_nn, am2s_cc, amRs_one, amRs_two', amRs_thr, resAll_nil, resAll_tmp, resAll_cell]
            all_goals first | (refine eqB_of (he.mpr ?_); simp_all [eqB_true, eqB_false]; done) | (refine eqB_ne fun h => ?_; rw [he] at h; simp_all [eqB_true, eqB_false, eqB_self]; done) | (refine (eqB_of (he.mpr ?_)).symm; simp_all [eqB_true, eqB_false]; done) | (refine (eqB_ne fun h => ?_).symm; rw [he] at h; simp_all [eqB_true, eqB_false, eqB_self]; done)
      · try simp at hc18
        all_goals
          refine AW_skip ?_
          refine AW_id ?_
          refine AW_seq ?_
          refine AW_r rfl rfl fun K hK => ?_
          simp [creg_nil, creg_op, creg_gd, cO, cR, cG_bool, cG_undef, ↓spl_tt, ↓spl_tf, ↓spl_ft, ↓spl_ff, spl_ct, spl_cf, putC, nmC, aop, ev, cv, updL, upd_app, upd_upd, lkE_app, lk_nil, lk_cons, aLen, aBuiltin, aBin, aIntBin, aFieldAddr, placeOf, aLoad, cellsAt, aUn, aIndexAddr, st0, valCells, isOne, Value.oneCell', aStore, setCells, List.getElem?_cons_zero, List.getElem?_cons_succ, Option.getD_some, formOb_nn, aBuild, parts, fillA, placesOf, aField, aIndex, aSlice, optIdx, aStrBin, aMakeSlice, viewCells, viewCell, arrN, frzU, t2, t3, t4, t5, t6, t7, t8, t9, t10, t11, t12, t13, t14, t15, t16, t17, t18, t19, t21, t22, t28, t29, t30, t33, t39, t45, t46, t47, t50, t51, t52, t56, t66, t67, t71, t77, t80, t81, t86, t88, t89, t90, t91, t92, t94, t95, t96, t98, t99, t100, t101, t102, u_bool, DtUp.cells]
          repeat' first | (refine CKd_v (am2s_cons am2_sl (am2s_cons am2_sl am2s_nil)) (eqIntS _ _ (by first | assumption | omega)) rfl ?_; simp [creg_nil, creg_op, creg_gd, cO, cR, cG_bool, cG_undef, ↓spl_tt, ↓spl_tf, ↓spl_ft, ↓spl_ff, spl_ct, spl_cf, putC, nmC, aop, ev, cv, updL, upd_app, upd_upd, lkE_app, lk_nil, lk_cons, aLen, aBuiltin, aBin, aIntBin, aFieldAddr, placeOf, aLoad, cellsAt, aUn, aIndexAddr, st0, valCells, isOne, Value.oneCell', aStore, setCells, List.getElem?_cons_zero, List.getElem?_cons_succ, Option.getD_some, formOb_nn, aBuild, parts, fillA, placesOf, aField, aIndex, aSlice, optIdx, aStrBin, aMakeSlice, viewCells, viewCell, arrN, frzU, t2, t3, t4, t5, t6, t7, t8, t9, t10, t11, t12, t13, t14, t15, t16, t17, t18, t19, t21, t22, t28, t29, t30, t33, t39, t45, t46, t47, t50, t51, t52, t56, t66, t67, t71, t77, t80, t81, t86, t88, t89, t90, t91, t92, t94, t95, t96, t98, t99, t100, t101, t102, u_bool, DtUp.cells]) | (refine ⟨fun _ => ?_, fun _ => ?_⟩) | (refine ⟨by omega, ?_⟩) | (intro _)
          all_goals (refine hK _ ?_; clear hK K)
          all_goals
            refine AW_cond rfl (fun hc19 => ?_) (fun hc19 => ?_)
            · try simp at hc19
              all_goals
                refine AW_r rfl rfl fun K hK => ?_
                simp [creg_nil, creg_op, creg_gd, cO, cR, cG_bool, cG_undef, ↓spl_tt, ↓spl_tf, ↓spl_ft, ↓spl_ff, spl_ct, spl_cf, putC, nmC, aop, ev, cv, updL, upd_app, upd_upd, lkE_app, lk_nil, lk_cons, aLen, aBuiltin, aBin, aIntBin, aFieldAddr, placeOf, aLoad, cellsAt, aUn, aIndexAddr, st0, valCells, isOne, Value.oneCell', aStore, setCells, List.getElem?_cons_zero, List.getElem?_cons_succ, Option.getD_some, formOb_nn, aBuild, parts, fillA, placesOf, aField, aIndex, aSlice, optIdx, aStrBin, aMakeSlice, viewCells, viewCell, arrN, frzU, t2, t3, t4, t5, t6, t7, t8, t9, t10, t11, t12, t13, t14, t15, t16, t17, t18, t19, t21, t22, t28, t29, t30, t33, t39, t45, t46, t47, t50, t51, t52, t56, t66, t67, t71, t77, t80, t81, t86, t88, t89, t90, t91, t92, t94, t95, t96, t98, t99, t100, t101, t102, u_bool, DtUp.cells]
                repeat' first | (refine ⟨fun _ => ?_, fun _ => ?_⟩) | (refine ⟨by omega, ?_⟩) | (intro _)
                all_goals (refine hK _ ?_; clear hK K)
                all_goals
                  refine AW_ret (end_s ?_)
                  simp [creg_nil, creg_op, creg_gd, cO, cR, cG_bool, cG_undef, ↓spl_tt, ↓spl_tf, ↓spl_ft, ↓spl_ff, spl_ct, spl_cf, putC, nmC, aop, ev, cv, updL, upd_app, upd_upd, lkE_app, lk_nil, lk_cons, aLen, aBuiltin, aBin, aIntBin, aFieldAddr, placeOf, aLoad, cellsAt, aUn, aIndexAddr, st0, valCells, isOne, Value.oneCell', aStore, setCells, List.getElem?_cons_zero, List.getElem?_cons_succ, Option.getD_some, formOb_nn, aBuild, parts, fillA, placesOf, aField, aIndex, aSlice, optIdx, aStrBin, aMakeSlice, viewCells, viewCell, arrN, frzU, t2, t3, t4, t5, t6, t7, t8, t9, t10, t11, t12, t13, t14, t15, t16, t17, t18, t19, t21, t22, t28, t29, t30, t33, t39, t45, t46, t47, t50, t51, t52, t56, t66, t67, t71, t77, t80, t81, t86, t88, t89, t90, t91, t92, t94, t95, t96, t98, t99, t100, t101, t102, u_bool, DtUp.cells, endR_some, am0_gg, am0_ss, am0_ll, am1_gg, am1_ss, am1_ll, am1_nl, am1_al, am2_gg, am2_ss, am2_ll, am2_nl, am2_al, am2_ff, am1s_nn, am1s_cc, am2s_nn, am2s_cc, amRs_one, amRs_two', amRs_thr, resAll_nil, resAll_tmp, resAll_cell]
                  all_goals first | (refine eqB_of (he.mpr ?_); simp_all [eqB_true, eqB_false]; done) | (refine eqB_ne fun h => ?_; rw [he] at h; simp_all [eqB_true, eqB_false, eqB_self]; done) | (refine (eqB_of (he.mpr ?_)).symm; simp_all [eqB_true, eqB_false]; done) | (refine (eqB_ne fun h => ?_).symm; rw [he] at h; simp_all [eqB_true, eqB_false, eqB_self]; done)
            · try simp at hc19
              all_goals
                refine AW_skip ?_
                refine AW_id ?_
                refine AW_seq ?_
                refine AW_r rfl rfl fun K hK => ?_
                simp [creg_nil, creg_op, creg_gd, cO, cR, cG_bool, cG_undef, ↓spl_tt, ↓spl_tf, ↓spl_ft, ↓spl_ff, spl_ct, spl_cf, putC, nmC, aop, ev, cv, updL, upd_app, upd_upd, lkE_app, lk_nil, lk_cons, aLen, aBuiltin, aBin, aIntBin, aFieldAddr, placeOf, aLoad, cellsAt, aUn, aIndexAddr, st0, valCells, isOne, Value.oneCell', aStore, setCells, List.getElem?_cons_zero, List.getElem?_cons_succ, Option.getD_some, formOb_nn, aBuild, parts, fillA, placesOf, aField, aIndex, aSlice, optIdx, aStrBin, aMakeSlice, viewCells, viewCell, arrN, frzU, t2, t3, t4, t5, t6, t7, t8, t9, t10, t11, t12, t13, t14, t15, t16, t17, t18, t19, t21, t22, t28, t29, t30, t33, t39, t45, t46, t47, t50, t51, t52, t56, t66, t67, t71, t77, t80, t81, t86, t88, t89, t90, t91, t92, t94, t95, t96, t98, t99, t100, t101, t102, u_bool, DtUp.cells]
                repeat' first | (refine ⟨fun _ => ?_, fun _ => ?_⟩) | (refine ⟨by omega, ?_⟩) | (intro _)
                all_goals (refine hK _ ?_; clear hK K)
                all_goals
                  refine AW_cond rfl (fun hc20 => ?_) (fun hc20 => ?_)
                  · try simp at hc20
                    all_goals
                      refine AW_r rfl rfl fun K hK => ?_
                      simp [creg_nil, creg_op, creg_gd, cO, cR, cG_bool, cG_undef, ↓spl_tt, ↓spl_tf, ↓spl_ft, ↓spl_ff, spl_ct, spl_cf, putC, nmC, aop, ev, cv, updL, upd_app, upd_upd, lkE_app, lk_nil, lk_cons, aLen, aBuiltin, aBin, aIntBin, aFieldAddr, placeOf, aLoad, cellsAt, aUn, aIndexAddr, st0, valCells, isOne, Value.oneCell', aStore, setCells, List.getElem?_cons_zero, List.getElem?_cons_succ, Option.getD_some, formOb_nn, aBuild, parts, fillA, placesOf, aField, aIndex, aSlice, optIdx, aStrBin, aMakeSlice, viewCells, viewCell, arrN, frzU, t2, t3, t4, t5, t6, t7, t8, t9, t10, t11, t12, t13, t14, t15, t16, t17, t18, t19, t21, t22, t28, t29, t30, t33, t39, t45, t46, t47, t50, t51, t52, t56, t66, t67, t71, t77, t80, t81, t86, t88, t89, t90, t91, t92, t94, t95, t96, t98, t99, t100, t101, t102, u_bool, DtUp.cells]
                      repeat' first | (refine ⟨fun _ => ?_, fun _ => ?_⟩) | (refine ⟨by omega, ?_⟩) | (intro _)
                      all_goals (refine hK _ ?_; clear hK K)
                      all_goals
                        refine AW_ret (end_s ?_)
                        simp [creg_nil, creg_op, creg_gd, cO, cR, cG_bool, cG_undef, ↓spl_tt, ↓spl_tf, ↓spl_ft, ↓spl_ff, spl_ct, spl_cf, putC, nmC, aop, ev, cv, updL, upd_app, upd_upd, lkE_app, lk_nil, lk_cons, aLen, aBuiltin, aBin, aIntBin, aFieldAddr, placeOf, aLoad, cellsAt, aUn, aIndexAddr, st0, valCells, isOne, Value.oneCell', aStore, setCells, List.getElem?_cons_zero, List.getElem?_cons_succ, Option.getD_some, formOb_nn, aBuild, parts, fillA, placesOf, aField, aIndex, aSlice, optIdx, aStrBin, aMakeSlice, viewCells, viewCell, arrN, frzU, t2, t3, t4, t5, t6, t7, t8, t9, t10, t11, t12, t13, t14, t15, t16, t17, t18, t19, t21, t22, t28, t29, t30, t33, t39, t45, t46, t47, t50, t51, t52, t56, t66, t67, t71, t77, t80, t81, t86, t88, t89, t90, t91, t92, t94, t95, t96, t98, t99, t100, t101, t102, u_bool, DtUp.cells, endR_some, am0_gg, am0_ss, am0_ll, am1_gg, am1_ss, am1_ll, am1_nl, am1_al, am2_gg, am2_ss, am2_ll, am2_nl, am2_al, am2_ff, am1s_nn, am1s_cc, am2s_nn, am2s_cc, amRs_one, amRs_two', amRs_thr, resAll_nil, resAll_tmp, resAll_cell]
                        all_goals first | (refine eqB_of (he.mpr ?_); simp_all [eqB_true, eqB_false]; done) | (refine eqB_ne fun h => ?_; rw [he] at h; simp_all [eqB_true, eqB_false, eqB_self]; done) | (refine (eqB_of (he.mpr ?_)).symm; simp_all [eqB_true, eqB_false]; done) | (refine (eqB_ne fun h => ?_).symm; rw [he] at h; simp_all [eqB_true, eqB_false, eqB_self]; done)
                  · try simp at hc20
                    all_goals
                      refine AW_skip ?_
                      refine AW_id ?_
                      refine AW_r rfl rfl fun K hK => ?_
                      simp [creg_nil, creg_op, creg_gd, cO, cR, cG_bool, cG_undef, ↓spl_tt, ↓spl_tf, ↓spl_ft, ↓spl_ff, spl_ct, spl_cf, putC, nmC, aop, ev, cv, updL, upd_app, upd_upd, lkE_app, lk_nil, lk_cons, aLen, aBuiltin, aBin, aIntBin, aFieldAddr, placeOf, aLoad, cellsAt, aUn, aIndexAddr, st0, valCells, isOne, Value.oneCell', aStore, setCells, List.getElem?_cons_zero, List.getElem?_cons_succ, Option.getD_some, formOb_nn, aBuild, parts, fillA, placesOf, aField, aIndex, aSlice, optIdx, aStrBin, aMakeSlice, viewCells, viewCell, arrN, frzU, t2, t3, t4, t5, t6, t7, t8, t9, t10, t11, t12, t13, t14, t15, t16, t17, t18, t19, t21, t22, t28, t29, t30, t33, t39, t45, t46, t47, t50, t51, t52, t56, t66, t67, t71, t77, t80, t81, t86, t88, t89, t90, t91, t92, t94, t95, t96, t98, t99, t100, t101, t102, u_bool, DtUp.cells]
                      repeat' first | (refine ⟨fun _ => ?_, fun _ => ?_⟩) | (refine ⟨by omega, ?_⟩) | (intro _)
                      all_goals (refine hK _ ?_; clear hK K)
                      all_goals
                        refine AW_ret (end_s ?_)
                        simp [creg_nil, creg_op, creg_gd, cO, cR, cG_bool, cG_undef, ↓spl_tt, ↓spl_tf, ↓spl_ft, ↓spl_ff, spl_ct, spl_cf, putC, nmC, aop, ev, cv, updL, upd_app, upd_upd, lkE_app, lk_nil, lk_cons, aLen, aBuiltin, aBin, aIntBin, aFieldAddr, placeOf, aLoad, cellsAt, aUn, aIndexAddr, st0, valCells, isOne, Value.oneCell', aStore, setCells, List.getElem?_cons_zero, List.getElem?_cons_succ, Option.getD_some, formOb_nn, aBuild, parts, fillA, placesOf, aField, aIndex, aSlice, optIdx, aStrBin, aMakeSlice, viewCells, viewCell, arrN, frzU, t2, t3, t4, t5, t6, t7, t8, t9, t10, t11, t12, t13, t14, t15, t16, t17, t18, t19, t21, t22, t28, t29, t30, t33, t39, t45, t46, t47, t50, t51, t52, t56, t66, t67, t71, t77, t80, t81, t86, t88, t89, t90, t91, t92, t94, t95, t96, t98, t99, t100, t101, t102, u_bool, DtUp.cells, endR_some, am0_gg, am0_ss, am0_ll, am1_gg, am1_ss, am1_ll, am1_nl, am1_al, am2_gg, am2_ss, am2_ll, am2_nl, am2_al, am2_ff, am1s_nn, am1s_cc, am2s_nn, am2s_cc, amRs_one, amRs_two', amRs_thr, resAll_nil, resAll_tmp, resAll_cell]
                        all_goals first | (refine eqB_of (he.mpr ?_); simp_all [eqB_true, eqB_false]; done) | (refine eqB_ne fun h => ?_; rw [he] at h; simp_all [eqB_true, eqB_false, eqB_self]; done) | (refine (eqB_of (he.mpr ?_)).symm; simp_all [eqB_true, eqB_false]; done) | (refine (eqB_ne fun h => ?_).symm; rw [he] at h; simp_all [eqB_true, eqB_false, eqB_self]; done)
theorem szUpS (xs : List DtUp) (n : Int) (hn : 0 ≤ n ∧ n ≤ 1048576) (hw : (wfS DtUp.wf) xs) : PCall Try.prog 49 [.sl 3 (xs.map DtUp.cells), (.g (.int .i64 (n)))] (.g (.int .i64 (szR n (szS DtUp.sz xs)))) := by
  have hq := sumZ_nonneg DtUp.sz_nonneg xs
  have hw1 := hw.1
  refine gcall_of_walk Try.func49 (by rfl) (by rfl) (by rw [Try.ntmps49]; exact Nat.le_of_ble_eq_true rfl) rfl (by decide) ?_
  rw [Try.ntmps49]
  refine AW_k [(0, _), (1, _)] ⟨rfl, rfl, trivial⟩ ?_
  refine AW_r rfl rfl fun K hK => ?_
  simp (disch := omega) [creg_nil, creg_op, creg_gd, cO, cR, cG_bool, cG_undef, ↓spl_tt, ↓spl_tf, ↓spl_ft, ↓spl_ff, spl_ct, spl_cf, putC, nmC, aop, ev, cv, updL, upd_app, upd_upd, lkE_app, lk_nil, lk_cons, aLen, aBuiltin, aBin, aIntBin, aFieldAddr, placeOf, aLoad, cellsAt, aUn, aIndexAddr, st0, valCells, isOne, Value.oneCell', aStore, setCells, List.getElem?_cons_zero, List.getElem?_cons_succ, Option.getD_some, formOb_nn, aBuild, parts, fillA, placesOf, aField, aIndex, aSlice, optIdx, aStrBin, aMakeSlice, viewCells, viewCell, arrN, frzU, t2, t3, t4, t5, t6, t7, t8, t9, t10, t11, t12, t13, t14, t15, t16, t17, t18, t19, t21, t22, t28, t29, t30, t33, t39, t45, t46, t47, t50, t51, t52, t56, t66, t67, t71, t77, t80, t81, t86, t88, t89, t90, t91, t92, t94, t95, t96, t98, t99, t100, t101, t102, u_bool, wrap64, List.getElem?_eq_getElem, szR]
  repeat' first | (refine ⟨fun _ => ?_, fun _ => ?_⟩) | (refine ⟨by omega, ?_⟩) | (intro _)
  all_goals (refine hK _ ?_; clear hK K)
  all_goals
    refine AW_r rfl rfl fun K hK => ?_
    simp (disch := omega) [creg_nil, creg_op, creg_gd, cO, cR, cG_bool, cG_undef, ↓spl_tt, ↓spl_tf, ↓spl_ft, ↓spl_ff, spl_ct, spl_cf, putC, nmC, aop, ev, cv, updL, upd_app, upd_upd, lkE_app, lk_nil, lk_cons, aLen, aBuiltin, aBin, aIntBin, aFieldAddr, placeOf, aLoad, cellsAt, aUn, aIndexAddr, st0, valCells, isOne, Value.oneCell', aStore, setCells, List.getElem?_cons_zero, List.getElem?_cons_succ, Option.getD_some, formOb_nn, aBuild, parts, fillA, placesOf, aField, aIndex, aSlice, optIdx, aStrBin, aMakeSlice, viewCells, viewCell, arrN, frzU, t2, t3, t4, t5, t6, t7, t8, t9, t10, t11, t12, t13, t14, t15, t16, t17, t18, t19, t21, t22, t28, t29, t30, t33, t39, t45, t46, t47, t50, t51, t52, t56, t66, t67, t71, t77, t80, t81, t86, t88, t89, t90, t91, t92, t94, t95, t96, t98, t99, t100, t101, t102, u_bool, wrap64, List.getElem?_eq_getElem, szR]
    repeat' first | (refine ⟨fun _ => ?_, fun _ => ?_⟩) | (refine ⟨by omega, ?_⟩) | (intro _)
    all_goals (refine hK _ ?_; clear hK K)
    all_goals
      refine AW_seq ?_
      refine AW_r rfl rfl fun K hK => ?_
      simp (disch := omega) [creg_nil, creg_op, creg_gd, cO, cR, cG_bool, cG_undef, ↓spl_tt, ↓spl_tf, ↓spl_ft, ↓spl_ff, spl_ct, spl_cf, putC, nmC, aop, ev, cv, updL, upd_app, upd_upd, lkE_app, lk_nil, lk_cons, aLen, aBuiltin, aBin, aIntBin, aFieldAddr, placeOf, aLoad, cellsAt, aUn, aIndexAddr, st0, valCells, isOne, Value.oneCell', aStore, setCells, List.getElem?_cons_zero, List.getElem?_cons_succ, Option.getD_some, formOb_nn, aBuild, parts, fillA, placesOf, aField, aIndex, aSlice, optIdx, aStrBin, aMakeSlice, viewCells, viewCell, arrN, frzU, t2, t3, t4, t5, t6, t7, t8, t9, t10, t11, t12, t13, t14, t15, t16, t17, t18, t19, t21, t22, t28, t29, t30, t33, t39, t45, t46, t47, t50, t51, t52, t56, t66, t67, t71, t77, t80, t81, t86, t88, t89, t90, t91, t92, t94, t95, t96, t98, t99, t100, t101, t102, u_bool, wrap64, List.getElem?_eq_getElem, szR]
      repeat' first | (refine ⟨fun _ => ?_, fun _ => ?_⟩) | (refine ⟨by omega, ?_⟩) | (intro _)
      all_goals (refine hK _ ?_; clear hK K)
      all_goals
        refine AW_cond rfl (fun hc21 => ?_) (fun hc21 => ?_)
        · try simp at hc21
          all_goals
            refine AW_r rfl rfl fun K hK => ?_
            simp (disch := omega) [creg_nil, creg_op, creg_gd, cO, cR, cG_bool, cG_undef, ↓spl_tt, ↓spl_tf, ↓spl_ft, ↓spl_ff, spl_ct, spl_cf, putC, nmC, aop, ev, cv, updL, upd_app, upd_upd, lkE_app, lk_nil, lk_cons, aLen, aBuiltin, aBin, aIntBin, aFieldAddr, placeOf, aLoad, cellsAt, aUn, aIndexAddr, st0, valCells, isOne, Value.oneCell', aStore, setCells, List.getElem?_cons_zero, List.getElem?_cons_succ, Option.getD_some, formOb_nn, aBuild, parts, fillA, placesOf, aField, aIndex, aSlice, optIdx, aStrBin, aMakeSlice, viewCells, viewCell, arrN, frzU, t2, t3, t4, t5, t6, t7, t8, t9, t10, t11, t12, t13, t14, t15, t16, t17, t18, t19, t21, t22, t28, t29, t30, t33, t39, t45, t46, t47, t50, t51, t52, t56, t66, t67, t71, t77, t80, t81, t86, t88, t89, t90, t91, t92, t94, t95, t96, t98, t99, t100, t101, t102, u_bool, wrap64, List.getElem?_eq_getElem, szR]
            repeat' first | (refine ⟨fun _ => ?_, fun _ => ?_⟩) | (refine ⟨by omega, ?_⟩) | (intro _)
            all_goals (refine hK _ ?_; clear hK K)
            all_goals
              refine AW_ret (end_s ?_)
              simp (disch := omega) [creg_nil, creg_op, creg_gd, cO, cR, cG_bool, cG_undef, ↓spl_tt, ↓spl_tf, ↓spl_ft, ↓spl_ff, spl_ct, spl_cf, putC, nmC, aop, ev, cv, updL, upd_app, upd_upd, lkE_app, lk_nil, lk_cons, aLen, aBuiltin, aBin, aIntBin, aFieldAddr, placeOf, aLoad, cellsAt, aUn, aIndexAddr, st0, valCells, isOne, Value.oneCell', aStore, setCells, List.getElem?_cons_zero, List.getElem?_cons_succ, Option.getD_some, formOb_nn, aBuild, parts, fillA, placesOf, aField, aIndex, aSlice, optIdx, aStrBin, aMakeSlice, viewCells, viewCell, arrN, frzU, t2, t3, t4, t5, t6, t7, t8, t9, t10, t11, t12, t13, t14, t15, t16, t17, t18, t19, t21, t22, t28, t29, t30, t33, t39, t45, t46, t47, t50, t51, t52, t56, t66, t67, t71, t77, t80, t81, t86, t88, t89, t90, t91, t92, t94, t95, t96, t98, t99, t100, t101, t102, u_bool, wrap64, List.getElem?_eq_getElem, szR, endR_some, am0_gg, am0_ss, am0_ll, am1_gg, am1_ss, am1_ll, am1_nl, am1_al, am2_gg, am2_ss, am2_ll, am2_nl, am2_al, am2_ff, am1s_nn, am1s_cc, am2s_nn, am2s_cc, amRs_one, amRs_two', amRs_thr, resAll_nil, resAll_tmp, resAll_cell, szS]
              all_goals first | omega | (split <;> omega)
        · try simp at hc21
          all_goals
            refine AW_skip ?_
            refine AW_id ?_
            refine AW_seq ?_
            refine AW_r rfl rfl fun K hK => ?_
            simp (disch := omega) [creg_nil, creg_op, creg_gd, cO, cR, cG_bool, cG_undef, ↓spl_tt, ↓spl_tf, ↓spl_ft, ↓spl_ff, spl_ct, spl_cf, putC, nmC, aop, ev, cv, updL, upd_app, upd_upd, lkE_app, lk_nil, lk_cons, aLen, aBuiltin, aBin, aIntBin, aFieldAddr, placeOf, aLoad, cellsAt, aUn, aIndexAddr, st0, valCells, isOne, Value.oneCell', aStore, setCells, List.getElem?_cons_zero, List.getElem?_cons_succ, Option.getD_some, formOb_nn, aBuild, parts, fillA, placesOf, aField, aIndex, aSlice, optIdx, aStrBin, aMakeSlice, viewCells, viewCell, arrN, frzU, t2, t3, t4, t5, t6, t7, t8, t9, t10, t11, t12, t13, t14, t15, t16, t17, t18, t19, t21, t22, t28, t29, t30, t33, t39, t45, t46, t47, t50, t51, t52, t56, t66, t67, t71, t77, t80, t81, t86, t88, t89, t90, t91, t92, t94, t95, t96, t98, t99, t100, t101, t102, u_bool, wrap64, List.getElem?_eq_getElem, szR]
            repeat' first | (refine ⟨fun _ => ?_, fun _ => ?_⟩) | (refine ⟨by omega, ?_⟩) | (intro _)
            all_goals (refine hK _ ?_; clear hK K)
            all_goals
              refine AW_block ?_
              refine AW_loopS (fun m s => ∃ (i : Nat), m = xs.length - i ∧ (i ≤ xs.length ∧ 0 ≤ n - xs.length - sumZ DtUp.sz (xs.take i)) ∧ s = { env := lkE [(0, .sl 3 (xs.map DtUp.cells)), (1, (.g (.int .i64 (n - xs.length - sumZ DtUp.sz (xs.take i))))), (5, (.g (.int .i64 ((i : Nat)))))], ob := formOb [] [] }) ?_ ?_
              · refine ⟨_, LeS.kp [(0, .sl 3 (xs.map DtUp.cells)), (1, (.g (.int .i64 (n - xs.length - sumZ DtUp.sz (xs.take (0)))))), (5, (.g (.int .i64 (((0) : Nat)))))] (by simp [KpE, upd_app, lkE_app, lk_cons, sumZ_nil]; try rfl), _, 0, rfl, ?_, rfl⟩
                · simp [sumZ_nil]; omega
              · rintro m s ⟨i, rfl, ⟨hi, hn⟩, rfl⟩
                have hz := sumZ_nonneg DtUp.sz_nonneg (xs.take i)
                have hz2 := sumZ_take_le DtUp.sz_nonneg xs i
                refine AW_seq ?_
                refine AW_r rfl rfl fun K hK => ?_
                simp (disch := omega) [creg_nil, creg_op, creg_gd, cO, cR, cG_bool, cG_undef, ↓spl_tt, ↓spl_tf, ↓spl_ft, ↓spl_ff, spl_ct, spl_cf, putC, nmC, aop, ev, cv, updL, upd_app, upd_upd, lkE_app, lk_nil, lk_cons, aLen, aBuiltin, aBin, aIntBin, aFieldAddr, placeOf, aLoad, cellsAt, aUn, aIndexAddr, st0, valCells, isOne, Value.oneCell', aStore, setCells, List.getElem?_cons_zero, List.getElem?_cons_succ, Option.getD_some, formOb_nn, aBuild, parts, fillA, placesOf, aField, aIndex, aSlice, optIdx, aStrBin, aMakeSlice, viewCells, viewCell, arrN, frzU, t2, t3, t4, t5, t6, t7, t8, t9, t10, t11, t12, t13, t14, t15, t16, t17, t18, t19, t21, t22, t28, t29, t30, t33, t39, t45, t46, t47, t50, t51, t52, t56, t66, t67, t71, t77, t80, t81, t86, t88, t89, t90, t91, t92, t94, t95, t96, t98, t99, t100, t101, t102, u_bool, wrap64, List.getElem?_eq_getElem, szR, DtUp.cells]
                repeat' first | (refine ⟨fun _ => ?_, fun _ => ?_⟩) | (refine ⟨by omega, ?_⟩) | (intro _)
                all_goals (refine hK _ ?_; clear hK K)
                all_goals
                  refine AW_cond rfl (fun hc22 => ?_) (fun hc22 => ?_)
                  · try simp at hc22
                    all_goals
                      have hl := sumZ_take (f := DtUp.sz) xs i (by omega)
                      have hwE : DtUp.wf xs[i] := hw.2 _ (List.getElem_mem _)
                      have hz3 := sumZ_take_le DtUp.sz_nonneg xs (i + 1)
                      have hzE := DtUp.sz_nonneg xs[i]
                      have hszR : szR (n - xs.length - sumZ DtUp.sz (xs.take i)) (DtUp.sz xs[i]) = n - xs.length - sumZ DtUp.sz (xs.take (i + 1)) ∨ (szR (n - xs.length - sumZ DtUp.sz (xs.take i)) (DtUp.sz xs[i]) = -1 ∧ n - xs.length - sumZ DtUp.sz (xs.take (i + 1)) < 0) := by unfold szR; split <;> omega
                      refine AW_skip ?_
                      refine AW_id ?_
                      refine AW_seq ?_
                      refine AW_block ?_
                      refine AW_r rfl rfl fun K hK => ?_
                      simp (disch := omega) [creg_nil, creg_op, creg_gd, cO, cR, cG_bool, cG_undef, ↓spl_tt, ↓spl_tf, ↓spl_ft, ↓spl_ff, spl_ct, spl_cf, putC, nmC, aop, ev, cv, updL, upd_app, upd_upd, lkE_app, lk_nil, lk_cons, aLen, aBuiltin, aBin, aIntBin, aFieldAddr, placeOf, aLoad, cellsAt, aUn, aIndexAddr, st0, valCells, isOne, Value.oneCell', aStore, setCells, List.getElem?_cons_zero, List.getElem?_cons_succ, Option.getD_some, formOb_nn, aBuild, parts, fillA, placesOf, aField, aIndex, aSlice, optIdx, aStrBin, aMakeSlice, viewCells, viewCell, arrN, frzU, t2, t3, t4, t5, t6, t7, t8, t9, t10, t11, t12, t13, t14, t15, t16, t17, t18, t19, t21, t22, t28, t29, t30, t33, t39, t45, t46, t47, t50, t51, t52, t56, t66, t67, t71, t77, t80, t81, t86, t88, t89, t90, t91, t92, t94, t95, t96, t98, t99, t100, t101, t102, u_bool, wrap64, List.getElem?_eq_getElem, szR, DtUp.cells]
                      repeat' first | (refine CKd_v (am2s_cons (am2_agg rfl) (am2s_cons am2_g am2s_nil)) (szUp _ _ (by omega) (by first | exact hwE | exact hw)) rfl ?_; simp (disch := omega) [creg_nil, creg_op, creg_gd, cO, cR, cG_bool, cG_undef, ↓spl_tt, ↓spl_tf, ↓spl_ft, ↓spl_ff, spl_ct, spl_cf, putC, nmC, aop, ev, cv, updL, upd_app, upd_upd, lkE_app, lk_nil, lk_cons, aLen, aBuiltin, aBin, aIntBin, aFieldAddr, placeOf, aLoad, cellsAt, aUn, aIndexAddr, st0, valCells, isOne, Value.oneCell', aStore, setCells, List.getElem?_cons_zero, List.getElem?_cons_succ, Option.getD_some, formOb_nn, aBuild, parts, fillA, placesOf, aField, aIndex, aSlice, optIdx, aStrBin, aMakeSlice, viewCells, viewCell, arrN, frzU, t2, t3, t4, t5, t6, t7, t8, t9, t10, t11, t12, t13, t14, t15, t16, t17, t18, t19, t21, t22, t28, t29, t30, t33, t39, t45, t46, t47, t50, t51, t52, t56, t66, t67, t71, t77, t80, t81, t86, t88, t89, t90, t91, t92, t94, t95, t96, t98, t99, t100, t101, t102, u_bool, wrap64, List.getElem?_eq_getElem, szR, DtUp.cells]) | (refine ⟨fun _ => ?_, fun _ => ?_⟩) | (refine ⟨by omega, ?_⟩) | (intro _)
                      all_goals (refine hK _ ?_; clear hK K)
                      all_goals
                        refine AW_r rfl rfl fun K hK => ?_
                        simp (disch := omega) [creg_nil, creg_op, creg_gd, cO, cR, cG_bool, cG_undef, ↓spl_tt, ↓spl_tf, ↓spl_ft, ↓spl_ff, spl_ct, spl_cf, putC, nmC, aop, ev, cv, updL, upd_app, upd_upd, lkE_app, lk_nil, lk_cons, aLen, aBuiltin, aBin, aIntBin, aFieldAddr, placeOf, aLoad, cellsAt, aUn, aIndexAddr, st0, valCells, isOne, Value.oneCell', aStore, setCells, List.getElem?_cons_zero, List.getElem?_cons_succ, Option.getD_some, formOb_nn, aBuild, parts, fillA, placesOf, aField, aIndex, aSlice, optIdx, aStrBin, aMakeSlice, viewCells, viewCell, arrN, frzU, t2, t3, t4, t5, t6, t7, t8, t9, t10, t11, t12, t13, t14, t15, t16, t17, t18, t19, t21, t22, t28, t29, t30, t33, t39, t45, t46, t47, t50, t51, t52, t56, t66, t67, t71, t77, t80, t81, t86, t88, t89, t90, t91, t92, t94, t95, t96, t98, t99, t100, t101, t102, u_bool, wrap64, List.getElem?_eq_getElem, szR, DtUp.cells]
                        repeat' first | (refine ⟨fun _ => ?_, fun _ => ?_⟩) | (refine ⟨by omega, ?_⟩) | (intro _)
                        all_goals (refine hK _ ?_; clear hK K)
                        all_goals
                          refine AW_cond rfl (fun hc23 => ?_) (fun hc23 => ?_)
                          · try simp at hc23
                            all_goals
                              refine AW_r rfl rfl fun K hK => ?_
                              simp (disch := omega) [creg_nil, creg_op, creg_gd, cO, cR, cG_bool, cG_undef, ↓spl_tt, ↓spl_tf, ↓spl_ft, ↓spl_ff, spl_ct, spl_cf, putC, nmC, aop, ev, cv, updL, upd_app, upd_upd, lkE_app, lk_nil, lk_cons, aLen, aBuiltin, aBin, aIntBin, aFieldAddr, placeOf, aLoad, cellsAt, aUn, aIndexAddr, st0, valCells, isOne, Value.oneCell', aStore, setCells, List.getElem?_cons_zero, List.getElem?_cons_succ, Option.getD_some, formOb_nn, aBuild, parts, fillA, placesOf, aField, aIndex, aSlice, optIdx, aStrBin, aMakeSlice, viewCells, viewCell, arrN, frzU, t2, t3, t4, t5, t6, t7, t8, t9, t10, t11, t12, t13, t14, t15, t16, t17, t18, t19, t21, t22, t28, t29, t30, t33, t39, t45, t46, t47, t50, t51, t52, t56, t66, t67, t71, t77, t80, t81, t86, t88, t89, t90, t91, t92, t94, t95, t96, t98, t99, t100, t101, t102, u_bool, wrap64, List.getElem?_eq_getElem, szR, DtUp.cells]
                              repeat' first | (refine ⟨fun _ => ?_, fun _ => ?_⟩) | (refine ⟨by omega, ?_⟩) | (intro _)
                              all_goals (refine hK _ ?_; clear hK K)
                              all_goals
                                refine AW_ret (end_s ?_)
                                simp (disch := omega) [creg_nil, creg_op, creg_gd, cO, cR, cG_bool, cG_undef, ↓spl_tt, ↓spl_tf, ↓spl_ft, ↓spl_ff, spl_ct, spl_cf, putC, nmC, aop, ev, cv, updL, upd_app, upd_upd, lkE_app, lk_nil, lk_cons, aLen, aBuiltin, aBin, aIntBin, aFieldAddr, placeOf, aLoad, cellsAt, aUn, aIndexAddr, st0, valCells, isOne, Value.oneCell', aStore, setCells, List.getElem?_cons_zero, List.getElem?_cons_succ, Option.getD_some, formOb_nn, aBuild, parts, fillA, placesOf, aField, aIndex, aSlice, optIdx, aStrBin, aMakeSlice, viewCells, viewCell, arrN, frzU, t2, t3, t4, t5, t6, t7, t8, t9, t10, t11, t12, t13, t14, t15, t16, t17, t18, t19, t21, t22, t28, t29, t30, t33, t39, t45, t46, t47, t50, t51, t52, t56, t66, t67, t71, t77, t80, t81, t86, t88, t89, t90, t91, t92, t94, t95, t96, t98, t99, t100, t101, t102, u_bool, wrap64, List.getElem?_eq_getElem, szR, DtUp.cells, endR_some, am0_gg, am0_ss, am0_ll, am1_gg, am1_ss, am1_ll, am1_nl, am1_al, am2_gg, am2_ss, am2_ll, am2_nl, am2_al, am2_ff, am1s_nn, am1s_cc, am2s_nn, am2s_cc, amRs_one, amRs_two', amRs_thr, resAll_nil, resAll_tmp, resAll_cell, szS]
                                all_goals first | omega | (split <;> omega)
                          · try simp at hc23
                            all_goals
                              refine AW_skip ?_
                              refine AW_id ?_
                              refine AW_re rfl rfl fun K hK => ?_
                              simp (disch := omega) [creg_nil, creg_op, creg_gd, cO, cR, cG_bool, cG_undef, ↓spl_tt, ↓spl_tf, ↓spl_ft, ↓spl_ff, spl_ct, spl_cf, putC, nmC, aop, ev, cv, updL, upd_app, upd_upd, lkE_app, lk_nil, lk_cons, aLen, aBuiltin, aBin, aIntBin, aFieldAddr, placeOf, aLoad, cellsAt, aUn, aIndexAddr, st0, valCells, isOne, Value.oneCell', aStore, setCells, List.getElem?_cons_zero, List.getElem?_cons_succ, Option.getD_some, formOb_nn, aBuild, parts, fillA, placesOf, aField, aIndex, aSlice, optIdx, aStrBin, aMakeSlice, viewCells, viewCell, arrN, frzU, t2, t3, t4, t5, t6, t7, t8, t9, t10, t11, t12, t13, t14, t15, t16, t17, t18, t19, t21, t22, t28, t29, t30, t33, t39, t45, t46, t47, t50, t51, t52, t56, t66, t67, t71, t77, t80, t81, t86, t88, t89, t90, t91, t92, t94, t95, t96, t98, t99, t100, t101, t102, u_bool, wrap64, List.getElem?_eq_getElem, szR, DtUp.cells]
                              repeat' first | (refine ⟨fun _ => ?_, fun _ => ?_⟩) | (refine ⟨by omega, ?_⟩) | (intro _)
                              all_goals (refine hK _ ?_; clear hK K)
                              all_goals
                                refine ⟨_, LeS.kp [(0, .sl 3 (xs.map DtUp.cells)), (1, (.g (.int .i64 (n - xs.length - sumZ DtUp.sz (xs.take (i + 1)))))), (5, (.g (.int .i64 (((i + 1) : Nat)))))] (by simp [KpE, upd_app, lkE_app, lk_cons, sumZ_nil]; first | rfl | omega), _, ?_, i + 1, rfl, ?_, rfl⟩
                                · omega
                                · omega
                  · try simp at hc22
                    all_goals
                      have hi2 : i = xs.length := by omega
                      subst hi2
                      simp only [List.take_length] at *
                      refine AW_exit ?_
                      refine AW_id ?_
                      refine AW_r rfl rfl fun K hK => ?_
                      simp (disch := omega) [creg_nil, creg_op, creg_gd, cO, cR, cG_bool, cG_undef, ↓spl_tt, ↓spl_tf, ↓spl_ft, ↓spl_ff, spl_ct, spl_cf, putC, nmC, aop, ev, cv, updL, upd_app, upd_upd, lkE_app, lk_nil, lk_cons, aLen, aBuiltin, aBin, aIntBin, aFieldAddr, placeOf, aLoad, cellsAt, aUn, aIndexAddr, st0, valCells, isOne, Value.oneCell', aStore, setCells, List.getElem?_cons_zero, List.getElem?_cons_succ, Option.getD_some, formOb_nn, aBuild, parts, fillA, placesOf, aField, aIndex, aSlice, optIdx, aStrBin, aMakeSlice, viewCells, viewCell, arrN, frzU, t2, t3, t4, t5, t6, t7, t8, t9, t10, t11, t12, t13, t14, t15, t16, t17, t18, t19, t21, t22, t28, t29, t30, t33, t39, t45, t46, t47, t50, t51, t52, t56, t66, t67, t71, t77, t80, t81, t86, t88, t89, t90, t91, t92, t94, t95, t96, t98, t99, t100, t101, t102, u_bool, wrap64, List.getElem?_eq_getElem, szR, DtUp.cells]
                      repeat' first | (refine ⟨fun _ => ?_, fun _ => ?_⟩) | (refine ⟨by omega, ?_⟩) | (intro _)
                      all_goals (refine hK _ ?_; clear hK K)
                      all_goals
                        refine AW_ret (end_s ?_)
                        simp (disch := omega) [creg_nil, creg_op, creg_gd, cO, cR, cG_bool, cG_undef, ↓spl_tt, ↓spl_tf, ↓spl_ft, ↓spl_ff, spl_ct, spl_cf, putC, nmC, aop, ev, cv, updL, upd_app, upd_upd, lkE_app, lk_nil, lk_cons, aLen, aBuiltin, aBin, aIntBin, aFieldAddr, placeOf, aLoad, cellsAt, aUn, aIndexAddr, st0, valCells, isOne, Value.oneCell', aStore, setCells, List.getElem?_cons_zero, List.getElem?_cons_succ, Option.getD_some, formOb_nn, aBuild, parts, fillA, placesOf, aField, aIndex, aSlice, optIdx, aStrBin, aMakeSlice, viewCells, viewCell, arrN, frzU, t2, t3, t4, t5, t6, t7, t8, t9, t10, t11, t12, t13, t14, t15, t16, t17, t18, t19, t21, t22, t28, t29, t30, t33, t39, t45, t46, t47, t50, t51, t52, t56, t66, t67, t71, t77, t80, t81, t86, t88, t89, t90, t91, t92, t94, t95, t96, t98, t99, t100, t101, t102, u_bool, wrap64, List.getElem?_eq_getElem, szR, DtUp.cells, endR_some, am0_gg, am0_ss, am0_ll, am1_gg, am1_ss, am1_ll, am1_nl, am1_al, am2_gg, am2_ss, am2_ll, am2_nl, am2_al, am2_ff, am1s_nn, am1s_cc, am2s_nn, am2s_cc, amRs_one, amRs_two', amRs_thr, resAll_nil, resAll_tmp, resAll_cell, szS]
                        all_goals first | omega | (split <;> omega)
theorem toUpS (xs : List DtUp) (hs : szS DtUp.sz xs ≤ 1048576) : PCall Try.prog 51 [.sl 3 (xs.map DtUp.cells)] (.sl 3 (xs.map DtUp.cells)) := by
  have hn : xs.length ≤ 1048576 := by have := sumZ_nonneg DtUp.sz_nonneg xs; simp only [szS] at hs; omega
  refine gcall_of_walk Try.func51 (by rfl) (by rfl) (by rw [Try.ntmps51]; exact Nat.le_of_ble_eq_true rfl) rfl (by decide) ?_
  rw [Try.ntmps51]
  refine AW_k [(0, _)] ⟨rfl, trivial⟩ ?_
  refine AW_r rfl rfl fun K hK => ?_
  simp (disch := omega) [creg_nil, creg_op, creg_gd, cO, cR, cG_bool, cG_undef, ↓spl_tt, ↓spl_tf, ↓spl_ft, ↓spl_ff, spl_ct, spl_cf, putC, nmC, aop, ev, cv, updL, upd_app, upd_upd, lkE_app, lk_nil, lk_cons, aLen, aBuiltin, aBin, aIntBin, aFieldAddr, placeOf, aLoad, cellsAt, aUn, aIndexAddr, st0, valCells, isOne, Value.oneCell', aStore, setCells, List.getElem?_cons_zero, List.getElem?_cons_succ, Option.getD_some, formOb_nn, aBuild, parts, fillA, placesOf, aField, aIndex, aSlice, optIdx, aStrBin, aMakeSlice, viewCells, viewCell, arrN, frzU, t2, t3, t4, t5, t6, t7, t8, t9, t10, t11, t12, t13, t14, t15, t16, t17, t18, t19, t21, t22, t28, t29, t30, t33, t39, t45, t46, t47, t50, t51, t52, t56, t66, t67, t71, t77, t80, t81, t86, t88, t89, t90, t91, t92, t94, t95, t96, t98, t99, t100, t101, t102, u_bool, wrap64, List.getElem?_eq_getElem]
  repeat' first | (refine ⟨fun _ => ?_, fun _ => ?_⟩) | (refine ⟨by omega, ?_⟩) | (intro _)
  all_goals (refine hK _ ?_; clear hK K)
  all_goals
    refine AW_r rfl rfl fun K hK => ?_
    simp (disch := omega) [creg_nil, creg_op, creg_gd, cO, cR, cG_bool, cG_undef, ↓spl_tt, ↓spl_tf, ↓spl_ft, ↓spl_ff, spl_ct, spl_cf, putC, nmC, aop, ev, cv, updL, upd_app, upd_upd, lkE_app, lk_nil, lk_cons, aLen, aBuiltin, aBin, aIntBin, aFieldAddr, placeOf, aLoad, cellsAt, aUn, aIndexAddr, st0, valCells, isOne, Value.oneCell', aStore, setCells, List.getElem?_cons_zero, List.getElem?_cons_succ, Option.getD_some, formOb_nn, aBuild, parts, fillA, placesOf, aField, aIndex, aSlice, optIdx, aStrBin, aMakeSlice, viewCells, viewCell, arrN, frzU, t2, t3, t4, t5, t6, t7, t8, t9, t10, t11, t12, t13, t14, t15, t16, t17, t18, t19, t21, t22, t28, t29, t30, t33, t39, t45, t46, t47, t50, t51, t52, t56, t66, t67, t71, t77, t80, t81, t86, t88, t89, t90, t91, t92, t94, t95, t96, t98, t99, t100, t101, t102, u_bool, wrap64, List.getElem?_eq_getElem]
    repeat' first | (refine ⟨fun _ => ?_, fun _ => ?_⟩) | (refine ⟨by omega, ?_⟩) | (intro _)
    all_goals (refine hK _ ?_; clear hK K)
    all_goals
      refine AW_seq ?_
      refine AW_r rfl rfl fun K hK => ?_
      simp (disch := omega) [creg_nil, creg_op, creg_gd, cO, cR, cG_bool, cG_undef, ↓spl_tt, ↓spl_tf, ↓spl_ft, ↓spl_ff, spl_ct, spl_cf, putC, nmC, aop, ev, cv, updL, upd_app, upd_upd, lkE_app, lk_nil, lk_cons, aLen, aBuiltin, aBin, aIntBin, aFieldAddr, placeOf, aLoad, cellsAt, aUn, aIndexAddr, st0, valCells, isOne, Value.oneCell', aStore, setCells, List.getElem?_cons_zero, List.getElem?_cons_succ, Option.getD_some, formOb_nn, aBuild, parts, fillA, placesOf, aField, aIndex, aSlice, optIdx, aStrBin, aMakeSlice, viewCells, viewCell, arrN, frzU, t2, t3, t4, t5, t6, t7, t8, t9, t10, t11, t12, t13, t14, t15, t16, t17, t18, t19, t21, t22, t28, t29, t30, t33, t39, t45, t46, t47, t50, t51, t52, t56, t66, t67, t71, t77, t80, t81, t86, t88, t89, t90, t91, t92, t94, t95, t96, t98, t99, t100, t101, t102, u_bool, wrap64, List.getElem?_eq_getElem]
      repeat' first | (refine ⟨fun _ => ?_, fun _ => ?_⟩) | (refine ⟨by omega, ?_⟩) | (intro _)
      all_goals (refine hK _ ?_; clear hK K)
      all_goals
        refine AW_block ?_
        refine AW_loopS (fun m s => ∃ (i : Nat) (ys : List (List AV)), m = xs.length - i ∧ (i ≤ xs.length ∧ ys.length = xs.length ∧ (∀ j, j < i → ys[j]? = (xs.map DtUp.cells)[j]?) ∧ (∀ y ∈ ys, y.length = 3)) ∧ s = { env := lkE [(0, .sl 3 (xs.map DtUp.cells)), (3, .arr 128 0 xs.length), (4, (.g (.int .i64 ((i : Nat)))))], ob := upd (formOb [] []) 128 (some (.flat 3 ys)) }) ?_ ?_
        · refine ⟨_, LeS.kp [(0, .sl 3 (xs.map DtUp.cells)), (3, .arr 128 0 xs.length), (4, (.g (.int .i64 (((0) : Nat)))))] (by simp [KpE, upd_app, lkE_app, lk_cons]; try rfl), _, 0, List.replicate xs.length [.s [], .g (.slice none 0 0), .g (.int .i64 0)], rfl, ?_, rfl⟩
          · simp
        · rintro m s ⟨i, ys, rfl, ⟨hi, hl, hpre, hone⟩, rfl⟩
          refine AW_seq ?_
          refine AW_r rfl rfl fun K hK => ?_
          simp (disch := omega) [creg_nil, creg_op, creg_gd, cO, cR, cG_bool, cG_undef, ↓spl_tt, ↓spl_tf, ↓spl_ft, ↓spl_ff, spl_ct, spl_cf, putC, nmC, aop, ev, cv, updL, upd_app, upd_upd, lkE_app, lk_nil, lk_cons, aLen, aBuiltin, aBin, aIntBin, aFieldAddr, placeOf, aLoad, cellsAt, aUn, aIndexAddr, st0, valCells, isOne, Value.oneCell', aStore, setCells, List.getElem?_cons_zero, List.getElem?_cons_succ, Option.getD_some, formOb_nn, aBuild, parts, fillA, placesOf, aField, aIndex, aSlice, optIdx, aStrBin, aMakeSlice, viewCells, viewCell, arrN, frzU, t2, t3, t4, t5, t6, t7, t8, t9, t10, t11, t12, t13, t14, t15, t16, t17, t18, t19, t21, t22, t28, t29, t30, t33, t39, t45, t46, t47, t50, t51, t52, t56, t66, t67, t71, t77, t80, t81, t86, t88, t89, t90, t91, t92, t94, t95, t96, t98, t99, t100, t101, t102, u_bool, wrap64, List.getElem?_eq_getElem, DtUp.cells]
          repeat' first | (refine ⟨fun _ => ?_, fun _ => ?_⟩) | (refine ⟨by omega, ?_⟩) | (intro _)
          all_goals (refine hK _ ?_; clear hK K)
          all_goals
            refine AW_cond rfl (fun hc24 => ?_) (fun hc24 => ?_)
            · try simp at hc24
              all_goals
                obtain ⟨c1, c2, c3, h6⟩ : ∃ c1 c2 c3, ys[i]'(by omega) = [c1, c2, c3] := len3 (hone _ (List.getElem_mem _))
                have hsE : DtUp.sz xs[i] ≤ 1048576 := by have := sumZ_mem_le DtUp.sz_nonneg xs xs[i] (List.getElem_mem _); simp only [szS] at hs; omega
                refine AW_skip ?_
                refine AW_id ?_
                refine AW_seq ?_
                refine AW_block ?_
                refine AW_re rfl rfl fun K hK => ?_
                simp (disch := omega) [creg_nil, creg_op, creg_gd, cO, cR, cG_bool, cG_undef, ↓spl_tt, ↓spl_tf, ↓spl_ft, ↓spl_ff, spl_ct, spl_cf, putC, nmC, aop, ev, cv, updL, upd_app, upd_upd, lkE_app, lk_nil, lk_cons, aLen, aBuiltin, aBin, aIntBin, aFieldAddr, placeOf, aLoad, cellsAt, aUn, aIndexAddr, st0, valCells, isOne, Value.oneCell', aStore, setCells, List.getElem?_cons_zero, List.getElem?_cons_succ, Option.getD_some, formOb_nn, aBuild, parts, fillA, placesOf, aField, aIndex, aSlice, optIdx, aStrBin, aMakeSlice, viewCells, viewCell, arrN, frzU, t2, t3, t4, t5, t6, t7, t8, t9, t10, t11, t12, t13, t14, t15, t16, t17, t18, t19, t21, t22, t28, t29, t30, t33, t39, t45, t46, t47, t50, t51, t52, t56, t66, t67, t71, t77, t80, t81, t86, t88, t89, t90, t91, t92, t94, t95, t96, t98, t99, t100, t101, t102, u_bool, wrap64, List.getElem?_eq_getElem, DtUp.cells, h6]
                repeat' first | (refine CKd_v (am2s_cons (am2_agg rfl) am2s_nil) (toUp _ (by first | assumption | omega)) rfl ?_; simp (disch := omega) [creg_nil, creg_op, creg_gd, cO, cR, cG_bool, cG_undef, ↓spl_tt, ↓spl_tf, ↓spl_ft, ↓spl_ff, spl_ct, spl_cf, putC, nmC, aop, ev, cv, updL, upd_app, upd_upd, lkE_app, lk_nil, lk_cons, aLen, aBuiltin, aBin, aIntBin, aFieldAddr, placeOf, aLoad, cellsAt, aUn, aIndexAddr, st0, valCells, isOne, Value.oneCell', aStore, setCells, List.getElem?_cons_zero, List.getElem?_cons_succ, Option.getD_some, formOb_nn, aBuild, parts, fillA, placesOf, aField, aIndex, aSlice, optIdx, aStrBin, aMakeSlice, viewCells, viewCell, arrN, frzU, t2, t3, t4, t5, t6, t7, t8, t9, t10, t11, t12, t13, t14, t15, t16, t17, t18, t19, t21, t22, t28, t29, t30, t33, t39, t45, t46, t47, t50, t51, t52, t56, t66, t67, t71, t77, t80, t81, t86, t88, t89, t90, t91, t92, t94, t95, t96, t98, t99, t100, t101, t102, u_bool, wrap64, List.getElem?_eq_getElem, DtUp.cells, h6]) | (refine ⟨fun _ => ?_, fun _ => ?_⟩) | (refine ⟨by omega, ?_⟩) | (intro _)
                all_goals (refine hK _ ?_; clear hK K)
                all_goals
                  refine AW_id ?_
                  refine AW_re rfl rfl fun K hK => ?_
                  simp (disch := omega) [creg_nil, creg_op, creg_gd, cO, cR, cG_bool, cG_undef, ↓spl_tt, ↓spl_tf, ↓spl_ft, ↓spl_ff, spl_ct, spl_cf, putC, nmC, aop, ev, cv, updL, upd_app, upd_upd, lkE_app, lk_nil, lk_cons, aLen, aBuiltin, aBin, aIntBin, aFieldAddr, placeOf, aLoad, cellsAt, aUn, aIndexAddr, st0, valCells, isOne, Value.oneCell', aStore, setCells, List.getElem?_cons_zero, List.getElem?_cons_succ, Option.getD_some, formOb_nn, aBuild, parts, fillA, placesOf, aField, aIndex, aSlice, optIdx, aStrBin, aMakeSlice, viewCells, viewCell, arrN, frzU, t2, t3, t4, t5, t6, t7, t8, t9, t10, t11, t12, t13, t14, t15, t16, t17, t18, t19, t21, t22, t28, t29, t30, t33, t39, t45, t46, t47, t50, t51, t52, t56, t66, t67, t71, t77, t80, t81, t86, t88, t89, t90, t91, t92, t94, t95, t96, t98, t99, t100, t101, t102, u_bool, wrap64, List.getElem?_eq_getElem, DtUp.cells, h6]
                  repeat' first | (refine ⟨fun _ => ?_, fun _ => ?_⟩) | (refine ⟨by omega, ?_⟩) | (intro _)
                  all_goals (refine hK _ ?_; clear hK K)
                  all_goals
                    refine ⟨_, LeS.kp [(0, .sl 3 (xs.map DtUp.cells)), (3, .arr 128 0 xs.length), (4, (.g (.int .i64 (((i + 1) : Nat)))))] (by simp [KpE, upd_app, lkE_app, lk_cons]; try rfl), _, ?_, i + 1, ys.set i (DtUp.cells xs[i]), rfl, ?_, ?_⟩
                    · omega
                    · refine ⟨by omega, by simpa using hl, fun j hj => ?_, fun y hy => ?_⟩
                      · by_cases hji : j = i
                        · subst hji; rw [List.getElem?_set_self (by omega), List.getElem?_map, List.getElem?_eq_getElem (by omega)]; rfl
                        · rw [List.getElem?_set_ne (by omega)]; exact hpre j (by omega)
                      · rcases List.mem_or_eq_of_mem_set hy with hy | rfl
                        · exact hone y hy
                        · rfl
                    · rfl
            · try simp at hc24
              all_goals
                have hi2 : i = xs.length := by omega
                subst hi2
                have hys : ys = xs.map DtUp.cells := List.ext_getElem? fun j => by
                  by_cases hj : j < xs.length
                  · exact hpre j hj
                  · rw [List.getElem?_eq_none (by omega), List.getElem?_eq_none (by simp; omega)]
                subst hys
                refine AW_exit ?_
                refine AW_id ?_
                refine AW_r rfl rfl fun K hK => ?_
                simp (disch := omega) [creg_nil, creg_op, creg_gd, cO, cR, cG_bool, cG_undef, ↓spl_tt, ↓spl_tf, ↓spl_ft, ↓spl_ff, spl_ct, spl_cf, putC, nmC, aop, ev, cv, updL, upd_app, upd_upd, lkE_app, lk_nil, lk_cons, aLen, aBuiltin, aBin, aIntBin, aFieldAddr, placeOf, aLoad, cellsAt, aUn, aIndexAddr, st0, valCells, isOne, Value.oneCell', aStore, setCells, List.getElem?_cons_zero, List.getElem?_cons_succ, Option.getD_some, formOb_nn, aBuild, parts, fillA, placesOf, aField, aIndex, aSlice, optIdx, aStrBin, aMakeSlice, viewCells, viewCell, arrN, frzU, t2, t3, t4, t5, t6, t7, t8, t9, t10, t11, t12, t13, t14, t15, t16, t17, t18, t19, t21, t22, t28, t29, t30, t33, t39, t45, t46, t47, t50, t51, t52, t56, t66, t67, t71, t77, t80, t81, t86, t88, t89, t90, t91, t92, t94, t95, t96, t98, t99, t100, t101, t102, u_bool, wrap64, List.getElem?_eq_getElem, DtUp.cells]
                repeat' first | (refine ⟨fun _ => ?_, fun _ => ?_⟩) | (refine ⟨by omega, ?_⟩) | (intro _)
                all_goals (refine hK _ ?_; clear hK K)
                all_goals
                  refine AW_ret (end_s ?_)
                  simp (disch := omega) [creg_nil, creg_op, creg_gd, cO, cR, cG_bool, cG_undef, ↓spl_tt, ↓spl_tf, ↓spl_ft, ↓spl_ff, spl_ct, spl_cf, putC, nmC, aop, ev, cv, updL, upd_app, upd_upd, lkE_app, lk_nil, lk_cons, aLen, aBuiltin, aBin, aIntBin, aFieldAddr, placeOf, aLoad, cellsAt, aUn, aIndexAddr, st0, valCells, isOne, Value.oneCell', aStore, setCells, List.getElem?_cons_zero, List.getElem?_cons_succ, Option.getD_some, formOb_nn, aBuild, parts, fillA, placesOf, aField, aIndex, aSlice, optIdx, aStrBin, aMakeSlice, viewCells, viewCell, arrN, frzU, t2, t3, t4, t5, t6, t7, t8, t9, t10, t11, t12, t13, t14, t15, t16, t17, t18, t19, t21, t22, t28, t29, t30, t33, t39, t45, t46, t47, t50, t51, t52, t56, t66, t67, t71, t77, t80, t81, t86, t88, t89, t90, t91, t92, t94, t95, t96, t98, t99, t100, t101, t102, u_bool, wrap64, List.getElem?_eq_getElem, DtUp.cells, endR_some, am0_gg, am0_ss, am0_ll, am1_gg, am1_ss, am1_ll, am1_nl, am1_al, am2_gg, am2_ss, am2_ll, am2_nl, am2_al, am2_ff, am1s_nn, am1s_cc, am2s_nn, am2s_cc, amRs_one, amRs_two', amRs_thr, resAll_nil, resAll_tmp, resAll_cell]
                  all_goals first | omega | (simp_all; done) | (simp [List.take_of_length_le]; done) | ((try simp_all); (try simp (disch := omega) only [wrap64, Int.tdiv_eq_ediv_of_nonneg, Int.tmod_eq_emod_of_nonneg, and_true, true_and]); done) | ((try simp_all); (try simp (disch := omega) only [wrap64, Int.tdiv_eq_ediv_of_nonneg, Int.tmod_eq_emod_of_nonneg, and_true, true_and] at *); omega)
theorem eqUpS (xs ys : List DtUp) (hs : szS DtUp.sz xs ≤ 1048576) : PCall Try.prog 53 [.sl 3 (xs.map DtUp.cells), .sl 3 (ys.map DtUp.cells)] (.g (.bool (eqB xs ys))) := by
  have hn : xs.length ≤ 1048576 := by have := sumZ_nonneg DtUp.sz_nonneg xs; simp only [szS] at hs; omega
  refine gcall_of_walk Try.func53 (by rfl) (by rfl) (by rw [Try.ntmps53]; exact Nat.le_of_ble_eq_true rfl) rfl (by decide) ?_
  rw [Try.ntmps53]
  refine AW_k [(0, _), (1, _)] ⟨rfl, rfl, trivial⟩ ?_
  refine AW_r rfl rfl fun K hK => ?_
  simp (disch := omega) [creg_nil, creg_op, creg_gd, cO, cR, cG_bool, cG_undef, ↓spl_tt, ↓spl_tf, ↓spl_ft, ↓spl_ff, spl_ct, spl_cf, putC, nmC, aop, ev, cv, updL, upd_app, upd_upd, lkE_app, lk_nil, lk_cons, aLen, aBuiltin, aBin, aIntBin, aFieldAddr, placeOf, aLoad, cellsAt, aUn, aIndexAddr, st0, valCells, isOne, Value.oneCell', aStore, setCells, List.getElem?_cons_zero, List.getElem?_cons_succ, Option.getD_some, formOb_nn, aBuild, parts, fillA, placesOf, aField, aIndex, aSlice, optIdx, aStrBin, aMakeSlice, viewCells, viewCell, arrN, frzU, t2, t3, t4, t5, t6, t7, t8, t9, t10, t11, t12, t13, t14, t15, t16, t17, t18, t19, t21, t22, t28, t29, t30, t33, t39, t45, t46, t47, t50, t51, t52, t56, t66, t67, t71, t77, t80, t81, t86, t88, t89, t90, t91, t92, t94, t95, t96, t98, t99, t100, t101, t102, u_bool, wrap64, List.getElem?_eq_getElem]
  repeat' first | (refine ⟨fun _ => ?_, fun _ => ?_⟩) | (refine ⟨by omega, ?_⟩) | (intro _)
  all_goals (refine hK _ ?_; clear hK K)
  all_goals
    refine AW_seq ?_
    refine AW_r rfl rfl fun K hK => ?_
    simp (disch := omega) [creg_nil, creg_op, creg_gd, cO, cR, cG_bool, cG_undef, ↓spl_tt, ↓spl_tf, ↓spl_ft, ↓spl_ff, spl_ct, spl_cf, putC, nmC, aop, ev, cv, updL, upd_app, upd_upd, lkE_app, lk_nil, lk_cons, aLen, aBuiltin, aBin, aIntBin, aFieldAddr, placeOf, aLoad, cellsAt, aUn, aIndexAddr, st0, valCells, isOne, Value.oneCell', aStore, setCells, List.getElem?_cons_zero, List.getElem?_cons_succ, Option.getD_some, formOb_nn, aBuild, parts, fillA, placesOf, aField, aIndex, aSlice, optIdx, aStrBin, aMakeSlice, viewCells, viewCell, arrN, frzU, t2, t3, t4, t5, t6, t7, t8, t9, t10, t11, t12, t13, t14, t15, t16, t17, t18, t19, t21, t22, t28, t29, t30, t33, t39, t45, t46, t47, t50, t51, t52, t56, t66, t67, t71, t77, t80, t81, t86, t88, t89, t90, t91, t92, t94, t95, t96, t98, t99, t100, t101, t102, u_bool, wrap64, List.getElem?_eq_getElem]
    repeat' first | (refine ⟨fun _ => ?_, fun _ => ?_⟩) | (refine ⟨by omega, ?_⟩) | (intro _)
    all_goals (refine hK _ ?_; clear hK K)
    all_goals
      refine AW_cond rfl (fun hc25 => ?_) (fun hc25 => ?_)
      · try simp at hc25
        all_goals
          refine AW_r rfl rfl fun K hK => ?_
          simp (disch := omega) [creg_nil, creg_op, creg_gd, cO, cR, cG_bool, cG_undef, ↓spl_tt, ↓spl_tf, ↓spl_ft, ↓spl_ff, spl_ct, spl_cf, putC, nmC, aop, ev, cv, updL, upd_app, upd_upd, lkE_app, lk_nil, lk_cons, aLen, aBuiltin, aBin, aIntBin, aFieldAddr, placeOf, aLoad, cellsAt, aUn, aIndexAddr, st0, valCells, isOne, Value.oneCell', aStore, setCells, List.getElem?_cons_zero, List.getElem?_cons_succ, Option.getD_some, formOb_nn, aBuild, parts, fillA, placesOf, aField, aIndex, aSlice, optIdx, aStrBin, aMakeSlice, viewCells, viewCell, arrN, frzU, t2, t3, t4, t5, t6, t7, t8, t9, t10, t11, t12, t13, t14, t15, t16, t17, t18, t19, t21, t22, t28, t29, t30, t33, t39, t45, t46, t47, t50, t51, t52, t56, t66, t67, t71, t77, t80, t81, t86, t88, t89, t90, t91, t92, t94, t95, t96, t98, t99, t100, t101, t102, u_bool, wrap64, List.getElem?_eq_getElem]
          repeat' first | (refine ⟨fun _ => ?_, fun _ => ?_⟩) | (refine ⟨by omega, ?_⟩) | (intro _)
          all_goals (refine hK _ ?_; clear hK K)
          all_goals
            refine AW_ret (end_s ?_)
            simp (disch := omega) [creg_nil, creg_op, creg_gd, cO, cR, cG_bool, cG_undef, ↓spl_tt, ↓spl_tf, ↓spl_ft, ↓spl_ff, spl_ct, spl_cf, putC, nmC, aop, ev, cv, updL, upd_app, upd_upd, lkE_app, lk_nil, lk_cons, aLen, aBuiltin, aBin, aIntBin, aFieldAddr, placeOf, aLoad, cellsAt, aUn, aIndexAddr, st0, valCells, isOne, Value.oneCell', aStore, setCells, List.getElem?_cons_zero, List.getElem?_cons_succ, Option.getD_some, formOb_nn, aBuild, parts, fillA, placesOf, aField, aIndex, aSlice, optIdx, aStrBin, aMakeSlice, viewCells, viewCell, arrN, frzU, t2, t3, t4, t5, t6, t7, t8, t9, t10, t11, t12, t13, t14, t15, t16, t17, t18, t19, t21, t22, t28, t29, t30, t33, t39, t45, t46, t47, t50, t51, t52, t56, t66, t67, t71, t77, t80, t81, t86, t88, t89, t90, t91, t92, t94, t95, t96, t98, t99, t100, t101, t102, u_bool, wrap64, List.getElem?_eq_getElem, endR_some, am0_gg, am0_ss, am0_ll, am1_gg, am1_ss, am1_ll, am1_nl, am1_al, am2_gg, am2_ss, am2_ll, am2_nl, am2_al, am2_ff, am1s_nn, am1s_cc, am2s_nn, am2s_cc, amRs_one, amRs_two', amRs_thr, resAll_nil, resAll_tmp, resAll_cell]
            all_goals first | (exact eqB_of heq) | (refine eqB_ne fun heq => ?_; subst heq; simp_all [eqB_true, eqB_false, eqB_self]; done) | (refine (eqB_ne fun heq => ?_).symm; subst heq; simp_all [eqB_true, eqB_false, eqB_self]; done) | simp_all [eqB_self]
      · try simp at hc25
        all_goals
          refine AW_skip ?_
          refine AW_id ?_
          refine AW_seq ?_
          refine AW_r rfl rfl fun K hK => ?_
          simp (disch := omega) [creg_nil, creg_op, creg_gd, cO, cR, cG_bool, cG_undef, ↓spl_tt, ↓spl_tf, ↓spl_ft, ↓spl_ff, spl_ct, spl_cf, putC, nmC, aop, ev, cv, updL, upd_app, upd_upd, lkE_app, lk_nil, lk_cons, aLen, aBuiltin, aBin, aIntBin, aFieldAddr, placeOf, aLoad, cellsAt, aUn, aIndexAddr, st0, valCells, isOne, Value.oneCell', aStore, setCells, List.getElem?_cons_zero, List.getElem?_cons_succ, Option.getD_some, formOb_nn, aBuild, parts, fillA, placesOf, aField, aIndex, aSlice, optIdx, aStrBin, aMakeSlice, viewCells, viewCell, arrN, frzU, t2, t3, t4, t5, t6, t7, t8, t9, t10, t11, t12, t13, t14, t15, t16, t17, t18, t19, t21, t22, t28, t29, t30, t33, t39, t45, t46, t47, t50, t51, t52, t56, t66, t67, t71, t77, t80, t81, t86, t88, t89, t90, t91, t92, t94, t95, t96, t98, t99, t100, t101, t102, u_bool, wrap64, List.getElem?_eq_getElem]
          repeat' first | (refine ⟨fun _ => ?_, fun _ => ?_⟩) | (refine ⟨by omega, ?_⟩) | (intro _)
          all_goals (refine hK _ ?_; clear hK K)
          all_goals
            refine AW_block ?_
            refine AW_loopS (fun m s => ∃ (i : Nat), m = xs.length - i ∧ (i ≤ xs.length ∧ ∀ j, j < i → xs[j]? = ys[j]?) ∧ s = { env := lkE [(0, .sl 3 (xs.map DtUp.cells)), (1, .sl 3 (ys.map DtUp.cells)), (5, (.g (.int .i64 ((i : Nat)))))], ob := formOb [] [] }) ?_ ?_
            · refine ⟨_, LeS.kp [(0, .sl 3 (xs.map DtUp.cells)), (1, .sl 3 (ys.map DtUp.cells)), (5, (.g (.int .i64 (((0) : Nat)))))] (by simp [KpE, upd_app, lkE_app, lk_cons]; try rfl), _, 0, rfl, ?_, rfl⟩
              · simp
            · rintro m s ⟨i, rfl, ⟨hi, hpre⟩, rfl⟩
              refine AW_seq ?_
              refine AW_r rfl rfl fun K hK => ?_
              simp (disch := omega) [creg_nil, creg_op, creg_gd, cO, cR, cG_bool, cG_undef, ↓spl_tt, ↓spl_tf, ↓spl_ft, ↓spl_ff, spl_ct, spl_cf, putC, nmC, aop, ev, cv, updL, upd_app, upd_upd, lkE_app, lk_nil, lk_cons, aLen, aBuiltin, aBin, aIntBin, aFieldAddr, placeOf, aLoad, cellsAt, aUn, aIndexAddr, st0, valCells, isOne, Value.oneCell', aStore, setCells, List.getElem?_cons_zero, List.getElem?_cons_succ, Option.getD_some, formOb_nn, aBuild, parts, fillA, placesOf, aField, aIndex, aSlice, optIdx, aStrBin, aMakeSlice, viewCells, viewCell, arrN, frzU, t2, t3, t4, t5, t6, t7, t8, t9, t10, t11, t12, t13, t14, t15, t16, t17, t18, t19, t21, t22, t28, t29, t30, t33, t39, t45, t46, t47, t50, t51, t52, t56, t66, t67, t71, t77, t80, t81, t86, t88, t89, t90, t91, t92, t94, t95, t96, t98, t99, t100, t101, t102, u_bool, wrap64, List.getElem?_eq_getElem, DtUp.cells]
              repeat' first | (refine ⟨fun _ => ?_, fun _ => ?_⟩) | (refine ⟨by omega, ?_⟩) | (intro _)
              all_goals (refine hK _ ?_; clear hK K)
              all_goals
                refine AW_cond rfl (fun hc26 => ?_) (fun hc26 => ?_)
                · try simp at hc26
                  all_goals
                    have h7 : i < ys.length := by omega
                    have hsE : DtUp.sz xs[i] ≤ 1048576 := by have := sumZ_mem_le DtUp.sz_nonneg xs xs[i] (List.getElem_mem _); simp only [szS] at hs; omega
                    refine AW_skip ?_
                    refine AW_id ?_
                    refine AW_seq ?_
                    refine AW_block ?_
                    refine AW_q rfl mix (by kernel_rfl) rfl fun K hK => ?_
                    simp (disch := omega) [creg_nil, creg_op, creg_gd, cO, cR, cG_bool, cG_undef, ↓spl_tt, ↓spl_tf, ↓spl_ft, ↓spl_ff, spl_ct, spl_cf, putC, nmC, aop, ev, cv, updL, upd_app, upd_upd, lkE_app, lk_nil, lk_cons, aLen, aBuiltin, aBin, aIntBin, aFieldAddr, placeOf, aLoad, cellsAt, aUn, aIndexAddr, st0, valCells, isOne, Value.oneCell', aStore, setCells, List.getElem?_cons_zero, List.getElem?_cons_succ, Option.getD_some, formOb_nn, aBuild, parts, fillA, placesOf, aField, aIndex, aSlice, optIdx, aStrBin, aMakeSlice, viewCells, viewCell, arrN, frzU, t2, t3, t4, t5, t6, t7, t8, t9, t10, t11, t12, t13, t14, t15, t16, t17, t18, t19, t21, t22, t28, t29, t30, t33, t39, t45, t46, t47, t50, t51, t52, t56, t66, t67, t71, t77, t80, t81, t86, t88, t89, t90, t91, t92, t94, t95, t96, t98, t99, t100, t101, t102, u_bool, wrap64, List.getElem?_eq_getElem, DtUp.cells]
                    repeat' first | (refine CKd_v (am2s_cons (am2_agg rfl) (am2s_cons (am2_agg rfl) am2s_nil)) (eqUp _ _ (by first | assumption | omega)) rfl ?_; simp (disch := omega) [creg_nil, creg_op, creg_gd, cO, cR, cG_bool, cG_undef, ↓spl_tt, ↓spl_tf, ↓spl_ft, ↓spl_ff, spl_ct, spl_cf, putC, nmC, aop, ev, cv, updL, upd_app, upd_upd, lkE_app, lk_nil, lk_cons, aLen, aBuiltin, aBin, aIntBin, aFieldAddr, placeOf, aLoad, cellsAt, aUn, aIndexAddr, st0, valCells, isOne, Value.oneCell', aStore, setCells, List.getElem?_cons_zero, List.getElem?_cons_succ, Option.getD_some, formOb_nn, aBuild, parts, fillA, placesOf, aField, aIndex, aSlice, optIdx, aStrBin, aMakeSlice, viewCells, viewCell, arrN, frzU, t2, t3, t4, t5, t6, t7, t8, t9, t10, t11, t12, t13, t14, t15, t16, t17, t18, t19, t21, t22, t28, t29, t30, t33, t39, t45, t46, t47, t50, t51, t52, t56, t66, t67, t71, t77, t80, t81, t86, t88, t89, t90, t91, t92, t94, t95, t96, t98, t99, t100, t101, t102, u_bool, wrap64, List.getElem?_eq_getElem, DtUp.cells]) | (refine ⟨fun _ => ?_, fun _ => ?_⟩) | (refine ⟨by omega, ?_⟩) | (intro _)
                    all_goals (refine hK _ ?_; clear hK K)
                    all_goals
                      refine AW_cond rfl (fun hc27 => ?_) (fun hc27 => ?_)
                      · try simp at hc27
                        all_goals
                          refine AW_r rfl rfl fun K hK => ?_
                          simp (disch := omega) [creg_nil, creg_op, creg_gd, cO, cR, cG_bool, cG_undef, ↓spl_tt, ↓spl_tf, ↓spl_ft, ↓spl_ff, spl_ct, spl_cf, putC, nmC, aop, ev, cv, updL, upd_app, upd_upd, lkE_app, lk_nil, lk_cons, aLen, aBuiltin, aBin, aIntBin, aFieldAddr, placeOf, aLoad, cellsAt, aUn, aIndexAddr, st0, valCells, isOne, Value.oneCell', aStore, setCells, List.getElem?_cons_zero, List.getElem?_cons_succ, Option.getD_some, formOb_nn, aBuild, parts, fillA, placesOf, aField, aIndex, aSlice, optIdx, aStrBin, aMakeSlice, viewCells, viewCell, arrN, frzU, t2, t3, t4, t5, t6, t7, t8, t9, t10, t11, t12, t13, t14, t15, t16, t17, t18, t19, t21, t22, t28, t29, t30, t33, t39, t45, t46, t47, t50, t51, t52, t56, t66, t67, t71, t77, t80, t81, t86, t88, t89, t90, t91, t92, t94, t95, t96, t98, t99, t100, t101, t102, u_bool, wrap64, List.getElem?_eq_getElem, DtUp.cells]
                          repeat' first | (refine ⟨fun _ => ?_, fun _ => ?_⟩) | (refine ⟨by omega, ?_⟩) | (intro _)
                          all_goals (refine hK _ ?_; clear hK K)
                          all_goals
                            refine AW_ret (end_s ?_)
                            simp (disch := omega) [creg_nil, creg_op, creg_gd, cO, cR, cG_bool, cG_undef, ↓spl_tt, ↓spl_tf, ↓spl_ft, ↓spl_ff, spl_ct, spl_cf, putC, nmC, aop, ev, cv, updL, upd_app, upd_upd, lkE_app, lk_nil, lk_cons, aLen, aBuiltin, aBin, aIntBin, aFieldAddr, placeOf, aLoad, cellsAt, aUn, aIndexAddr, st0, valCells, isOne, Value.oneCell', aStore, setCells, List.getElem?_cons_zero, List.getElem?_cons_succ, Option.getD_some, formOb_nn, aBuild, parts, fillA, placesOf, aField, aIndex, aSlice, optIdx, aStrBin, aMakeSlice, viewCells, viewCell, arrN, frzU, t2, t3, t4, t5, t6, t7, t8, t9, t10, t11, t12, t13, t14, t15, t16, t17, t18, t19, t21, t22, t28, t29, t30, t33, t39, t45, t46, t47, t50, t51, t52, t56, t66, t67, t71, t77, t80, t81, t86, t88, t89, t90, t91, t92, t94, t95, t96, t98, t99, t100, t101, t102, u_bool, wrap64, List.getElem?_eq_getElem, DtUp.cells, endR_some, am0_gg, am0_ss, am0_ll, am1_gg, am1_ss, am1_ll, am1_nl, am1_al, am2_gg, am2_ss, am2_ll, am2_nl, am2_al, am2_ff, am1s_nn, am1s_cc, am2s_nn, am2s_cc, amRs_one, amRs_two', amRs_thr, resAll_nil, resAll_tmp, resAll_cell]
                            all_goals first | (exact eqB_of heq) | (refine eqB_ne fun heq => ?_; subst heq; simp_all [eqB_true, eqB_false, eqB_self]; done) | (refine (eqB_ne fun heq => ?_).symm; subst heq; simp_all [eqB_true, eqB_false, eqB_self]; done) | simp_all [eqB_self]
                      · try simp at hc27
                        all_goals
                          refine AW_skip ?_
                          refine AW_id ?_
                          refine AW_re rfl rfl fun K hK => ?_
                          simp (disch := omega) [creg_nil, creg_op, creg_gd, cO, cR, cG_bool, cG_undef, ↓spl_tt, ↓spl_tf, ↓spl_ft, ↓spl_ff, spl_ct, spl_cf, putC, nmC, aop, ev, cv, updL, upd_app, upd_upd, lkE_app, lk_nil, lk_cons, aLen, aBuiltin, aBin, aIntBin, aFieldAddr, placeOf, aLoad, cellsAt, aUn, aIndexAddr, st0, valCells, isOne, Value.oneCell', aStore, setCells, List.getElem?_cons_zero, List.getElem?_cons_succ, Option.getD_some, formOb_nn, aBuild, parts, fillA, placesOf, aField, aIndex, aSlice, optIdx, aStrBin, aMakeSlice, viewCells, viewCell, arrN, frzU, t2, t3, t4, t5, t6, t7, t8, t9, t10, t11, t12, t13, t14, t15, t16, t17, t18, t19, t21, t22, t28, t29, t30, t33, t39, t45, t46, t47, t50, t51, t52, t56, t66, t67, t71, t77, t80, t81, t86, t88, t89, t90, t91, t92, t94, t95, t96, t98, t99, t100, t101, t102, u_bool, wrap64, List.getElem?_eq_getElem, DtUp.cells]
                          repeat' first | (refine ⟨fun _ => ?_, fun _ => ?_⟩) | (refine ⟨by omega, ?_⟩) | (intro _)
                          all_goals (refine hK _ ?_; clear hK K)
                          all_goals
                            refine ⟨_, LeS.kp [(0, .sl 3 (xs.map DtUp.cells)), (1, .sl 3 (ys.map DtUp.cells)), (5, (.g (.int .i64 (((i + 1) : Nat)))))] (by simp [KpE, upd_app, lkE_app, lk_cons]; try rfl), _, ?_, i + 1, rfl, ?_, rfl⟩
                            · omega
                            · refine ⟨by omega, fun j hj => ?_⟩
                              by_cases hji : j = i
                              · subst hji; simp_all [eqB_true, eqB_false]
                              · exact hpre j (by omega)
                · try simp at hc26
                  all_goals
                    have hi2 : i = xs.length := by omega
                    subst hi2
                    have heq : xs = ys := List.ext_getElem? fun j => by
                      by_cases hj : j < xs.length
                      · exact hpre j hj
                      · rw [List.getElem?_eq_none (by omega), List.getElem?_eq_none (by omega)]
                    refine AW_exit ?_
                    refine AW_id ?_
                    refine AW_r rfl rfl fun K hK => ?_
                    simp (disch := omega) [creg_nil, creg_op, creg_gd, cO, cR, cG_bool, cG_undef, ↓spl_tt, ↓spl_tf, ↓spl_ft, ↓spl_ff, spl_ct, spl_cf, putC, nmC, aop, ev, cv, updL, upd_app, upd_upd, lkE_app, lk_nil, lk_cons, aLen, aBuiltin, aBin, aIntBin, aFieldAddr, placeOf, aLoad, cellsAt, aUn, aIndexAddr, st0, valCells, isOne, Value.oneCell', aStore, setCells, List.getElem?_cons_zero, List.getElem?_cons_succ, Option.getD_some, formOb_nn, aBuild, parts, fillA, placesOf, aField, aIndex, aSlice, optIdx, aStrBin, aMakeSlice, viewCells, viewCell, arrN, frzU, t2, t3, t4, t5, t6, t7, t8, t9, t10, t11, t12, t13, t14, t15, t16, t17, t18, t19, t21, t22, t28, t29, t30, t33, t39, t45, t46, t47, t50, t51, t52, t56, t66, t67, t71, t77, t80, t81, t86, t88, t89, t90, t91, t92, t94, t95, t96, t98, t99, t100, t101, t102, u_bool, wrap64, List.getElem?_eq_getElem, DtUp.cells]
                    repeat' first | (refine ⟨fun _ => ?_, fun _ => ?_⟩) | (refine ⟨by omega, ?_⟩) | (intro _)
                    all_goals (refine hK _ ?_; clear hK K)
                    all_goals
                      refine AW_ret (end_s ?_)
                      simp (disch := omega) [creg_nil, creg_op, creg_gd, cO, cR, cG_bool, cG_undef, ↓spl_tt, ↓spl_tf, ↓spl_ft, ↓spl_ff, spl_ct, spl_cf, putC, nmC, aop, ev, cv, updL, upd_app, upd_upd, lkE_app, lk_nil, lk_cons, aLen, aBuiltin, aBin, aIntBin, aFieldAddr, placeOf, aLoad, cellsAt, aUn, aIndexAddr, st0, valCells, isOne, Value.oneCell', aStore, setCells, List.getElem?_cons_zero, List.getElem?_cons_succ, Option.getD_some, formOb_nn, aBuild, parts, fillA, placesOf, aField, aIndex, aSlice, optIdx, aStrBin, aMakeSlice, viewCells, viewCell, arrN, frzU, t2, t3, t4, t5, t6, t7, t8, t9, t10, t11, t12, t13, t14, t15, t16, t17, t18, t19, t21, t22, t28, t29, t30, t33, t39, t45, t46, t47, t50, t51, t52, t56, t66, t67, t71, t77, t80, t81, t86, t88, t89, t90, t91, t92, t94, t95, t96, t98, t99, t100, t101, t102, u_bool, wrap64, List.getElem?_eq_getElem, DtUp.cells, endR_some, am0_gg, am0_ss, am0_ll, am1_gg, am1_ss, am1_ll, am1_nl, am1_al, am2_gg, am2_ss, am2_ll, am2_nl, am2_al, am2_ff, am1s_nn, am1s_cc, am2s_nn, am2s_cc, amRs_one, amRs_two', amRs_thr, resAll_nil, resAll_tmp, resAll_cell]
                      all_goals first | (exact eqB_of heq) | (refine eqB_ne fun heq => ?_; subst heq; simp_all [eqB_true, eqB_false, eqB_self]; done) | (refine (eqB_ne fun heq => ?_).symm; subst heq; simp_all [eqB_true, eqB_false, eqB_self]; done) | simp_all [eqB_self]
theorem szUps (u : DtUps) (n : Int) (hn : 0 ≤ n ∧ n ≤ 1048576) (hw : DtUps.wf u) : PCall Try.prog 34 [.agg (DtUps.cells u), (.g (.int .i64 (n)))] (.g (.int .i64 (szR n (DtUps.sz u)))) := by
  have ⟨w0, w1⟩ := hw
  have w12 := w1.1
  have z1 := (szS_nonneg DtUp.sz_nonneg) u.fList
  refine gcall_of_walk Try.func34 (by rfl) (by rfl) (by rw [Try.ntmps34]; exact Nat.le_of_ble_eq_true rfl) rfl (by decide) ?_
  rw [Try.ntmps34]
  refine AW_k [(0, _), (1, _)] ⟨rfl, rfl, trivial⟩ ?_
  refine AW_r rfl rfl fun K hK => ?_
  simp (disch := omega) [creg_nil, creg_op, creg_gd, cO, cR, cG_bool, cG_undef, ↓spl_tt, ↓spl_tf, ↓spl_ft, ↓spl_ff, spl_ct, spl_cf, putC, nmC, aop, ev, cv, updL, upd_app, upd_upd, lkE_app, lk_nil, lk_cons, aLen, aBuiltin, aBin, aIntBin, aFieldAddr, placeOf, aLoad, cellsAt, aUn, aIndexAddr, st0, valCells, isOne, Value.oneCell', aStore, setCells, List.getElem?_cons_zero, List.getElem?_cons_succ, Option.getD_some, formOb_nn, aBuild, parts, fillA, placesOf, aField, aIndex, aSlice, optIdx, aStrBin, aMakeSlice, viewCells, viewCell, arrN, frzU, t2, t3, t4, t5, t6, t7, t8, t9, t10, t11, t12, t13, t14, t15, t16, t17, t18, t19, t21, t22, t28, t29, t30, t33, t39, t45, t46, t47, t50, t51, t52, t56, t66, t67, t71, t77, t80, t81, t86, t88, t89, t90, t91, t92, t94, t95, t96, t98, t99, t100, t101, t102, u_bool, wrap64, List.getElem?_eq_getElem, szR, DtUps.cells]
  repeat' first | (refine ⟨fun _ => ?_, fun _ => ?_⟩) | (refine ⟨by omega, ?_⟩) | (intro _)
  all_goals (refine hK _ ?_; clear hK K)
  all_goals
    refine AW_r rfl rfl fun K hK => ?_
    simp (disch := omega) [creg_nil, creg_op, creg_gd, cO, cR, cG_bool, cG_undef, ↓spl_tt, ↓spl_tf, ↓spl_ft, ↓spl_ff, spl_ct, spl_cf, putC, nmC, aop, ev, cv, updL, upd_app, upd_upd, lkE_app, lk_nil, lk_cons, aLen, aBuiltin, aBin, aIntBin, aFieldAddr, placeOf, aLoad, cellsAt, aUn, aIndexAddr, st0, valCells, isOne, Value.oneCell', aStore, setCells, List.getElem?_cons_zero, List.getElem?_cons_succ, Option.getD_some, formOb_nn, aBuild, parts, fillA, placesOf, aField, aIndex, aSlice, optIdx, aStrBin, aMakeSlice, viewCells, viewCell, arrN, frzU, t2, t3, t4, t5, t6, t7, t8, t9, t10, t11, t12, t13, t14, t15, t16, t17, t18, t19, t21, t22, t28, t29, t30, t33, t39, t45, t46, t47, t50, t51, t52, t56, t66, t67, t71, t77, t80, t81, t86, t88, t89, t90, t91, t92, t94, t95, t96, t98, t99, t100, t101, t102, u_bool, wrap64, List.getElem?_eq_getElem, szR, DtUps.cells]
    repeat' first | (refine CKd_v (am2s_cons am2_sl (am2s_cons am2_g am2s_nil)) (szUpS _ _ (by omega) (by assumption)) rfl ?_; simp (disch := omega) [creg_nil, creg_op, creg_gd, cO, cR, cG_bool, cG_undef, ↓spl_tt, ↓spl_tf, ↓spl_ft, ↓spl_ff, spl_ct, spl_cf, putC, nmC, aop, ev, cv, updL, upd_app, upd_upd, lkE_app, lk_nil, lk_cons, aLen, aBuiltin, aBin, aIntBin, aFieldAddr, placeOf, aLoad, cellsAt, aUn, aIndexAddr, st0, valCells, isOne, Value.oneCell', aStore, setCells, List.getElem?_cons_zero, List.getElem?_cons_succ, Option.getD_some, formOb_nn, aBuild, parts, fillA, placesOf, aField, aIndex, aSlice, optIdx, aStrBin, aMakeSlice, viewCells, viewCell, arrN, frzU, t2, t3, t4, t5, t6, t7, t8, t9, t10, t11, t12, t13, t14, t15, t16, t17, t18, t19, t21, t22, t28, t29, t30, t33, t39, t45, t46, t47, t50, t51, t52, t56, t66, t67, t71, t77, t80, t81, t86, t88, t89, t90, t91, t92, t94, t95, t96, t98, t99, t100, t101, t102, u_bool, wrap64, List.getElem?_eq_getElem, szR, DtUps.cells]) | (refine ⟨fun _ => ?_, fun _ => ?_⟩) | (refine ⟨by omega, ?_⟩) | (intro _)
    all_goals (refine hK _ ?_; clear hK K)
    all_goals
      refine AW_seq ?_
      refine AW_r rfl rfl fun K hK => ?_
      simp (disch := omega) [creg_nil, creg_op, creg_gd, cO, cR, cG_bool, cG_undef, ↓spl_tt, ↓spl_tf, ↓spl_ft, ↓spl_ff, spl_ct, spl_cf, putC, nmC, aop, ev, cv, updL, upd_app, upd_upd, lkE_app, lk_nil, lk_cons, aLen, aBuiltin, aBin, aIntBin, aFieldAddr, placeOf, aLoad, cellsAt, aUn, aIndexAddr, st0, valCells, isOne, Value.oneCell', aStore, setCells, List.getElem?_cons_zero, List.getElem?_cons_succ, Option.getD_some, formOb_nn, aBuild, parts, fillA, placesOf, aField, aIndex, aSlice, optIdx, aStrBin, aMakeSlice, viewCells, viewCell, arrN, frzU, t2, t3, t4, t5, t6, t7, t8, t9, t10, t11, t12, t13, t14, t15, t16, t17, t18, t19, t21, t22, t28, t29, t30, t33, t39, t45, t46, t47, t50, t51, t52, t56, t66, t67, t71, t77, t80, t81, t86, t88, t89, t90, t91, t92, t94, t95, t96, t98, t99, t100, t101, t102, u_bool, wrap64, List.getElem?_eq_getElem, szR, DtUps.cells]
      repeat' first | (refine ⟨fun _ => ?_, fun _ => ?_⟩) | (refine ⟨by omega, ?_⟩) | (intro _)
      all_goals (refine hK _ ?_; clear hK K)
      all_goals
        refine AW_cond rfl (fun hc28 => ?_) (fun hc28 => ?_)
        · try simp at hc28
          all_goals
            refine AW_r rfl rfl fun K hK => ?_
            simp (disch := omega) [creg_nil, creg_op, creg_gd, cO, cR, cG_bool, cG_undef, ↓spl_tt, ↓spl_tf, ↓spl_ft, ↓spl_ff, spl_ct, spl_cf, putC, nmC, aop, ev, cv, updL, upd_app, upd_upd, lkE_app, lk_nil, lk_cons, aLen, aBuiltin, aBin, aIntBin, aFieldAddr, placeOf, aLoad, cellsAt, aUn, aIndexAddr, st0, valCells, isOne, Value.oneCell', aStore, setCells, List.getElem?_cons_zero, List.getElem?_cons_succ, Option.getD_some, formOb_nn, aBuild, parts, fillA, placesOf, aField, aIndex, aSlice, optIdx, aStrBin, aMakeSlice, viewCells, viewCell, arrN, frzU, t2, t3, t4, t5, t6, t7, t8, t9, t10, t11, t12, t13, t14, t15, t16, t17, t18, t19, t21, t22, t28, t29, t30, t33, t39, t45, t46, t47, t50, t51, t52, t56, t66, t67, t71, t77, t80, t81, t86, t88, t89, t90, t91, t92, t94, t95, t96, t98, t99, t100, t101, t102, u_bool, wrap64, List.getElem?_eq_getElem, szR, DtUps.cells]
            repeat' first | (refine ⟨fun _ => ?_, fun _ => ?_⟩) | (refine ⟨by omega, ?_⟩) | (intro _)
            all_goals (refine hK _ ?_; clear hK K)
            all_goals
              refine AW_ret (end_s ?_)
              simp (disch := omega) [creg_nil, creg_op, creg_gd, cO, cR, cG_bool, cG_undef, ↓spl_tt, ↓spl_tf, ↓spl_ft, ↓spl_ff, spl_ct, spl_cf, putC, nmC, aop, ev, cv, updL, upd_app, upd_upd, lkE_app, lk_nil, lk_cons, aLen, aBuiltin, aBin, aIntBin, aFieldAddr, placeOf, aLoad, cellsAt, aUn, aIndexAddr, st0, valCells, isOne, Value.oneCell', aStore, setCells, List.getElem?_cons_zero, List.getElem?_cons_succ, Option.getD_some, formOb_nn, aBuild, parts, fillA, placesOf, aField, aIndex, aSlice, optIdx, aStrBin, aMakeSlice, viewCells, viewCell, arrN, frzU, t2, t3, t4, t5, t6, t7, t8, t9, t10, t11, t12, t13, t14, t15, t16, t17, t18, t19, t21, t22, t28, t29, t30, t33, t39, t45, t46, t47, t50, t51, t52, t56, t66, t67, t71, t77, t80, t81, t86, t88, t89, t90, t91, t92, t94, t95, t96, t98, t99, t100, t101, t102, u_bool, wrap64, List.getElem?_eq_getElem, szR, DtUps.cells, endR_some, am0_gg, am0_ss, am0_ll, am1_gg, am1_ss, am1_ll, am1_nl, am1_al, am2_gg, am2_ss, am2_ll, am2_nl, am2_al, am2_ff, am1s_nn, am1s_cc, am2s_nn, am2s_cc, amRs_one, amRs_two', amRs_thr, resAll_nil, resAll_tmp, resAll_cell, DtUps.sz]
              all_goals first | omega | (simp_all; done) | (split <;> omega) | (split <;> simp_all <;> omega) | (simp_all [szR]; omega)
        · try simp at hc28
          all_goals
            refine AW_skip ?_
            refine AW_id ?_
            refine AW_r rfl rfl fun K hK => ?_
            simp (disch := omega) [creg_nil, creg_op, creg_gd, cO, cR, cG_bool, cG_undef, ↓spl_tt, ↓spl_tf, ↓spl_ft, ↓spl_ff, spl_ct, spl_cf, putC, nmC, aop, ev, cv, updL, upd_app, upd_upd, lkE_app, lk_nil, lk_cons, aLen, aBuiltin, aBin, aIntBin, aFieldAddr, placeOf, aLoad, cellsAt, aUn, aIndexAddr, st0, valCells, isOne, Value.oneCell', aStore, setCells, List.getElem?_cons_zero, List.getElem?_cons_succ, Option.getD_some, formOb_nn, aBuild, parts, fillA, placesOf, aField, aIndex, aSlice, optIdx, aStrBin, aMakeSlice, viewCells, viewCell, arrN, frzU, t2, t3, t4, t5, t6, t7, t8, t9, t10, t11, t12, t13, t14, t15, t16, t17, t18, t19, t21, t22, t28, t29, t30, t33, t39, t45, t46, t47, t50, t51, t52, t56, t66, t67, t71, t77, t80, t81, t86, t88, t89, t90, t91, t92, t94, t95, t96, t98, t99, t100, t101, t102, u_bool, wrap64, List.getElem?_eq_getElem, szR, DtUps.cells]
            repeat' first | (refine ⟨fun _ => ?_, fun _ => ?_⟩) | (refine ⟨by omega, ?_⟩) | (intro _)
            all_goals (refine hK _ ?_; clear hK K)
            all_goals
              refine AW_ret (end_s ?_)
              simp (disch := omega) [creg_nil, creg_op, creg_gd, cO, cR, cG_bool, cG_undef, ↓spl_tt, ↓spl_tf, ↓spl_ft, ↓spl_ff, spl_ct, spl_cf, putC, nmC, aop, ev, cv, updL, upd_app, upd_upd, lkE_app, lk_nil, lk_cons, aLen, aBuiltin, aBin, aIntBin, aFieldAddr, placeOf, aLoad, cellsAt, aUn, aIndexAddr, st0, valCells, isOne, Value.oneCell', aStore, setCells, List.getElem?_cons_zero, List.getElem?_cons_succ, Option.getD_some, formOb_nn, aBuild, parts, fillA, placesOf, aField, aIndex, aSlice, optIdx, aStrBin, aMakeSlice, viewCells, viewCell, arrN, frzU, t2, t3, t4, t5, t6, t7, t8, t9, t10, t11, t12, t13, t14, t15, t16, t17, t18, t19, t21, t22, t28, t29, t30, t33, t39, t45, t46, t47, t50, t51, t52, t56, t66, t67, t71, t77, t80, t81, t86, t88, t89, t90, t91, t92, t94, t95, t96, t98, t99, t100, t101, t102, u_bool, wrap64, List.getElem?_eq_getElem, szR, DtUps.cells, endR_some, am0_gg, am0_ss, am0_ll, am1_gg, am1_ss, am1_ll, am1_nl, am1_al, am2_gg, am2_ss, am2_ll, am2_nl, am2_al, am2_ff, am1s_nn, am1s_cc, am2s_nn, am2s_cc, amRs_one, amRs_two', amRs_thr, resAll_nil, resAll_tmp, resAll_cell, DtUps.sz]
              all_goals first | omega | (simp_all; done) | (split <;> omega) | (split <;> simp_all <;> omega) | (simp_all [szR]; omega)
theorem toUps (u : DtUps) (hs : DtUps.sz u ≤ 1048576) : PCall Try.prog 36 [.agg (DtUps.cells u)] (.agg (DtUps.cells u)) := by
  simp only [DtUps.sz] at hs
  have z1 := (szS_nonneg DtUp.sz_nonneg) u.fList
  have s1 : szS DtUp.sz u.fList ≤ 1048576 := by omega
  refine gcall_of_walk Try.func36 (by rfl) (by rfl) (by rw [Try.ntmps36]; exact Nat.le_of_ble_eq_true rfl) rfl (by decide) ?_
  rw [Try.ntmps36]
  refine AW_k [(0, _)] ⟨rfl, trivial⟩ ?_
  refine AW_r rfl rfl fun K hK => ?_
  simp [creg_nil, creg_op, creg_gd, cO, cR, cG_bool, cG_undef, ↓spl_tt, ↓spl_tf, ↓spl_ft, ↓spl_ff, spl_ct, spl_cf, putC, nmC, aop, ev, cv, updL, upd_app, upd_upd, lkE_app, lk_nil, lk_cons, aLen, aBuiltin, aBin, aIntBin, aFieldAddr, placeOf, aLoad, cellsAt, aUn, aIndexAddr, st0, valCells, isOne, Value.oneCell', aStore, setCells, List.getElem?_cons_zero, List.getElem?_cons_succ, Option.getD_some, formOb_nn, aBuild, parts, fillA, placesOf, aField, aIndex, aSlice, optIdx, aStrBin, aMakeSlice, viewCells, viewCell, arrN, frzU, t2, t3, t4, t5, t6, t7, t8, t9, t10, t11, t12, t13, t14, t15, t16, t17, t18, t19, t21, t22, t28, t29, t30, t33, t39, t45, t46, t47, t50, t51, t52, t56, t66, t67, t71, t77, t80, t81, t86, t88, t89, t90, t91, t92, t94, t95, t96, t98, t99, t100, t101, t102, u_bool, DtUps.cells]
  repeat' first | (refine ⟨fun _ => ?_, fun _ => ?_⟩) | (refine ⟨by omega, ?_⟩) | (intro _)
  all_goals (refine hK _ ?_; clear hK K)
  all_goals
    refine AW_r rfl rfl fun K hK => ?_
    simp [creg_nil, creg_op, creg_gd, cO, cR, cG_bool, cG_undef, ↓spl_tt, ↓spl_tf, ↓spl_ft, ↓spl_ff, spl_ct, spl_cf, putC, nmC, aop, ev, cv, updL, upd_app, upd_upd, lkE_app, lk_nil, lk_cons, aLen, aBuiltin, aBin, aIntBin, aFieldAddr, placeOf, aLoad, cellsAt, aUn, aIndexAddr, st0, valCells, isOne, Value.oneCell', aStore, setCells, List.getElem?_cons_zero, List.getElem?_cons_succ, Option.getD_some, formOb_nn, aBuild, parts, fillA, placesOf, aField, aIndex, aSlice, optIdx, aStrBin, aMakeSlice, viewCells, viewCell, arrN, frzU, t2, t3, t4, t5, t6, t7, t8, t9, t10, t11, t12, t13, t14, t15, t16, t17, t18, t19, t21, t22, t28, t29, t30, t33, t39, t45, t46, t47, t50, t51, t52, t56, t66, t67, t71, t77, t80, t81, t86, t88, t89, t90, t91, t92, t94, t95, t96, t98, t99, t100, t101, t102, u_bool, DtUps.cells]
    repeat' first | (refine ⟨fun _ => ?_, fun _ => ?_⟩) | (refine ⟨by omega, ?_⟩) | (intro _)
    all_goals (refine hK _ ?_; clear hK K)
    all_goals
      refine AW_r rfl rfl fun K hK => ?_
      simp [creg_nil, creg_op, creg_gd, cO, cR, cG_bool, cG_undef, ↓spl_tt, ↓spl_tf, ↓spl_ft, ↓spl_ff, spl_ct, spl_cf, putC, nmC, aop, ev, cv, updL, upd_app, upd_upd, lkE_app, lk_nil, lk_cons, aLen, aBuiltin, aBin, aIntBin, aFieldAddr, placeOf, aLoad, cellsAt, aUn, aIndexAddr, st0, valCells, isOne, Value.oneCell', aStore, setCells, List.getElem?_cons_zero, List.getElem?_cons_succ, Option.getD_some, formOb_nn, aBuild, parts, fillA, placesOf, aField, aIndex, aSlice, optIdx, aStrBin, aMakeSlice, viewCells, viewCell, arrN, frzU, t2, t3, t4, t5, t6, t7, t8, t9, t10, t11, t12, t13, t14, t15, t16, t17, t18, t19, t21, t22, t28, t29, t30, t33, t39, t45, t46, t47, t50, t51, t52, t56, t66, t67, t71, t77, t80, t81, t86, t88, t89, t90, t91, t92, t94, t95, t96, t98, t99, t100, t101, t102, u_bool, DtUps.cells]
      repeat' first | (refine ⟨fun _ => ?_, fun _ => ?_⟩) | (refine ⟨by omega, ?_⟩) | (intro _)
      all_goals (refine hK _ ?_; clear hK K)
      all_goals
        refine AW_r rfl rfl fun K hK => ?_
        simp [creg_nil, creg_op, creg_gd, cO, cR, cG_bool, cG_undef, ↓spl_tt, ↓spl_tf, ↓spl_ft, ↓spl_ff, spl_ct, spl_cf, putC, nmC, aop, ev, cv, updL, upd_app, upd_upd, lkE_app, lk_nil, lk_cons, aLen, aBuiltin, aBin, aIntBin, aFieldAddr, placeOf, aLoad, cellsAt, aUn, aIndexAddr, st0, valCells, isOne, Value.oneCell', aStore, setCells, List.getElem?_cons_zero, List.getElem?_cons_succ, Option.getD_some, formOb_nn, aBuild, parts, fillA, placesOf, aField, aIndex, aSlice, optIdx, aStrBin, aMakeSlice, viewCells, viewCell, arrN, frzU, t2, t3, t4, t5, t6, t7, t8, t9, t10, t11, t12, t13, t14, t15, t16, t17, t18, t19, t21, t22, t28, t29, t30, t33, t39, t45, t46, t47, t50, t51, t52, t56, t66, t67, t71, t77, t80, t81, t86, t88, t89, t90, t91, t92, t94, t95, t96, t98, t99, t100, t101, t102, u_bool, DtUps.cells]
        repeat' first | (refine CKd_v (am2s_cons am2_sl am2s_nil) (toUpS _ (by first | assumption | omega)) rfl ?_; simp [creg_nil, creg_op, creg_gd, cO, cR, cG_bool, cG_undef, ↓spl_tt, ↓spl_tf, ↓spl_ft, ↓spl_ff, spl_ct, spl_cf, putC, nmC, aop, ev, cv, updL, upd_app, upd_upd, lkE_app, lk_nil, lk_cons, aLen, aBuiltin, aBin, aIntBin, aFieldAddr, placeOf, aLoad, cellsAt, aUn, aIndexAddr, st0, valCells, isOne, Value.oneCell', aStore, setCells, List.getElem?_cons_zero, List.getElem?_cons_succ, Option.getD_some, formOb_nn, aBuild, parts, fillA, placesOf, aField, aIndex, aSlice, optIdx, aStrBin, aMakeSlice, viewCells, viewCell, arrN, frzU, t2, t3, t4, t5, t6, t7, t8, t9, t10, t11, t12, t13, t14, t15, t16, t17, t18, t19, t21, t22, t28, t29, t30, t33, t39, t45, t46, t47, t50, t51, t52, t56, t66, t67, t71, t77, t80, t81, t86, t88, t89, t90, t91, t92, t94, t95, t96, t98, t99, t100, t101, t102, u_bool, DtUps.cells]) | (refine ⟨fun _ => ?_, fun _ => ?_⟩) | (refine ⟨by omega, ?_⟩) | (intro _)
        all_goals (refine hK _ ?_; clear hK K)
        all_goals
          refine AW_r rfl rfl fun K hK => ?_
          simp [creg_nil, creg_op, creg_gd, cO, cR, cG_bool, cG_undef, ↓spl_tt, ↓spl_tf, ↓spl_ft, ↓spl_ff, spl_ct, spl_cf, putC, nmC, aop, ev, cv, updL, upd_app, upd_upd, lkE_app, lk_nil, lk_cons, aLen, aBuiltin, aBin, aIntBin, aFieldAddr, placeOf, aLoad, cellsAt, aUn, aIndexAddr, st0, valCells, isOne, Value.oneCell', aStore, setCells, List.getElem?_cons_zero, List.getElem?_cons_succ, Option.getD_some, formOb_nn, aBuild, parts, fillA, placesOf, aField, aIndex, aSlice, optIdx, aStrBin, aMakeSlice, viewCells, viewCell, arrN, frzU, t2, t3, t4, t5, t6, t7, t8, t9, t10, t11, t12, t13, t14, t15, t16, t17, t18, t19, t21, t22, t28, t29, t30, t33, t39, t45, t46, t47, t50, t51, t52, t56, t66, t67, t71, t77, t80, t81, t86, t88, t89, t90, t91, t92, t94, t95, t96, t98, t99, t100, t101, t102, u_bool, DtUps.cells]
          repeat' first | (refine ⟨fun _ => ?_, fun _ => ?_⟩) | (refine ⟨by omega, ?_⟩) | (intro _)
          all_goals (refine hK _ ?_; clear hK K)
          all_goals
            refine AW_ret (end_s ?_)
            simp [creg_nil, creg_op, creg_gd, cO, cR, cG_bool, cG_undef, ↓spl_tt, ↓spl_tf, ↓spl_ft, ↓spl_ff, spl_ct, spl_cf, putC, nmC, aop, ev, cv, updL, upd_app, upd_upd, lkE_app, lk_nil, lk_cons, aLen, aBuiltin, aBin, aIntBin, aFieldAddr, placeOf, aLoad, cellsAt, aUn, aIndexAddr, st0, valCells, isOne, Value.oneCell', aStore, setCells, List.getElem?_cons_zero, List.getElem?_cons_succ, Option.getD_some, formOb_nn, aBuild, parts, fillA, placesOf, aField, aIndex, aSlice, optIdx, aStrBin, aMakeSlice, viewCells, viewCell, arrN, frzU, t2, t3, t4, t5, t6, t7, t8, t9, t10, t11, t12, t13, t14, t15, t16, t17, t18, t19, t21, t22, t28, t29, t30, t33, t39, t45, t46, t47, t50, t51, t52, t56, t66, t67, t71, t77, t80, t81, t86, t88, t89, t90, t91, t92, t94, t95, t96, t98, t99, t100, t101, t102, u_bool, DtUps.cells, endR_some, am0_gg, am0_ss, am0_ll, am1_gg, am1_ss, am1_ll, am1_nl, am1_al, am2_gg, am2_ss, am2_ll, am2_nl, am2_al, am2_ff, am1s_nn, am1s_cc, am2s_nn, am2s_cc, amRs_one, amRs_two', amRs_thr, resAll_nil, resAll_tmp, resAll_cell]
            all_goals first | omega | (simp_all; done) | (simp [List.take_of_length_le]; done) | ((try simp_all); (try simp (disch := omega) only [wrap64, Int.tdiv_eq_ediv_of_nonneg, Int.tmod_eq_emod_of_nonneg, and_true, true_and]); done) | ((try simp_all); (try simp (disch := omega) only [wrap64, Int.tdiv_eq_ediv_of_nonneg, Int.tmod_eq_emod_of_nonneg, and_true, true_and] at *); omega)
theorem eqUps (u v : DtUps) (hs : DtUps.sz u ≤ 1048576) : PCall Try.prog 38 [.agg (DtUps.cells u), .agg (DtUps.cells v)] (.g (.bool (eqB u v))) := by
  simp only [DtUps.sz] at hs
  have z1 := (szS_nonneg DtUp.sz_nonneg) u.fList
  have s1 : szS DtUp.sz u.fList ≤ 1048576 := by omega
  have he := DtUps.ext_iff u v
  refine gcall_of_walk Try.func38 (by rfl) (by rfl) (by rw [Try.ntmps38]; exact Nat.le_of_ble_eq_true rfl) rfl (by decide) ?_
  rw [Try.ntmps38]
  refine AW_k [(0, _), (1, _)] ⟨rfl, rfl, trivial⟩ ?_
  refine AW_r rfl rfl fun K hK => ?_
  simp [creg_nil, creg_op, creg_gd, cO, cR, cG_bool, cG_undef, ↓spl_tt, ↓spl_tf, ↓spl_ft, ↓spl_ff, spl_ct, spl_cf, putC, nmC, aop, ev, cv, updL, upd_app, upd_upd, lkE_app, lk_nil, lk_cons, aLen, aBuiltin, aBin, aIntBin, aFieldAddr, placeOf, aLoad, cellsAt, aUn, aIndexAddr, st0, valCells, isOne, Value.oneCell', aStore, setCells, List.getElem?_cons_zero, List.getElem?_cons_succ, Option.getD_some, formOb_nn, aBuild, parts, fillA, placesOf, aField, aIndex, aSlice, optIdx, aStrBin, aMakeSlice, viewCells, viewCell, arrN, frzU, t2, t3, t4, t5, t6, t7, t8, t9, t10, t11, t12, t13, t14, t15, t16, t17, t18, t19, t21, t22, t28, t29, t30, t33, t39, t45, t46, t47, t50, t51, t52, t56, t66, t67, t71, t77, t80, t81, t86, t88, t89, t90, t91, t92, t94, t95, t96, t98, t99, t100, t101, t102, u_bool, DtUps.cells]
  repeat' first | (refine ⟨fun _ => ?_, fun _ => ?_⟩) | (refine ⟨by omega, ?_⟩) | (intro _)
  all_goals (refine hK _ ?_; clear hK K)
  all_goals
    refine AW_seq ?_
    refine AW_r rfl rfl fun K hK => ?_
    simp [creg_nil, creg_op, creg_gd, cO, cR, cG_bool, cG_undef, ↓spl_tt, ↓spl_tf, ↓spl_ft, ↓spl_ff, spl_ct, spl_cf, putC, nmC, aop, ev, cv, updL, upd_app, upd_upd, lkE_app, lk_nil, lk_cons, aLen, aBuiltin, aBin, aIntBin, aFieldAddr, placeOf, aLoad, cellsAt, aUn, aIndexAddr, st0, valCells, isOne, Value.oneCell', aStore, setCells, List.getElem?_cons_zero, List.getElem?_cons_succ, Option.getD_some, formOb_nn, aBuild, parts, fillA, placesOf, aField, aIndex, aSlice, optIdx, aStrBin, aMakeSlice, viewCells, viewCell, arrN, frzU, t2, t3, t4, t5, t6, t7, t8, t9, t10, t11, t12, t13, t14, t15, t16, t17, t18, t19, t21, t22, t28, t29, t30, t33, t39, t45, t46, t47, t50, t51, t52, t56, t66, t67, t71, t77, t80, t81, t86, t88, t89, t90, t91, t92, t94, t95, t96, t98, t99, t100, t101, t102, u_bool, DtUps.cells]
    repeat' first | (refine ⟨fun _ => ?_, fun _ => ?_⟩) | (refine ⟨by omega, ?_⟩) | (intro _)
    all_goals (refine hK _ ?_; clear hK K)
    all_goals
      refine AW_cond rfl (fun hc29 => ?_) (fun hc29 => ?_)
      · try simp at hc29
        all_goals
          refine AW_r rfl rfl fun K hK => ?_
          simp [creg_nil, creg_op, creg_gd, cO, cR, cG_bool, cG_undef, ↓spl_tt, ↓spl_tf, ↓spl_ft, ↓spl_ff, spl_ct, spl_cf, putC, nmC, aop, ev, cv, updL, upd_app, upd_upd, lkE_app, lk_nil, lk_cons, aLen, aBuiltin, aBin, aIntBin, aFieldAddr, placeOf, aLoad, cellsAt, aUn, aIndexAddr, st0, valCells, isOne, Value.oneCell', aStore, setCells, List.getElem?_cons_zero, List.getElem?_cons_succ, Option.getD_some, formOb_nn, aBuild, parts, fillA, placesOf, aField, aIndex, aSlice, optIdx, aStrBin, aMakeSlice, viewCells, viewCell, arrN, frzU, t2, t3, t4, t5, t6, t7, t8, t9, t10, t11, t12, t13, t14, t15, t16, t17, t18, t19, t21, t22, t28, t29, t30, t33, t39, t45, t46, t47, t50, t51, t52, t56, t66, t67, t71, t77, t80, t81, t86, t88, t89, t90, t91, t92, t94, t95, t96, t98, t99, t100, t101, t102, u_bool, DtUps.cells]
          repeat' first | (refine ⟨fun _ => ?_, fun _ => ?_⟩) | (refine ⟨by omega, ?_⟩) | (intro _)
          all_goals (refine hK _ ?_; clear hK K)
          all_goals
            refine AW_ret (end_s ?_)
            simp [creg_nil, creg_op, creg_gd, cO, cR, cG_bool, cG_undef, ↓spl_tt, ↓spl_tf, ↓spl_ft, ↓spl_ff, spl_ct, spl_cf, putC, nmC, aop, ev, cv, updL, upd_app, upd_upd, lkE_app, lk_nil, lk_cons, aLen, aBuiltin, aBin, aIntBin, aFieldAddr, placeOf, aLoad, cellsAt, aUn, aIndexAddr, st0, valCells, isOne, Value.oneCell', aStore, setCells, List.getElem?_cons_zero, List.getElem?_cons_succ, Option.getD_some, formOb_nn, aBuild, parts, fillA, placesOf, aField, aIndex, aSlice, optIdx, aStrBin, aMakeSlice, viewCells, viewCell, arrN, frzU, t2, t3, t4, t5, t6, t7, t8, t9, t10, t11, t12, t13, t14, t15, t16, t17, t18, t19, t21, t22, t28, t29, t30, t33, t39, t45, t46, t47, t50, t51, t52, t56, t66, t67, t71, t77, t80, t81, t86, t88, t89, t90, t91, t92, t94, t95, t96, t98, t99, t100, t101, t102, u_bool, DtUps.cells, endR_some, am0_gg, am0_ss, am0_ll, am1_gg, am1_ss, am1_ll, am1_nl, am1_al, am2_gg, am2_ss, am2_ll, am2_nl, am2_al, am2_ff, am1s_nn, am1s_cc, am2s_nn, am2s_cc, amRs_one, amRs_two', amRs_thr, resAll_nil, resAll_tmp, resAll_cell]
            all_goals first | (refine eqB_of (he.mpr ?_); simp_all [eqB_true, eqB_false]; done) | (refine eqB_ne fun h => ?_; rw [he] at h; simp_all [eqB_true, eqB_false, eqB_self]; done) | (refine (eqB_of (he.mpr ?_)).symm; simp_all [eqB_true, eqB_false]; done) | (refine (eqB_ne fun h => ?_).symm; rw [he] at h; simp_all [eqB_true, eqB_false, eqB_self]; done)
      · try simp at hc29
        all_goals
          refine AW_skip ?_
          refine AW_id ?_
          refine AW_seq ?_
          refine AW_r rfl rfl fun K hK => ?_
          simp [creg_nil, creg_op, creg_gd, cO, cR, cG_bool, cG_undef, ↓spl_tt, ↓spl_tf, ↓spl_ft, ↓spl_ff, spl_ct, spl_cf, putC, nmC, aop, ev, cv, updL, upd_app, upd_upd, lkE_app, lk_nil, lk_cons, aLen, aBuiltin, aBin, aIntBin, aFieldAddr, placeOf, aLoad, cellsAt, aUn, aIndexAddr, st0, valCells, isOne, Value.oneCell', aStore, setCells, List.getElem?_cons_zero, List.getElem?_cons_succ, Option.getD_some, formOb_nn, aBuild, parts, fillA, placesOf, aField, aIndex, aSlice, optIdx, aStrBin, aMakeSlice, viewCells, viewCell, arrN, frzU, t2, t3, t4, t5, t6, t7, t8, t9, t10, t11, t12, t13, t14, t15, t16, t17, t18, t19, t21, t22, t28, t29, t30, t33, t39, t45, t46, t47, t50, t51, t52, t56, t66, t67, t71, t77, t80, t81, t86, t88, t89, t90, t91, t92, t94, t95, t96, t98, t99, t100, t101, t102, u_bool, DtUps.cells]
          repeat' first | (refine CKd_v (am2s_cons am2_sl (am2s_cons am2_sl am2s_nil)) (eqUpS _ _ (by first | assumption | omega)) rfl ?_; simp [creg_nil, creg_op, creg_gd, cO, cR, cG_bool, cG_undef, ↓spl_tt, ↓spl_tf, ↓spl_ft, ↓spl_ff, spl_ct, spl_cf, putC, nmC, aop, ev, cv, updL, upd_app, upd_upd, lkE_app, lk_nil, lk_cons, aLen, aBuiltin, aBin, aIntBin, aFieldAddr, placeOf, aLoad, cellsAt, aUn, aIndexAddr, st0, valCells, isOne, Value.oneCell', aStore, setCells, List.getElem?_cons_zero, List.getElem?_cons_succ, Option.getD_some, formOb_nn, aBuild, parts, fillA, placesOf, aField, aIndex, aSlice, optIdx, aStrBin, aMakeSlice, viewCells, viewCell, arrN, frzU, t2, t3, t4, t5, t6, t7, t8, t9, t10, t11, t12, t13, t14, t15, t16, t17, t18, t19, t21, t22, t28, t29, t30, t33, t39, t45, t46, t47, t50, t51, t52, t56, t66, t67, t71, t77, t80, t81, t86, t88, t89, t90, t91, t92, t94, t95, t96, t98, t99, t100, t101, t102, u_bool, DtUps.cells]) | (refine ⟨fun _ => ?_, fun _ => ?_⟩) | (refine ⟨by omega, ?_⟩) | (intro _)
          all_goals (refine hK _ ?_; clear hK K)
          all_goals
            refine AW_cond rfl (fun hc30 => ?_) (fun hc30 => ?_)
            · try simp at hc30
              all_goals
                refine AW_r rfl rfl fun K hK => ?_
                simp [creg_nil, creg_op, creg_gd, cO, cR, cG_bool, cG_undef, ↓spl_tt, ↓spl_tf, ↓spl_ft, ↓spl_ff, spl_ct, spl_cf, putC, nmC, aop, ev, cv, updL, upd_app, upd_upd, lkE_app, lk_nil, lk_cons, aLen, aBuiltin, aBin, aIntBin, aFieldAddr, placeOf, aLoad, cellsAt, aUn, aIndexAddr, st0, valCells, isOne, Value.oneCell', aStore, setCells, List.getElem?_cons_zero, List.getElem?_cons_succ, Option.getD_some, formOb_nn, aBuild, parts, fillA, placesOf, aField, aIndex, aSlice, optIdx, aStrBin, aMakeSlice, viewCells, viewCell, arrN, frzU, t2, t3, t4, t5, t6, t7, t8, t9, t10, t11, t12, t13, t14, t15, t16, t17, t18, t19, t21, t22, t28, t29, t30, t33, t39, t45, t46, t47, t50, t51, t52, t56, t66, t67, t71, t77, t80, t81, t86, t88, t89, t90, t91, t92, t94, t95, t96, t98, t99, t100, t101, t102, u_bool, DtUps.cells]
                repeat' first | (refine ⟨fun _ => ?_, fun _ => ?_⟩) | (refine ⟨by omega, ?_⟩) | (intro _)
                all_goals (refine hK _ ?_; clear hK K)
                all_goals
                  refine AW_ret (end_s ?_)
                  simp [creg_nil, creg_op, creg_gd, cO, cR, cG_bool, cG_undef, ↓spl_tt, ↓spl_tf, ↓spl_ft, ↓spl_ff, spl_ct, spl_cf, putC, nmC, aop, ev, cv, updL, upd_app, upd_upd, lkE_app, lk_nil, lk_cons, aLen, aBuiltin, aBin, aIntBin, aFieldAddr, placeOf, aLoad, cellsAt, aUn, aIndexAddr, st0, valCells, isOne, Value.oneCell', aStore, setCells, List.getElem?_cons_zero, List.getElem?_cons_succ, Option.getD_some, formOb_nn, aBuild, parts, fillA, placesOf, aField, aIndex, aSlice, optIdx, aStrBin, aMakeSlice, viewCells, viewCell, arrN, frzU, t2, t3, t4, t5, t6, t7, t8, t9, t10, t11, t12, t13, t14, t15, t16, t17, t18, t19, t21, t22, t28, t29, t30, t33, t39, t45, t46, t47, t50, t51, t52, t56, t66, t67, t71, t77, t80, t81, t86, t88, t89, t90, t91, t92, t94, t95, t96, t98, t99, t100, t101, t102, u_bool, DtUps.cells, endR_some, am0_gg, am0_ss, am0_ll, am1_gg, am1_ss, am1_ll, am1_nl, am1_al, am2_gg, am2_ss, am2_ll, am2_nl, am2_al, am2_ff, am1s_nn, am1s_cc, am2s_nn, am2s_cc, amRs_one, amRs_two', amRs_thr, resAll_nil, resAll_tmp, resAll_cell]
                  all_goals first | (refine eqB_of (he.mpr ?_); simp_all [eqB_true, eqB_false]; done) | (refine eqB_ne fun h => ?_; rw [he] at h; simp_all [eqB_true, eqB_false, eqB_self]; done) | (refine (eqB_of (he.mpr ?_)).symm; simp_all [eqB_true, eqB_false]; done) | (refine (eqB_ne fun h => ?_).symm; rw [he] at h; simp_all [eqB_true, eqB_false, eqB_self]; done)
            · try simp at hc30
              all_goals
                refine AW_skip ?_
                refine AW_id ?_
                refine AW_r rfl rfl fun K hK => ?_
                simp [creg_nil, creg_op, creg_gd, cO, cR, cG_bool, cG_undef, ↓spl_tt, ↓spl_tf, ↓spl_ft, ↓spl_ff, spl_ct, spl_cf, putC, nmC, aop, ev, cv, updL, upd_app, upd_upd, lkE_app, lk_nil, lk_cons, aLen, aBuiltin, aBin, aIntBin, aFieldAddr, placeOf, aLoad, cellsAt, aUn, aIndexAddr, st0, valCells, isOne, Value.oneCell', aStore, setCells, List.getElem?_cons_zero, List.getElem?_cons_succ, Option.getD_some, formOb_nn, aBuild, parts, fillA, placesOf, aField, aIndex, aSlice, optIdx, aStrBin, aMakeSlice, viewCells, viewCell, arrN, frzU, t2, t3, t4, t5, t6, t7, t8, t9, t10, t11, t12, t13, t14, t15, t16, t17, t18, t19, t21, t22, t28, t29, t30, t33, t39, t45, t46, t47, t50, t51, t52, t56, t66, t67, t71, t77, t80, t81, t86, t88, t89, t90, t91, t92, t94, t95, t96, t98, t99, t100, t101, t102, u_bool, DtUps.cells]
                repeat' first | (refine ⟨fun _ => ?_, fun _ => ?_⟩) | (refine ⟨by omega, ?_⟩) | (intro _)
                all_goals (refine hK _ ?_; clear hK K)
                all_goals
                  refine AW_ret (end_s ?_)
                  simp [creg_nil, creg_op, creg_gd, cO, cR, cG_bool, cG_undef, ↓spl_tt, ↓spl_tf, ↓spl_ft, ↓spl_ff, spl_ct, spl_cf, putC, nmC, aop, ev, cv, updL, upd_app, upd_upd, lkE_app, lk_nil, lk_cons, aLen, aBuiltin, aBin, aIntBin, aFieldAddr, placeOf, aLoad, cellsAt, aUn, aIndexAddr, st0, valCells, isOne, Value.oneCell', aStore, setCells, List.getElem?_cons_zero, List.getElem?_cons_succ, Option.getD_some, formOb_nn, aBuild, parts, fillA, placesOf, aField, aIndex, aSlice, optIdx, aStrBin, aMakeSlice, viewCells, viewCell, arrN, frzU, t2, t3, t4, t5, t6, t7, t8, t9, t10, t11, t12, t13, t14, t15, t16, t17, t18, t19, t21, t22, t28, t29, t30, t33, t39, t45, t46, t47, t50, t51, t52, t56, t66, t67, t71, t77, t80, t81, t86, t88, t89, t90, t91, t92, t94, t95, t96, t98, t99, t100, t101, t102, u_bool, DtUps.cells, endR_some, am0_gg, am0_ss, am0_ll, am1_gg, am1_ss, am1_ll, am1_nl, am1_al, am2_gg, am2_ss, am2_ll, am2_nl, am2_al, am2_ff, am1s_nn, am1s_cc, am2s_nn, am2s_cc, amRs_one, amRs_two', amRs_thr, resAll_nil, resAll_tmp, resAll_cell]
                  all_goals first | (refine eqB_of (he.mpr ?_); simp_all [eqB_true, eqB_false]; done) | (refine eqB_ne fun h => ?_; rw [he] at h; simp_all [eqB_true, eqB_false, eqB_self]; done) | (refine (eqB_of (he.mpr ?_)).symm; simp_all [eqB_true, eqB_false]; done) | (refine (eqB_ne fun h => ?_).symm; rw [he] at h; simp_all [eqB_true, eqB_false, eqB_self]; done)
end Go.Proofs.Ythfajpgocmpbpaa.Vs
