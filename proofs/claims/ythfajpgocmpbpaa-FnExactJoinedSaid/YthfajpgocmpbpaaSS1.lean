import Derived.Test.YthfajpgocmpbpaaSKT
import Derived.Test.YthfajpgocmpbpaaVsZG
open Go Go.Proofs Go.Proofs.Ythfajpgocmpbpaa.Vs
namespace Go.Proofs.Ythfajpgocmpbpaa.Vs
set_option linter.unusedVariables false
set_option linter.unusedSimpArgs false
set_option linter.unusedSectionVars false
set_option linter.unnecessarySimpa false
set_option linter.all false
set_option linter.unusedSimpArgs false
set_option linter.unusedVariables false
def cS (x : List UInt8) : List AV := [.s x]
def cI (x : Int) : List AV := [.g (.int .i64 x)]
/-- What szStringS leaves: each string's length and one more. -/
def szL (xs : List (List UInt8)) : Int := xs.foldr (fun x n => (x.length : Int) + n) 0
theorem szL_nil : szL [] = 0 := rfl
theorem szL_cons (x : List UInt8) (xs : List (List UInt8)) : szL (x :: xs) = x.length + szL xs := rfl
theorem szL_nonneg : ∀ xs, 0 ≤ szL xs
  | [] => by simp [szL_nil]
  | x :: xs => by rw [szL_cons]; have := szL_nonneg xs; omega
theorem szL_take (xs : List (List UInt8)) (i : Nat) (h : i < xs.length) : szL (xs.take (i + 1)) = szL (xs.take i) + xs[i].length := by
  induction xs generalizing i with
  | nil => simp at h
  | cons x xs ih =>
    cases i with
    | zero => simp [szL_cons, szL_nil]
    | succ i =>
      have := ih i (by simpa using h)
      simp only [List.take_succ_cons, szL_cons, this, List.getElem_cons_succ]; omega
theorem szL_take_le (xs : List (List UInt8)) (i : Nat) : szL (xs.take i) ≤ szL xs := by
  induction xs generalizing i with
  | nil => simp
  | cons x xs ih =>
    cases i with
    | zero => have := szL_nonneg (x :: xs); simpa [szL_nil] using this
    | succ i => have := ih i; simp only [List.take_succ_cons, szL_cons]; omega
def szStr (xs : List (List UInt8)) (n : Int) : Int := if n - xs.length - szL xs < 0 then -1 else n - xs.length - szL xs
theorem szStringS (xs : List (List UInt8)) (n : Int) (hm : xs.length ≤ maxLen) (hn : 0 ≤ n ∧ n ≤ 1048576) (hs : ∀ x ∈ xs, x.length ≤ maxLen) : PCall Try.prog 11 [.sl 1 (xs.map cS), (.g (.int .i64 (n)))] (.g (.int .i64 (szStr xs n))) := by
  have hq := szL_nonneg xs
  have hm' : xs.length ≤ 9223372036854775807 := hm
  refine gcall_of_walk Try.func11 (by rfl) (by rfl) (by rw [Try.ntmps11]; exact Nat.le_of_ble_eq_true rfl) rfl (by decide) ?_
  rw [Try.ntmps11]
  refine AW_k [(0, _), (1, _)] ⟨rfl, rfl, trivial⟩ ?_
  refine AW_r rfl rfl fun K hK => ?_
  simp (disch := omega) [creg_nil, creg_op, creg_gd, cO, cR, cG_bool, cG_undef, ↓spl_tt, ↓spl_tf, ↓spl_ft, ↓spl_ff, spl_ct, spl_cf, putC, nmC, aop, ev, cv, updL, upd_app, upd_upd, lkE_app, lk_nil, lk_cons, aLen, aBuiltin, aBin, aIntBin, aFieldAddr, placeOf, aLoad, cellsAt, aUn, aIndexAddr, st0, valCells, isOne, Value.oneCell', aStore, setCells, List.getElem?_cons_zero, List.getElem?_cons_succ, Option.getD_some, formOb_nn, aBuild, parts, fillA, placesOf, aField, aIndex, aSlice, optIdx, aStrBin, aMakeSlice, viewCells, viewCell, arrN, frzU, t2, t3, t4, t5, t6, t7, t8, t9, t10, t11, t12, t13, t14, t15, t16, t17, t18, t19, t21, t22, t28, t29, t30, t33, t39, t45, t46, t47, t50, t51, t52, t56, t66, t67, t71, t77, t80, t81, t86, t88, t89, t90, t91, t92, t94, t95, t96, t98, t99, t100, t101, t102, u_bool, wrap64, List.getElem?_eq_getElem]
  repeat' first | (refine ⟨fun _ => ?_, fun _ => ?_⟩) | (refine ⟨by omega, ?_⟩) | (intro _)
  all_goals (refine hK _ ?_; clear hK K)
  all_goals
    refine AW_r rfl rfl fun K hK => ?_
    simp (disch := omega) [creg_nil, creg_op, creg_gd, cO, cR, cG_bool, cG_undef, ↓spl_tt, ↓spl_tf, ↓spl_ft, ↓spl_ff, spl_ct, spl_cf, putC, nmC, aop, ev, cv, updL, upd_app, upd_upd, lkE_app, lk_nil, lk_cons, aLen, aBuiltin, aBin, aIntBin, aFieldAddr, placeOf, aLoad, cellsAt, aUn, aIndexAddr, st0, valCells, isOne, Value.oneCell', aStore, setCells, List.getElem?_cons_zero, List.getElem?_cons_succ, Option.getD_some, formOb_nn, aBuild, parts, fillA, placesOf, aField, aIndex, aSlice, optIdx, aStrBin, aMakeSlice, viewCells, viewCell, arrN, frzU, t2, t3, t4, t5, t6, t7, t8, t9, t10, t11, t12, t13, t14, t15, t16, t17, t18, t19, t21, t22, t28, t29, t30, t33, t39, t45, t46, t47, t50, t51, t52, t56, t66, t67, t71, t77, t80, t81, t86, t88, t89, t90, t91, t92, t94, t95, t96, t98, t99, t100, t101, t102, u_bool, wrap64, List.getElem?_eq_getElem]
    repeat' first | (refine ⟨fun _ => ?_, fun _ => ?_⟩) | (refine ⟨by omega, ?_⟩) | (intro _)
    all_goals (refine hK _ ?_; clear hK K)
    all_goals
      refine AW_seq ?_
      refine AW_r rfl rfl fun K hK => ?_
      simp (disch := omega) [creg_nil, creg_op, creg_gd, cO, cR, cG_bool, cG_undef, ↓spl_tt, ↓spl_tf, ↓spl_ft, ↓spl_ff, spl_ct, spl_cf, putC, nmC, aop, ev, cv, updL, upd_app, upd_upd, lkE_app, lk_nil, lk_cons, aLen, aBuiltin, aBin, aIntBin, aFieldAddr, placeOf, aLoad, cellsAt, aUn, aIndexAddr, st0, valCells, isOne, Value.oneCell', aStore, setCells, List.getElem?_cons_zero, List.getElem?_cons_succ, Option.getD_some, formOb_nn, aBuild, parts, fillA, placesOf, aField, aIndex, aSlice, optIdx, aStrBin, aMakeSlice, viewCells, viewCell, arrN, frzU, t2, t3, t4, t5, t6, t7, t8, t9, t10, t11, t12, t13, t14, t15, t16, t17, t18, t19, t21, t22, t28, t29, t30, t33, t39, t45, t46, t47, t50, t51, t52, t56, t66, t67, t71, t77, t80, t81, t86, t88, t89, t90, t91, t92, t94, t95, t96, t98, t99, t100, t101, t102, u_bool, wrap64, List.getElem?_eq_getElem]
      repeat' first | (refine ⟨fun _ => ?_, fun _ => ?_⟩) | (refine ⟨by omega, ?_⟩) | (intro _)
      all_goals (refine hK _ ?_; clear hK K)
      all_goals
        refine AW_cond rfl (fun hc1 => ?_) (fun hc1 => ?_)
        · try simp at hc1
          all_goals
            refine AW_r rfl rfl fun K hK => ?_
            simp (disch := omega) [creg_nil, creg_op, creg_gd, cO, cR, cG_bool, cG_undef, ↓spl_tt, ↓spl_tf, ↓spl_ft, ↓spl_ff, spl_ct, spl_cf, putC, nmC, aop, ev, cv, updL, upd_app, upd_upd, lkE_app, lk_nil, lk_cons, aLen, aBuiltin, aBin, aIntBin, aFieldAddr, placeOf, aLoad, cellsAt, aUn, aIndexAddr, st0, valCells, isOne, Value.oneCell', aStore, setCells, List.getElem?_cons_zero, List.getElem?_cons_succ, Option.getD_some, formOb_nn, aBuild, parts, fillA, placesOf, aField, aIndex, aSlice, optIdx, aStrBin, aMakeSlice, viewCells, viewCell, arrN, frzU, t2, t3, t4, t5, t6, t7, t8, t9, t10, t11, t12, t13, t14, t15, t16, t17, t18, t19, t21, t22, t28, t29, t30, t33, t39, t45, t46, t47, t50, t51, t52, t56, t66, t67, t71, t77, t80, t81, t86, t88, t89, t90, t91, t92, t94, t95, t96, t98, t99, t100, t101, t102, u_bool, wrap64, List.getElem?_eq_getElem]
            repeat' first | (refine ⟨fun _ => ?_, fun _ => ?_⟩) | (refine ⟨by omega, ?_⟩) | (intro _)
            all_goals (refine hK _ ?_; clear hK K)
            all_goals
              refine AW_ret (end_s ?_)
              simp (disch := omega) [creg_nil, creg_op, creg_gd, cO, cR, cG_bool, cG_undef, ↓spl_tt, ↓spl_tf, ↓spl_ft, ↓spl_ff, spl_ct, spl_cf, putC, nmC, aop, ev, cv, updL, upd_app, upd_upd, lkE_app, lk_nil, lk_cons, aLen, aBuiltin, aBin, aIntBin, aFieldAddr, placeOf, aLoad, cellsAt, aUn, aIndexAddr, st0, valCells, isOne, Value.oneCell', aStore, setCells, List.getElem?_cons_zero, List.getElem?_cons_succ, Option.getD_some, formOb_nn, aBuild, parts, fillA, placesOf, aField, aIndex, aSlice, optIdx, aStrBin, aMakeSlice, viewCells, viewCell, arrN, frzU, t2, t3, t4, t5, t6, t7, t8, t9, t10, t11, t12, t13, t14, t15, t16, t17, t18, t19, t21, t22, t28, t29, t30, t33, t39, t45, t46, t47, t50, t51, t52, t56, t66, t67, t71, t77, t80, t81, t86, t88, t89, t90, t91, t92, t94, t95, t96, t98, t99, t100, t101, t102, u_bool, wrap64, List.getElem?_eq_getElem, endR_some, am0_gg, am0_ss, am0_ll, am1_gg, am1_ss, am1_ll, am1_nl, am1_al, am2_gg, am2_ss, am2_ll, am2_nl, am2_al, am2_ff, am1s_nn, am1s_cc, am2s_nn, am2s_cc, amRs_one, amRs_two', amRs_thr, resAll_nil, resAll_tmp, resAll_cell, szStr]
              all_goals first | omega | (simp_all; done) | (simp [List.take_of_length_le]; done) | ((try simp_all); (try simp (disch := omega) only [wrap64, Int.tdiv_eq_ediv_of_nonneg, Int.tmod_eq_emod_of_nonneg, and_true, true_and]); done) | ((try simp_all); (try simp (disch := omega) only [wrap64, Int.tdiv_eq_ediv_of_nonneg, Int.tmod_eq_emod_of_nonneg, and_true, true_and] at *); omega)
        · try simp at hc1
          all_goals
            refine AW_skip ?_
            refine AW_id ?_
            refine AW_seq ?_
            refine AW_r rfl rfl fun K hK => ?_
            simp (disch := omega) [creg_nil, creg_op, creg_gd, cO, cR, cG_bool, cG_undef, ↓spl_tt, ↓spl_tf, ↓spl_ft, ↓spl_ff, spl_ct, spl_cf, putC, nmC, aop, ev, cv, updL, upd_app, upd_upd, lkE_app, lk_nil, lk_cons, aLen, aBuiltin, aBin, aIntBin, aFieldAddr, placeOf, aLoad, cellsAt, aUn, aIndexAddr, st0, valCells, isOne, Value.oneCell', aStore, setCells, List.getElem?_cons_zero, List.getElem?_cons_succ, Option.getD_some, formOb_nn, aBuild, parts, fillA, placesOf, aField, aIndex, aSlice, optIdx, aStrBin, aMakeSlice, viewCells, viewCell, arrN, frzU, t2, t3, t4, t5, t6, t7, t8, t9, t10, t11, t12, t13, t14, t15, t16, t17, t18, t19, t21, t22, t28, t29, t30, t33, t39, t45, t46, t47, t50, t51, t52, t56, t66, t67, t71, t77, t80, t81, t86, t88, t89, t90, t91, t92, t94, t95, t96, t98, t99, t100, t101, t102, u_bool, wrap64, List.getElem?_eq_getElem]
            repeat' first | (refine ⟨fun _ => ?_, fun _ => ?_⟩) | (refine ⟨by omega, ?_⟩) | (intro _)
            all_goals (refine hK _ ?_; clear hK K)
            all_goals
              refine AW_block ?_
              refine AW_loopS (fun m s => ∃ (i : Nat), m = xs.length - i ∧ (i ≤ xs.length ∧ 0 ≤ n - xs.length - szL (xs.take i)) ∧ s = { env := lkE [(0, .sl 1 (xs.map cS)), (1, (.g (.int .i64 (n - xs.length - szL (xs.take i))))), (5, (.g (.int .i64 ((i : Nat)))))], ob := formOb [] [] }) ?_ ?_
              · refine ⟨_, LeS.kp [(0, .sl 1 (xs.map cS)), (1, (.g (.int .i64 (n - xs.length - szL (xs.take (0)))))), (5, (.g (.int .i64 (((0) : Nat)))))] (by simp [KpE, upd_app, lkE_app, lk_cons, szL_nil]; try rfl), _, 0, rfl, ?_, rfl⟩
                · simp [szL_nil]; omega
              · rintro m s ⟨i, rfl, ⟨hi, hn⟩, rfl⟩
                have hz := szL_nonneg (xs.take i)
                have hz2 := szL_take_le xs i
                refine AW_seq ?_
                refine AW_r rfl rfl fun K hK => ?_
                simp (disch := omega) [creg_nil, creg_op, creg_gd, cO, cR, cG_bool, cG_undef, ↓spl_tt, ↓spl_tf, ↓spl_ft, ↓spl_ff, spl_ct, spl_cf, putC, nmC, aop, ev, cv, updL, upd_app, upd_upd, lkE_app, lk_nil, lk_cons, aLen, aBuiltin, aBin, aIntBin, aFieldAddr, placeOf, aLoad, cellsAt, aUn, aIndexAddr, st0, valCells, isOne, Value.oneCell', aStore, setCells, List.getElem?_cons_zero, List.getElem?_cons_succ, Option.getD_some, formOb_nn, aBuild, parts, fillA, placesOf, aField, aIndex, aSlice, optIdx, aStrBin, aMakeSlice, viewCells, viewCell, arrN, frzU, t2, t3, t4, t5, t6, t7, t8, t9, t10, t11, t12, t13, t14, t15, t16, t17, t18, t19, t21, t22, t28, t29, t30, t33, t39, t45, t46, t47, t50, t51, t52, t56, t66, t67, t71, t77, t80, t81, t86, t88, t89, t90, t91, t92, t94, t95, t96, t98, t99, t100, t101, t102, u_bool, wrap64, List.getElem?_eq_getElem, cS]
                repeat' first | (refine ⟨fun _ => ?_, fun _ => ?_⟩) | (refine ⟨by omega, ?_⟩) | (intro _)
                all_goals (refine hK _ ?_; clear hK K)
                all_goals
                  refine AW_cond rfl (fun hc2 => ?_) (fun hc2 => ?_)
                  · try simp at hc2
                    all_goals
                      have hl := szL_take xs i (by omega)
                      have hb : xs[i].length ≤ maxLen := hs _ (List.getElem_mem _)
                      have hz3 := szL_take_le xs (i + 1)
                      have hml : (maxLen : Int) = 9223372036854775807 := rfl
                      refine AW_skip ?_
                      refine AW_id ?_
                      refine AW_seq ?_
                      refine AW_block ?_
                      refine AW_r rfl rfl fun K hK => ?_
                      simp (disch := omega) [creg_nil, creg_op, creg_gd, cO, cR, cG_bool, cG_undef, ↓spl_tt, ↓spl_tf, ↓spl_ft, ↓spl_ff, spl_ct, spl_cf, putC, nmC, aop, ev, cv, updL, upd_app, upd_upd, lkE_app, lk_nil, lk_cons, aLen, aBuiltin, aBin, aIntBin, aFieldAddr, placeOf, aLoad, cellsAt, aUn, aIndexAddr, st0, valCells, isOne, Value.oneCell', aStore, setCells, List.getElem?_cons_zero, List.getElem?_cons_succ, Option.getD_some, formOb_nn, aBuild, parts, fillA, placesOf, aField, aIndex, aSlice, optIdx, aStrBin, aMakeSlice, viewCells, viewCell, arrN, frzU, t2, t3, t4, t5, t6, t7, t8, t9, t10, t11, t12, t13, t14, t15, t16, t17, t18, t19, t21, t22, t28, t29, t30, t33, t39, t45, t46, t47, t50, t51, t52, t56, t66, t67, t71, t77, t80, t81, t86, t88, t89, t90, t91, t92, t94, t95, t96, t98, t99, t100, t101, t102, u_bool, wrap64, List.getElem?_eq_getElem, cS]
                      repeat' first | (refine ⟨fun _ => ?_, fun _ => ?_⟩) | (refine ⟨by omega, ?_⟩) | (intro _)
                      all_goals (refine hK _ ?_; clear hK K)
                      all_goals
                        refine AW_r rfl rfl fun K hK => ?_
                        simp (disch := omega) [creg_nil, creg_op, creg_gd, cO, cR, cG_bool, cG_undef, ↓spl_tt, ↓spl_tf, ↓spl_ft, ↓spl_ff, spl_ct, spl_cf, putC, nmC, aop, ev, cv, updL, upd_app, upd_upd, lkE_app, lk_nil, lk_cons, aLen, aBuiltin, aBin, aIntBin, aFieldAddr, placeOf, aLoad, cellsAt, aUn, aIndexAddr, st0, valCells, isOne, Value.oneCell', aStore, setCells, List.getElem?_cons_zero, List.getElem?_cons_succ, Option.getD_some, formOb_nn, aBuild, parts, fillA, placesOf, aField, aIndex, aSlice, optIdx, aStrBin, aMakeSlice, viewCells, viewCell, arrN, frzU, t2, t3, t4, t5, t6, t7, t8, t9, t10, t11, t12, t13, t14, t15, t16, t17, t18, t19, t21, t22, t28, t29, t30, t33, t39, t45, t46, t47, t50, t51, t52, t56, t66, t67, t71, t77, t80, t81, t86, t88, t89, t90, t91, t92, t94, t95, t96, t98, t99, t100, t101, t102, u_bool, wrap64, List.getElem?_eq_getElem, cS]
                        repeat' first | (refine ⟨fun _ => ?_, fun _ => ?_⟩) | (refine ⟨by omega, ?_⟩) | (intro _)
                        all_goals (refine hK _ ?_; clear hK K)
                        all_goals
                          refine AW_cond rfl (fun hc3 => ?_) (fun hc3 => ?_)
                          · try simp at hc3
                            all_goals
                              refine AW_r rfl rfl fun K hK => ?_
                              simp (disch := omega) [creg_nil, creg_op, creg_gd, cO, cR, cG_bool, cG_undef, ↓spl_tt, ↓spl_tf, ↓spl_ft, ↓spl_ff, spl_ct, spl_cf, putC, nmC, aop, ev, cv, updL, upd_app, upd_upd, lkE_app, lk_nil, lk_cons, aLen, aBuiltin, aBin, aIntBin, aFieldAddr, placeOf, aLoad, cellsAt, aUn, aIndexAddr, st0, valCells, isOne, Value.oneCell', aStore, setCells, List.getElem?_cons_zero, List.getElem?_cons_succ, Option.getD_some, formOb_nn, aBuild, parts, fillA, placesOf, aField, aIndex, aSlice, optIdx, aStrBin, aMakeSlice, viewCells, viewCell, arrN, frzU, t2, t3, t4, t5, t6, t7, t8, t9, t10, t11, t12, t13, t14, t15, t16, t17, t18, t19, t21, t22, t28, t29, t30, t33, t39, t45, t46, t47, t50, t51, t52, t56, t66, t67, t71, t77, t80, t81, t86, t88, t89, t90, t91, t92, t94, t95, t96, t98, t99, t100, t101, t102, u_bool, wrap64, List.getElem?_eq_getElem, cS]
                              repeat' first | (refine ⟨fun _ => ?_, fun _ => ?_⟩) | (refine ⟨by omega, ?_⟩) | (intro _)
                              all_goals (refine hK _ ?_; clear hK K)
                              all_goals
                                refine AW_ret (end_s ?_)
                                simp (disch := omega) [creg_nil, creg_op, creg_gd, cO, cR, cG_bool, cG_undef, ↓spl_tt, ↓spl_tf, ↓spl_ft, ↓spl_ff, spl_ct, spl_cf, putC, nmC, aop, ev, cv, updL, upd_app, upd_upd, lkE_app, lk_nil, lk_cons, aLen, aBuiltin, aBin, aIntBin, aFieldAddr, placeOf, aLoad, cellsAt, aUn, aIndexAddr, st0, valCells, isOne, Value.oneCell', aStore, setCells, List.getElem?_cons_zero, List.getElem?_cons_succ, Option.getD_some, formOb_nn, aBuild, parts, fillA, placesOf, aField, aIndex, aSlice, optIdx, aStrBin, aMakeSlice, viewCells, viewCell, arrN, frzU, t2, t3, t4, t5, t6, t7, t8, t9, t10, t11, t12, t13, t14, t15, t16, t17, t18, t19, t21, t22, t28, t29, t30, t33, t39, t45, t46, t47, t50, t51, t52, t56, t66, t67, t71, t77, t80, t81, t86, t88, t89, t90, t91, t92, t94, t95, t96, t98, t99, t100, t101, t102, u_bool, wrap64, List.getElem?_eq_getElem, cS, endR_some, am0_gg, am0_ss, am0_ll, am1_gg, am1_ss, am1_ll, am1_nl, am1_al, am2_gg, am2_ss, am2_ll, am2_nl, am2_al, am2_ff, am1s_nn, am1s_cc, am2s_nn, am2s_cc, amRs_one, amRs_two', amRs_thr, resAll_nil, resAll_tmp, resAll_cell, szStr]
                                all_goals first | omega | (simp_all; done) | (simp [List.take_of_length_le]; done) | ((try simp_all); (try simp (disch := omega) only [wrap64, Int.tdiv_eq_ediv_of_nonneg, Int.tmod_eq_emod_of_nonneg, and_true, true_and]); done) | ((try simp_all); (try simp (disch := omega) only [wrap64, Int.tdiv_eq_ediv_of_nonneg, Int.tmod_eq_emod_of_nonneg, and_true, true_and] at *); omega)
                          · try simp at hc3
                            all_goals
                              refine AW_skip ?_
                              refine AW_id ?_
                              refine AW_re rfl rfl fun K hK => ?_
                              simp (disch := omega) [creg_nil, creg_op, creg_gd, cO, cR, cG_bool, cG_undef, ↓spl_tt, ↓spl_tf, ↓spl_ft, ↓spl_ff, spl_ct, spl_cf, putC, nmC, aop, ev, cv, updL, upd_app, upd_upd, lkE_app, lk_nil, lk_cons, aLen, aBuiltin, aBin, aIntBin, aFieldAddr, placeOf, aLoad, cellsAt, aUn, aIndexAddr, st0, valCells, isOne, Value.oneCell', aStore, setCells, List.getElem?_cons_zero, List.getElem?_cons_succ, Option.getD_some, formOb_nn, aBuild, parts, fillA, placesOf, aField, aIndex, aSlice, optIdx, aStrBin, aMakeSlice, viewCells, viewCell, arrN, frzU, t2, t3, t4, t5, t6, t7, t8, t9, t10, t11, t12, t13, t14, t15, t16, t17, t18, t19, t21, t22, t28, t29, t30, t33, t39, t45, t46, t47, t50, t51, t52, t56, t66, t67, t71, t77, t80, t81, t86, t88, t89, t90, t91, t92, t94, t95, t96, t98, t99, t100, t101, t102, u_bool, wrap64, List.getElem?_eq_getElem, cS]
                              repeat' first | (refine ⟨fun _ => ?_, fun _ => ?_⟩) | (refine ⟨by omega, ?_⟩) | (intro _)
                              all_goals (refine hK _ ?_; clear hK K)
                              all_goals
                                refine ⟨_, LeS.kp [(0, .sl 1 (xs.map cS)), (1, (.g (.int .i64 (n - xs.length - szL (xs.take (i + 1)))))), (5, (.g (.int .i64 (((i + 1) : Nat)))))] (by simp [KpE, upd_app, lkE_app, lk_cons, szL_nil]; first | rfl | omega), _, ?_, i + 1, rfl, ?_, rfl⟩
                                · omega
                                · omega
                  · try simp at hc2
                    all_goals
                      have hi2 : i = xs.length := by omega
                      subst hi2
                      simp only [List.take_length] at *
                      refine AW_exit ?_
                      refine AW_id ?_
                      refine AW_r rfl rfl fun K hK => ?_
                      simp (disch := omega) [creg_nil, creg_op, creg_gd, cO, cR, cG_bool, cG_undef, ↓spl_tt, ↓spl_tf, ↓spl_ft, ↓spl_ff, spl_ct, spl_cf, putC, nmC, aop, ev, cv, updL, upd_app, upd_upd, lkE_app, lk_nil, lk_cons, aLen, aBuiltin, aBin, aIntBin, aFieldAddr, placeOf, aLoad, cellsAt, aUn, aIndexAddr, st0, valCells, isOne, Value.oneCell', aStore, setCells, List.getElem?_cons_zero, List.getElem?_cons_succ, Option.getD_some, formOb_nn, aBuild, parts, fillA, placesOf, aField, aIndex, aSlice, optIdx, aStrBin, aMakeSlice, viewCells, viewCell, arrN, frzU, t2, t3, t4, t5, t6, t7, t8, t9, t10, t11, t12, t13, t14, t15, t16, t17, t18, t19, t21, t22, t28, t29, t30, t33, t39, t45, t46, t47, t50, t51, t52, t56, t66, t67, t71, t77, t80, t81, t86, t88, t89, t90, t91, t92, t94, t95, t96, t98, t99, t100, t101, t102, u_bool, wrap64, List.getElem?_eq_getElem, cS]
                      repeat' first | (refine ⟨fun _ => ?_, fun _ => ?_⟩) | (refine ⟨by omega, ?_⟩) | (intro _)
                      all_goals (refine hK _ ?_; clear hK K)
                      all_goals
                        refine AW_ret (end_s ?_)
                        simp (disch := omega) [creg_nil, creg_op, creg_gd, cO, cR, cG_bool, cG_undef, ↓spl_tt, ↓spl_tf, ↓spl_ft, ↓spl_ff, spl_ct, spl_cf, putC, nmC, aop, ev, cv, updL, upd_app, upd_upd, lkE_app, lk_nil, lk_cons, aLen, aBuiltin, aBin, aIntBin, aFieldAddr, placeOf, aLoad, cellsAt, aUn, aIndexAddr, st0, valCells, isOne, Value.oneCell', aStore, setCells, List.getElem?_cons_zero, List.getElem?_cons_succ, Option.getD_some, formOb_nn, aBuild, parts, fillA, placesOf, aField, aIndex, aSlice, optIdx, aStrBin, aMakeSlice, viewCells, viewCell, arrN, frzU, t2, t3, t4, t5, t6, t7, t8, t9, t10, t11, t12, t13, t14, t15, t16, t17, t18, t19, t21, t22, t28, t29, t30, t33, t39, t45, t46, t47, t50, t51, t52, t56, t66, t67, t71, t77, t80, t81, t86, t88, t89, t90, t91, t92, t94, t95, t96, t98, t99, t100, t101, t102, u_bool, wrap64, List.getElem?_eq_getElem, cS, endR_some, am0_gg, am0_ss, am0_ll, am1_gg, am1_ss, am1_ll, am1_nl, am1_al, am2_gg, am2_ss, am2_ll, am2_nl, am2_al, am2_ff, am1s_nn, am1s_cc, am2s_nn, am2s_cc, amRs_one, amRs_two', amRs_thr, resAll_nil, resAll_tmp, resAll_cell, szStr]
                        all_goals first | omega | (simp_all; done) | (simp [List.take_of_length_le]; done) | ((try simp_all); (try simp (disch := omega) only [wrap64, Int.tdiv_eq_ediv_of_nonneg, Int.tmod_eq_emod_of_nonneg, and_true, true_and]); done) | ((try simp_all); (try simp (disch := omega) only [wrap64, Int.tdiv_eq_ediv_of_nonneg, Int.tmod_eq_emod_of_nonneg, and_true, true_and] at *); omega)
/-- The strings one behind the other. -/
def joined (xs : List (List UInt8)) : List UInt8 := xs.flatten
theorem joined_len (xs : List (List UInt8)) : ((joined xs).length : Int) = szL xs := by
  induction xs with
  | nil => rfl
  | cons x xs ih => rw [szL_cons, ← ih]; simp [joined]
theorem joined_take (xs : List (List UInt8)) (i : Nat) (h : i < xs.length) : joined (xs.take (i + 1)) = joined (xs.take i) ++ xs[i] := by
  induction xs generalizing i with
  | nil => simp at h
  | cons x xs ih =>
    cases i with
    | zero => simp [joined]
    | succ i =>
      have := ih i (by simpa using h)
      simp only [joined, List.take_succ_cons, List.flatten_cons, List.getElem_cons_succ, List.append_assoc] at this ⊢
      rw [this]
theorem specJoined (xs : List (List UInt8)) (hn : xs.length ≤ 1048576) (hs : szL xs ≤ 1048576) : PCall Try.prog 12 [.sl 1 (xs.map cS)] (.s (joined xs)) := by
  refine gcall_of_walk Try.func12 (by rfl) (by rfl) (by rw [Try.ntmps12]; exact Nat.le_of_ble_eq_true rfl) rfl (by decide) ?_
  rw [Try.ntmps12]
  refine AW_k [(0, _)] ⟨rfl, trivial⟩ ?_
  refine AW_r rfl rfl fun K hK => ?_
  simp (disch := omega) [creg_nil, creg_op, creg_gd, cO, cR, cG_bool, cG_undef, ↓spl_tt, ↓spl_tf, ↓spl_ft, ↓spl_ff, spl_ct, spl_cf, putC, nmC, aop, ev, cv, updL, upd_app, upd_upd, lkE_app, lk_nil, lk_cons, aLen, aBuiltin, aBin, aIntBin, aFieldAddr, placeOf, aLoad, cellsAt, aUn, aIndexAddr, st0, valCells, isOne, Value.oneCell', aStore, setCells, List.getElem?_cons_zero, List.getElem?_cons_succ, Option.getD_some, formOb_nn, aBuild, parts, fillA, placesOf, aField, aIndex, aSlice, optIdx, aStrBin, aMakeSlice, viewCells, viewCell, arrN, frzU, t2, t3, t4, t5, t6, t7, t8, t9, t10, t11, t12, t13, t14, t15, t16, t17, t18, t19, t21, t22, t28, t29, t30, t33, t39, t45, t46, t47, t50, t51, t52, t56, t66, t67, t71, t77, t80, t81, t86, t88, t89, t90, t91, t92, t94, t95, t96, t98, t99, t100, t101, t102, u_bool, wrap64, List.getElem?_eq_getElem]
  repeat' first | (refine ⟨fun _ => ?_, fun _ => ?_⟩) | (refine ⟨by omega, ?_⟩) | (intro _)
  all_goals (refine hK _ ?_; clear hK K)
  all_goals
    refine AW_r rfl rfl fun K hK => ?_
    simp (disch := omega) [creg_nil, creg_op, creg_gd, cO, cR, cG_bool, cG_undef, ↓spl_tt, ↓spl_tf, ↓spl_ft, ↓spl_ff, spl_ct, spl_cf, putC, nmC, aop, ev, cv, updL, upd_app, upd_upd, lkE_app, lk_nil, lk_cons, aLen, aBuiltin, aBin, aIntBin, aFieldAddr, placeOf, aLoad, cellsAt, aUn, aIndexAddr, st0, valCells, isOne, Value.oneCell', aStore, setCells, List.getElem?_cons_zero, List.getElem?_cons_succ, Option.getD_some, formOb_nn, aBuild, parts, fillA, placesOf, aField, aIndex, aSlice, optIdx, aStrBin, aMakeSlice, viewCells, viewCell, arrN, frzU, t2, t3, t4, t5, t6, t7, t8, t9, t10, t11, t12, t13, t14, t15, t16, t17, t18, t19, t21, t22, t28, t29, t30, t33, t39, t45, t46, t47, t50, t51, t52, t56, t66, t67, t71, t77, t80, t81, t86, t88, t89, t90, t91, t92, t94, t95, t96, t98, t99, t100, t101, t102, u_bool, wrap64, List.getElem?_eq_getElem]
    repeat' first | (refine ⟨fun _ => ?_, fun _ => ?_⟩) | (refine ⟨by omega, ?_⟩) | (intro _)
    all_goals (refine hK _ ?_; clear hK K)
    all_goals
      refine AW_seq ?_
      refine AW_r rfl rfl fun K hK => ?_
      simp (disch := omega) [creg_nil, creg_op, creg_gd, cO, cR, cG_bool, cG_undef, ↓spl_tt, ↓spl_tf, ↓spl_ft, ↓spl_ff, spl_ct, spl_cf, putC, nmC, aop, ev, cv, updL, upd_app, upd_upd, lkE_app, lk_nil, lk_cons, aLen, aBuiltin, aBin, aIntBin, aFieldAddr, placeOf, aLoad, cellsAt, aUn, aIndexAddr, st0, valCells, isOne, Value.oneCell', aStore, setCells, List.getElem?_cons_zero, List.getElem?_cons_succ, Option.getD_some, formOb_nn, aBuild, parts, fillA, placesOf, aField, aIndex, aSlice, optIdx, aStrBin, aMakeSlice, viewCells, viewCell, arrN, frzU, t2, t3, t4, t5, t6, t7, t8, t9, t10, t11, t12, t13, t14, t15, t16, t17, t18, t19, t21, t22, t28, t29, t30, t33, t39, t45, t46, t47, t50, t51, t52, t56, t66, t67, t71, t77, t80, t81, t86, t88, t89, t90, t91, t92, t94, t95, t96, t98, t99, t100, t101, t102, u_bool, wrap64, List.getElem?_eq_getElem]
      repeat' first | (refine ⟨fun _ => ?_, fun _ => ?_⟩) | (refine ⟨by omega, ?_⟩) | (intro _)
      all_goals (refine hK _ ?_; clear hK K)
      all_goals
        refine AW_block ?_
        refine AW_loopS (fun m s => ∃ (i : Nat), m = xs.length - i ∧ (i ≤ xs.length) ∧ s = { env := lkE [(0, .sl 1 (xs.map cS)), (3, .s (joined (xs.take i))), (4, (.g (.int .i64 ((i : Nat)))))], ob := formOb [] [] }) ?_ ?_
        · refine ⟨_, LeS.kp [(0, .sl 1 (xs.map cS)), (3, .s (joined (xs.take (0)))), (4, (.g (.int .i64 (((0) : Nat)))))] (by simp [KpE, upd_app, lkE_app, lk_cons, joined]; try rfl), _, 0, rfl, ?_, rfl⟩
          · simp
        · rintro m s ⟨i, rfl, hi, rfl⟩
          have hj := joined_len (xs.take i)
          have hz2 := szL_take_le xs i
          refine AW_seq ?_
          refine AW_r rfl rfl fun K hK => ?_
          simp (disch := omega) [creg_nil, creg_op, creg_gd, cO, cR, cG_bool, cG_undef, ↓spl_tt, ↓spl_tf, ↓spl_ft, ↓spl_ff, spl_ct, spl_cf, putC, nmC, aop, ev, cv, updL, upd_app, upd_upd, lkE_app, lk_nil, lk_cons, aLen, aBuiltin, aBin, aIntBin, aFieldAddr, placeOf, aLoad, cellsAt, aUn, aIndexAddr, st0, valCells, isOne, Value.oneCell', aStore, setCells, List.getElem?_cons_zero, List.getElem?_cons_succ, Option.getD_some, formOb_nn, aBuild, parts, fillA, placesOf, aField, aIndex, aSlice, optIdx, aStrBin, aMakeSlice, viewCells, viewCell, arrN, frzU, t2, t3, t4, t5, t6, t7, t8, t9, t10, t11, t12, t13, t14, t15, t16, t17, t18, t19, t21, t22, t28, t29, t30, t33, t39, t45, t46, t47, t50, t51, t52, t56, t66, t67, t71, t77, t80, t81, t86, t88, t89, t90, t91, t92, t94, t95, t96, t98, t99, t100, t101, t102, u_bool, wrap64, List.getElem?_eq_getElem, cS]
          repeat' first | (refine ⟨fun _ => ?_, fun _ => ?_⟩) | (refine ⟨by omega, ?_⟩) | (intro _)
          all_goals (refine hK _ ?_; clear hK K)
          all_goals
            refine AW_cond rfl (fun hc4 => ?_) (fun hc4 => ?_)
            · try simp at hc4
              all_goals
                have hj2 := joined_take xs i (by omega)
                have hj3 := joined_len (xs.take (i + 1))
                have hz3 := szL_take_le xs (i + 1)
                have hj4 : (joined (xs.take i)).length + xs[i].length ≤ 1048576 := by
                  rw [hj2] at hj3
                  simp at hj3
                  omega
                refine AW_skip ?_
                refine AW_id ?_
                refine AW_seq ?_
                refine AW_block ?_
                refine AW_re rfl rfl fun K hK => ?_
                simp (disch := omega) [creg_nil, creg_op, creg_gd, cO, cR, cG_bool, cG_undef, ↓spl_tt, ↓spl_tf, ↓spl_ft, ↓spl_ff, spl_ct, spl_cf, putC, nmC, aop, ev, cv, updL, upd_app, upd_upd, lkE_app, lk_nil, lk_cons, aLen, aBuiltin, aBin, aIntBin, aFieldAddr, placeOf, aLoad, cellsAt, aUn, aIndexAddr, st0, valCells, isOne, Value.oneCell', aStore, setCells, List.getElem?_cons_zero, List.getElem?_cons_succ, Option.getD_some, formOb_nn, aBuild, parts, fillA, placesOf, aField, aIndex, aSlice, optIdx, aStrBin, aMakeSlice, viewCells, viewCell, arrN, frzU, t2, t3, t4, t5, t6, t7, t8, t9, t10, t11, t12, t13, t14, t15, t16, t17, t18, t19, t21, t22, t28, t29, t30, t33, t39, t45, t46, t47, t50, t51, t52, t56, t66, t67, t71, t77, t80, t81, t86, t88, t89, t90, t91, t92, t94, t95, t96, t98, t99, t100, t101, t102, u_bool, wrap64, List.getElem?_eq_getElem, cS]
                repeat' first | (refine ⟨fun _ => ?_, fun _ => ?_⟩) | (refine ⟨by omega, ?_⟩) | (intro _)
                all_goals (refine hK _ ?_; clear hK K)
                all_goals
                  refine AW_id ?_
                  refine AW_re rfl rfl fun K hK => ?_
                  simp (disch := omega) [creg_nil, creg_op, creg_gd, cO, cR, cG_bool, cG_undef, ↓spl_tt, ↓spl_tf, ↓spl_ft, ↓spl_ff, spl_ct, spl_cf, putC, nmC, aop, ev, cv, updL, upd_app, upd_upd, lkE_app, lk_nil, lk_cons, aLen, aBuiltin, aBin, aIntBin, aFieldAddr, placeOf, aLoad, cellsAt, aUn, aIndexAddr, st0, valCells, isOne, Value.oneCell', aStore, setCells, List.getElem?_cons_zero, List.getElem?_cons_succ, Option.getD_some, formOb_nn, aBuild, parts, fillA, placesOf, aField, aIndex, aSlice, optIdx, aStrBin, aMakeSlice, viewCells, viewCell, arrN, frzU, t2, t3, t4, t5, t6, t7, t8, t9, t10, t11, t12, t13, t14, t15, t16, t17, t18, t19, t21, t22, t28, t29, t30, t33, t39, t45, t46, t47, t50, t51, t52, t56, t66, t67, t71, t77, t80, t81, t86, t88, t89, t90, t91, t92, t94, t95, t96, t98, t99, t100, t101, t102, u_bool, wrap64, List.getElem?_eq_getElem, cS]
                  repeat' first | (refine ⟨fun _ => ?_, fun _ => ?_⟩) | (refine ⟨by omega, ?_⟩) | (intro _)
                  all_goals (refine hK _ ?_; clear hK K)
                  all_goals
                    try rw [← hj2]
                    refine ⟨_, LeS.kp [(0, .sl 1 (xs.map cS)), (3, .s (joined (xs.take (i + 1)))), (4, (.g (.int .i64 (((i + 1) : Nat)))))] (by simp [KpE, upd_app, lkE_app, lk_cons, joined]; try simp [hj2, joined]), _, ?_, i + 1, rfl, ?_, rfl⟩
                    · omega
                    · omega
            · try simp at hc4
              all_goals
                have hi2 : i = xs.length := by omega
                subst hi2
                simp only [List.take_length] at *
                refine AW_exit ?_
                refine AW_id ?_
                refine AW_r rfl rfl fun K hK => ?_
                simp (disch := omega) [creg_nil, creg_op, creg_gd, cO, cR, cG_bool, cG_undef, ↓spl_tt, ↓spl_tf, ↓spl_ft, ↓spl_ff, spl_ct, spl_cf, putC, nmC, aop, ev, cv, updL, upd_app, upd_upd, lkE_app, lk_nil, lk_cons, aLen, aBuiltin, aBin, aIntBin, aFieldAddr, placeOf, aLoad, cellsAt, aUn, aIndexAddr, st0, valCells, isOne, Value.oneCell', aStore, setCells, List.getElem?_cons_zero, List.getElem?_cons_succ, Option.getD_some, formOb_nn, aBuild, parts, fillA, placesOf, aField, aIndex, aSlice, optIdx, aStrBin, aMakeSlice, viewCells, viewCell, arrN, frzU, t2, t3, t4, t5, t6, t7, t8, t9, t10, t11, t12, t13, t14, t15, t16, t17, t18, t19, t21, t22, t28, t29, t30, t33, t39, t45, t46, t47, t50, t51, t52, t56, t66, t67, t71, t77, t80, t81, t86, t88, t89, t90, t91, t92, t94, t95, t96, t98, t99, t100, t101, t102, u_bool, wrap64, List.getElem?_eq_getElem, cS]
                repeat' first | (refine ⟨fun _ => ?_, fun _ => ?_⟩) | (refine ⟨by omega, ?_⟩) | (intro _)
                all_goals (refine hK _ ?_; clear hK K)
                all_goals
                  refine AW_ret (end_s ?_)
                  simp (disch := omega) [creg_nil, creg_op, creg_gd, cO, cR, cG_bool, cG_undef, ↓spl_tt, ↓spl_tf, ↓spl_ft, ↓spl_ff, spl_ct, spl_cf, putC, nmC, aop, ev, cv, updL, upd_app, upd_upd, lkE_app, lk_nil, lk_cons, aLen, aBuiltin, aBin, aIntBin, aFieldAddr, placeOf, aLoad, cellsAt, aUn, aIndexAddr, st0, valCells, isOne, Value.oneCell', aStore, setCells, List.getElem?_cons_zero, List.getElem?_cons_succ, Option.getD_some, formOb_nn, aBuild, parts, fillA, placesOf, aField, aIndex, aSlice, optIdx, aStrBin, aMakeSlice, viewCells, viewCell, arrN, frzU, t2, t3, t4, t5, t6, t7, t8, t9, t10, t11, t12, t13, t14, t15, t16, t17, t18, t19, t21, t22, t28, t29, t30, t33, t39, t45, t46, t47, t50, t51, t52, t56, t66, t67, t71, t77, t80, t81, t86, t88, t89, t90, t91, t92, t94, t95, t96, t98, t99, t100, t101, t102, u_bool, wrap64, List.getElem?_eq_getElem, cS, endR_some, am0_gg, am0_ss, am0_ll, am1_gg, am1_ss, am1_ll, am1_nl, am1_al, am2_gg, am2_ss, am2_ll, am2_nl, am2_al, am2_ff, am1s_nn, am1s_cc, am2s_nn, am2s_cc, amRs_one, amRs_two', amRs_thr, resAll_nil, resAll_tmp, resAll_cell]
                  all_goals first | omega | (simp_all; done) | (simp [List.take_of_length_le]; done) | ((try simp_all); (try simp (disch := omega) only [wrap64, Int.tdiv_eq_ediv_of_nonneg, Int.tmod_eq_emod_of_nonneg, and_true, true_and]); done) | ((try simp_all); (try simp (disch := omega) only [wrap64, Int.tdiv_eq_ediv_of_nonneg, Int.tmod_eq_emod_of_nonneg, and_true, true_and] at *); omega)
theorem implJoined (xs : List (List UInt8)) (hn : xs.length ≤ 1048576) (hs : szL xs ≤ 1048576) : PCall Try.prog 14 [.sl 1 (xs.map cS)] (.s (joined xs)) := by
  refine gcall_of_walk Try.func14 (by rfl) (by rfl) (by rw [Try.ntmps14]; exact Nat.le_of_ble_eq_true rfl) rfl (by decide) ?_
  rw [Try.ntmps14]
  refine AW_k [(0, _)] ⟨rfl, trivial⟩ ?_
  refine AW_r rfl rfl fun K hK => ?_
  simp (disch := omega) [creg_nil, creg_op, creg_gd, cO, cR, cG_bool, cG_undef, ↓spl_tt, ↓spl_tf, ↓spl_ft, ↓spl_ff, spl_ct, spl_cf, putC, nmC, aop, ev, cv, updL, upd_app, upd_upd, lkE_app, lk_nil, lk_cons, aLen, aBuiltin, aBin, aIntBin, aFieldAddr, placeOf, aLoad, cellsAt, aUn, aIndexAddr, st0, valCells, isOne, Value.oneCell', aStore, setCells, List.getElem?_cons_zero, List.getElem?_cons_succ, Option.getD_some, formOb_nn, aBuild, parts, fillA, placesOf, aField, aIndex, aSlice, optIdx, aStrBin, aMakeSlice, viewCells, viewCell, arrN, frzU, t2, t3, t4, t5, t6, t7, t8, t9, t10, t11, t12, t13, t14, t15, t16, t17, t18, t19, t21, t22, t28, t29, t30, t33, t39, t45, t46, t47, t50, t51, t52, t56, t66, t67, t71, t77, t80, t81, t86, t88, t89, t90, t91, t92, t94, t95, t96, t98, t99, t100, t101, t102, u_bool, wrap64, List.getElem?_eq_getElem]
  repeat' first | (refine ⟨fun _ => ?_, fun _ => ?_⟩) | (refine ⟨by omega, ?_⟩) | (intro _)
  all_goals (refine hK _ ?_; clear hK K)
  all_goals
    refine AW_r rfl rfl fun K hK => ?_
    simp (disch := omega) [creg_nil, creg_op, creg_gd, cO, cR, cG_bool, cG_undef, ↓spl_tt, ↓spl_tf, ↓spl_ft, ↓spl_ff, spl_ct, spl_cf, putC, nmC, aop, ev, cv, updL, upd_app, upd_upd, lkE_app, lk_nil, lk_cons, aLen, aBuiltin, aBin, aIntBin, aFieldAddr, placeOf, aLoad, cellsAt, aUn, aIndexAddr, st0, valCells, isOne, Value.oneCell', aStore, setCells, List.getElem?_cons_zero, List.getElem?_cons_succ, Option.getD_some, formOb_nn, aBuild, parts, fillA, placesOf, aField, aIndex, aSlice, optIdx, aStrBin, aMakeSlice, viewCells, viewCell, arrN, frzU, t2, t3, t4, t5, t6, t7, t8, t9, t10, t11, t12, t13, t14, t15, t16, t17, t18, t19, t21, t22, t28, t29, t30, t33, t39, t45, t46, t47, t50, t51, t52, t56, t66, t67, t71, t77, t80, t81, t86, t88, t89, t90, t91, t92, t94, t95, t96, t98, t99, t100, t101, t102, u_bool, wrap64, List.getElem?_eq_getElem]
    repeat' first | (refine ⟨fun _ => ?_, fun _ => ?_⟩) | (refine ⟨by omega, ?_⟩) | (intro _)
    all_goals (refine hK _ ?_; clear hK K)
    all_goals
      refine AW_seq ?_
      refine AW_r rfl rfl fun K hK => ?_
      simp (disch := omega) [creg_nil, creg_op, creg_gd, cO, cR, cG_bool, cG_undef, ↓spl_tt, ↓spl_tf, ↓spl_ft, ↓spl_ff, spl_ct, spl_cf, putC, nmC, aop, ev, cv, updL, upd_app, upd_upd, lkE_app, lk_nil, lk_cons, aLen, aBuiltin, aBin, aIntBin, aFieldAddr, placeOf, aLoad, cellsAt, aUn, aIndexAddr, st0, valCells, isOne, Value.oneCell', aStore, setCells, List.getElem?_cons_zero, List.getElem?_cons_succ, Option.getD_some, formOb_nn, aBuild, parts, fillA, placesOf, aField, aIndex, aSlice, optIdx, aStrBin, aMakeSlice, viewCells, viewCell, arrN, frzU, t2, t3, t4, t5, t6, t7, t8, t9, t10, t11, t12, t13, t14, t15, t16, t17, t18, t19, t21, t22, t28, t29, t30, t33, t39, t45, t46, t47, t50, t51, t52, t56, t66, t67, t71, t77, t80, t81, t86, t88, t89, t90, t91, t92, t94, t95, t96, t98, t99, t100, t101, t102, u_bool, wrap64, List.getElem?_eq_getElem]
      repeat' first | (refine ⟨fun _ => ?_, fun _ => ?_⟩) | (refine ⟨by omega, ?_⟩) | (intro _)
      all_goals (refine hK _ ?_; clear hK K)
      all_goals
        refine AW_block ?_
        refine AW_loopS (fun m s => ∃ (i : Nat), m = xs.length - i ∧ (i ≤ xs.length) ∧ s = { env := lkE [(3, .s (joined (xs.take i))), (6, .sl 1 (xs.map cS)), (7, (.g (.int .i64 ((xs.length : Nat))))), (8, (.g (.int .i64 ((i : Nat)))))], ob := formOb [] [] }) ?_ ?_
        · refine ⟨_, LeS.kp [(3, .s (joined (xs.take (0)))), (6, .sl 1 (xs.map cS)), (7, (.g (.int .i64 ((xs.length : Nat))))), (8, (.g (.int .i64 (((0) : Nat)))))] (by simp [KpE, upd_app, lkE_app, lk_cons, joined]; try rfl), _, 0, rfl, ?_, rfl⟩
          · simp
        · rintro m s ⟨i, rfl, hi, rfl⟩
          have hj := joined_len (xs.take i)
          have hz2 := szL_take_le xs i
          refine AW_r rfl rfl fun K hK => ?_
          simp (disch := omega) [creg_nil, creg_op, creg_gd, cO, cR, cG_bool, cG_undef, ↓spl_tt, ↓spl_tf, ↓spl_ft, ↓spl_ff, spl_ct, spl_cf, putC, nmC, aop, ev, cv, updL, upd_app, upd_upd, lkE_app, lk_nil, lk_cons, aLen, aBuiltin, aBin, aIntBin, aFieldAddr, placeOf, aLoad, cellsAt, aUn, aIndexAddr, st0, valCells, isOne, Value.oneCell', aStore, setCells, List.getElem?_cons_zero, List.getElem?_cons_succ, Option.getD_some, formOb_nn, aBuild, parts, fillA, placesOf, aField, aIndex, aSlice, optIdx, aStrBin, aMakeSlice, viewCells, viewCell, arrN, frzU, t2, t3, t4, t5, t6, t7, t8, t9, t10, t11, t12, t13, t14, t15, t16, t17, t18, t19, t21, t22, t28, t29, t30, t33, t39, t45, t46, t47, t50, t51, t52, t56, t66, t67, t71, t77, t80, t81, t86, t88, t89, t90, t91, t92, t94, t95, t96, t98, t99, t100, t101, t102, u_bool, wrap64, List.getElem?_eq_getElem, cS]
          repeat' first | (refine ⟨fun _ => ?_, fun _ => ?_⟩) | (refine ⟨by omega, ?_⟩) | (intro _)
          all_goals (refine hK _ ?_; clear hK K)
          all_goals
            refine AW_seq ?_
            refine AW_cond rfl (fun hc5 => ?_) (fun hc5 => ?_)
            · try simp at hc5
              all_goals
                have hj2 := joined_take xs i (by omega)
                have hj3 := joined_len (xs.take (i + 1))
                have hz3 := szL_take_le xs (i + 1)
                have hj4 : (joined (xs.take i)).length + xs[i].length ≤ 1048576 := by
                  rw [hj2] at hj3
                  simp at hj3
                  omega
                refine AW_skip ?_
                refine AW_id ?_
                refine AW_seq ?_
                refine AW_block ?_
                refine AW_r rfl rfl fun K hK => ?_
                simp (disch := omega) [creg_nil, creg_op, creg_gd, cO, cR, cG_bool, cG_undef, ↓spl_tt, ↓spl_tf, ↓spl_ft, ↓spl_ff, spl_ct, spl_cf, putC, nmC, aop, ev, cv, updL, upd_app, upd_upd, lkE_app, lk_nil, lk_cons, aLen, aBuiltin, aBin, aIntBin, aFieldAddr, placeOf, aLoad, cellsAt, aUn, aIndexAddr, st0, valCells, isOne, Value.oneCell', aStore, setCells, List.getElem?_cons_zero, List.getElem?_cons_succ, Option.getD_some, formOb_nn, aBuild, parts, fillA, placesOf, aField, aIndex, aSlice, optIdx, aStrBin, aMakeSlice, viewCells, viewCell, arrN, frzU, t2, t3, t4, t5, t6, t7, t8, t9, t10, t11, t12, t13, t14, t15, t16, t17, t18, t19, t21, t22, t28, t29, t30, t33, t39, t45, t46, t47, t50, t51, t52, t56, t66, t67, t71, t77, t80, t81, t86, t88, t89, t90, t91, t92, t94, t95, t96, t98, t99, t100, t101, t102, u_bool, wrap64, List.getElem?_eq_getElem, cS]
                repeat' first | (refine ⟨fun _ => ?_, fun _ => ?_⟩) | (refine ⟨by omega, ?_⟩) | (intro _)
                all_goals (refine hK _ ?_; clear hK K)
                all_goals
                  refine AW_re rfl rfl fun K hK => ?_
                  simp (disch := omega) [creg_nil, creg_op, creg_gd, cO, cR, cG_bool, cG_undef, ↓spl_tt, ↓spl_tf, ↓spl_ft, ↓spl_ff, spl_ct, spl_cf, putC, nmC, aop, ev, cv, updL, upd_app, upd_upd, lkE_app, lk_nil, lk_cons, aLen, aBuiltin, aBin, aIntBin, aFieldAddr, placeOf, aLoad, cellsAt, aUn, aIndexAddr, st0, valCells, isOne, Value.oneCell', aStore, setCells, List.getElem?_cons_zero, List.getElem?_cons_succ, Option.getD_some, formOb_nn, aBuild, parts, fillA, placesOf, aField, aIndex, aSlice, optIdx, aStrBin, aMakeSlice, viewCells, viewCell, arrN, frzU, t2, t3, t4, t5, t6, t7, t8, t9, t10, t11, t12, t13, t14, t15, t16, t17, t18, t19, t21, t22, t28, t29, t30, t33, t39, t45, t46, t47, t50, t51, t52, t56, t66, t67, t71, t77, t80, t81, t86, t88, t89, t90, t91, t92, t94, t95, t96, t98, t99, t100, t101, t102, u_bool, wrap64, List.getElem?_eq_getElem, cS]
                  repeat' first | (refine ⟨fun _ => ?_, fun _ => ?_⟩) | (refine ⟨by omega, ?_⟩) | (intro _)
                  all_goals (refine hK _ ?_; clear hK K)
                  all_goals
                    refine AW_id ?_
                    refine AW_re rfl rfl fun K hK => ?_
                    simp (disch := omega) [creg_nil, creg_op, creg_gd, cO, cR, cG_bool, cG_undef, ↓spl_tt, ↓spl_tf, ↓spl_ft, ↓spl_ff, spl_ct, spl_cf, putC, nmC, aop, ev, cv, updL, upd_app, upd_upd, lkE_app, lk_nil, lk_cons, aLen, aBuiltin, aBin, aIntBin, aFieldAddr, placeOf, aLoad, cellsAt, aUn, aIndexAddr, st0, valCells, isOne, Value.oneCell', aStore, setCells, List.getElem?_cons_zero, List.getElem?_cons_succ, Option.getD_some, formOb_nn, aBuild, parts, fillA, placesOf, aField, aIndex, aSlice, optIdx, aStrBin, aMakeSlice, viewCells, viewCell, arrN, frzU, t2, t3, t4, t5, t6, t7, t8, t9, t10, t11, t12, t13, t14, t15, t16, t17, t18, t19, t21, t22, t28, t29, t30, t33, t39, t45, t46, t47, t50, t51, t52, t56, t66, t67, t71, t77, t80, t81, t86, t88, t89, t90, t91, t92, t94, t95, t96, t98, t99, t100, t101, t102, u_bool, wrap64, List.getElem?_eq_getElem, cS]
                    repeat' first | (refine ⟨fun _ => ?_, fun _ => ?_⟩) | (refine ⟨by omega, ?_⟩) | (intro _)
                    all_goals (refine hK _ ?_; clear hK K)
                    all_goals
                      try rw [← hj2]
                      refine ⟨_, LeS.kp [(3, .s (joined (xs.take (i + 1)))), (6, .sl 1 (xs.map cS)), (7, (.g (.int .i64 ((xs.length : Nat))))), (8, (.g (.int .i64 (((i + 1) : Nat)))))] (by simp [KpE, upd_app, lkE_app, lk_cons, joined]; try simp [hj2, joined]), _, ?_, i + 1, rfl, ?_, rfl⟩
                      · omega
                      · omega
            · try simp at hc5
              all_goals
                have hi2 : i = xs.length := by omega
                subst hi2
                simp only [List.take_length] at *
                refine AW_exit ?_
                refine AW_id ?_
                refine AW_r rfl rfl fun K hK => ?_
                simp (disch := omega) [creg_nil, creg_op, creg_gd, cO, cR, cG_bool, cG_undef, ↓spl_tt, ↓spl_tf, ↓spl_ft, ↓spl_ff, spl_ct, spl_cf, putC, nmC, aop, ev, cv, updL, upd_app, upd_upd, lkE_app, lk_nil, lk_cons, aLen, aBuiltin, aBin, aIntBin, aFieldAddr, placeOf, aLoad, cellsAt, aUn, aIndexAddr, st0, valCells, isOne, Value.oneCell', aStore, setCells, List.getElem?_cons_zero, List.getElem?_cons_succ, Option.getD_some, formOb_nn, aBuild, parts, fillA, placesOf, aField, aIndex, aSlice, optIdx, aStrBin, aMakeSlice, viewCells, viewCell, arrN, frzU, t2, t3, t4, t5, t6, t7, t8, t9, t10, t11, t12, t13, t14, t15, t16, t17, t18, t19, t21, t22, t28, t29, t30, t33, t39, t45, t46, t47, t50, t51, t52, t56, t66, t67, t71, t77, t80, t81, t86, t88, t89, t90, t91, t92, t94, t95, t96, t98, t99, t100, t101, t102, u_bool, wrap64, List.getElem?_eq_getElem, cS]
                repeat' first | (refine ⟨fun _ => ?_, fun _ => ?_⟩) | (refine ⟨by omega, ?_⟩) | (intro _)
                all_goals (refine hK _ ?_; clear hK K)
                all_goals
                  refine AW_ret (end_s ?_)
                  simp (disch := omega) [creg_nil, creg_op, creg_gd, cO, cR, cG_bool, cG_undef, ↓spl_tt, ↓spl_tf, ↓spl_ft, ↓spl_ff, spl_ct, spl_cf, putC, nmC, aop, ev, cv, updL, upd_app, upd_upd, lkE_app, lk_nil, lk_cons, aLen, aBuiltin, aBin, aIntBin, aFieldAddr, placeOf, aLoad, cellsAt, aUn, aIndexAddr, st0, valCells, isOne, Value.oneCell', aStore, setCells, List.getElem?_cons_zero, List.getElem?_cons_succ, Option.getD_some, formOb_nn, aBuild, parts, fillA, placesOf, aField, aIndex, aSlice, optIdx, aStrBin, aMakeSlice, viewCells, viewCell, arrN, frzU, t2, t3, t4, t5, t6, t7, t8, t9, t10, t11, t12, t13, t14, t15, t16, t17, t18, t19, t21, t22, t28, t29, t30, t33, t39, t45, t46, t47, t50, t51, t52, t56, t66, t67, t71, t77, t80, t81, t86, t88, t89, t90, t91, t92, t94, t95, t96, t98, t99, t100, t101, t102, u_bool, wrap64, List.getElem?_eq_getElem, cS, endR_some, am0_gg, am0_ss, am0_ll, am1_gg, am1_ss, am1_ll, am1_nl, am1_al, am2_gg, am2_ss, am2_ll, am2_nl, am2_al, am2_ff, am1s_nn, am1s_cc, am2s_nn, am2s_cc, amRs_one, amRs_two', amRs_thr, resAll_nil, resAll_tmp, resAll_cell]
                  all_goals first | omega | (simp_all; done) | (simp [List.take_of_length_le]; done) | ((try simp_all); (try simp (disch := omega) only [wrap64, Int.tdiv_eq_ediv_of_nonneg, Int.tmod_eq_emod_of_nonneg, and_true, true_and]); done) | ((try simp_all); (try simp (disch := omega) only [wrap64, Int.tdiv_eq_ediv_of_nonneg, Int.tmod_eq_emod_of_nonneg, and_true, true_and] at *); omega)
theorem eqStringS (xs ys : List (List UInt8)) (hn : xs.length ≤ 1048576) : PCall Try.prog 15 [.sl 1 (xs.map cS), .sl 1 (ys.map cS)] (.g (.bool (decide (xs = ys)))) := by
  refine gcall_of_walk Try.func15 (by rfl) (by rfl) (by rw [Try.ntmps15]; exact Nat.le_of_ble_eq_true rfl) rfl (by decide) ?_
  rw [Try.ntmps15]
  refine AW_k [(0, _), (1, _)] ⟨rfl, rfl, trivial⟩ ?_
  refine AW_r rfl rfl fun K hK => ?_
  simp (disch := omega) [creg_nil, creg_op, creg_gd, cO, cR, cG_bool, cG_undef, ↓spl_tt, ↓spl_tf, ↓spl_ft, ↓spl_ff, spl_ct, spl_cf, putC, nmC, aop, ev, cv, updL, upd_app, upd_upd, lkE_app, lk_nil, lk_cons, aLen, aBuiltin, aBin, aIntBin, aFieldAddr, placeOf, aLoad, cellsAt, aUn, aIndexAddr, st0, valCells, isOne, Value.oneCell', aStore, setCells, List.getElem?_cons_zero, List.getElem?_cons_succ, Option.getD_some, formOb_nn, aBuild, parts, fillA, placesOf, aField, aIndex, aSlice, optIdx, aStrBin, aMakeSlice, viewCells, viewCell, arrN, frzU, t2, t3, t4, t5, t6, t7, t8, t9, t10, t11, t12, t13, t14, t15, t16, t17, t18, t19, t21, t22, t28, t29, t30, t33, t39, t45, t46, t47, t50, t51, t52, t56, t66, t67, t71, t77, t80, t81, t86, t88, t89, t90, t91, t92, t94, t95, t96, t98, t99, t100, t101, t102, u_bool, wrap64, List.getElem?_eq_getElem]
  repeat' first | (refine ⟨fun _ => ?_, fun _ => ?_⟩) | (refine ⟨by omega, ?_⟩) | (intro _)
  all_goals (refine hK _ ?_; clear hK K)
  all_goals
    refine AW_seq ?_
    refine AW_r rfl rfl fun K hK => ?_
    simp (disch := omega) [creg_nil, creg_op, creg_gd, cO, cR, cG_bool, cG_undef, ↓spl_tt, ↓spl_tf, ↓spl_ft, ↓spl_ff, spl_ct, spl_cf, putC, nmC, aop, ev, cv, updL, upd_app, upd_upd, lkE_app, lk_nil, lk_cons, aLen, aBuiltin, aBin, aIntBin, aFieldAddr, placeOf, aLoad, cellsAt, aUn, aIndexAddr, st0, valCells, isOne, Value.oneCell', aStore, setCells, List.getElem?_cons_zero, List.getElem?_cons_succ, Option.getD_some, formOb_nn, aBuild, parts, fillA, placesOf, aField, aIndex, aSlice, optIdx, aStrBin, aMakeSlice, viewCells, viewCell, arrN, frzU, t2, t3, t4, t5, t6, t7, t8, t9, t10, t11, t12, t13, t14, t15, t16, t17, t18, t19, t21, t22, t28, t29, t30, t33, t39, t45, t46, t47, t50, t51, t52, t56, t66, t67, t71, t77, t80, t81, t86, t88, t89, t90, t91, t92, t94, t95, t96, t98, t99, t100, t101, t102, u_bool, wrap64, List.getElem?_eq_getElem]
    repeat' first | (refine ⟨fun _ => ?_, fun _ => ?_⟩) | (refine ⟨by omega, ?_⟩) | (intro _)
    all_goals (refine hK _ ?_; clear hK K)
    all_goals
      refine AW_cond rfl (fun hc6 => ?_) (fun hc6 => ?_)
      · try simp at hc6
        all_goals
          refine AW_r rfl rfl fun K hK => ?_
          simp (disch := omega) [creg_nil, creg_op, creg_gd, cO, cR, cG_bool, cG_undef, ↓spl_tt, ↓spl_tf, ↓spl_ft, ↓spl_ff, spl_ct, spl_cf, putC, nmC, aop, ev, cv, updL, upd_app, upd_upd, lkE_app, lk_nil, lk_cons, aLen, aBuiltin, aBin, aIntBin, aFieldAddr, placeOf, aLoad, cellsAt, aUn, aIndexAddr, st0, valCells, isOne, Value.oneCell', aStore, setCells, List.getElem?_cons_zero, List.getElem?_cons_succ, Option.getD_some, formOb_nn, aBuild, parts, fillA, placesOf, aField, aIndex, aSlice, optIdx, aStrBin, aMakeSlice, viewCells, viewCell, arrN, frzU, t2, t3, t4, t5, t6, t7, t8, t9, t10, t11, t12, t13, t14, t15, t16, t17, t18, t19, t21, t22, t28, t29, t30, t33, t39, t45, t46, t47, t50, t51, t52, t56, t66, t67, t71, t77, t80, t81, t86, t88, t89, t90, t91, t92, t94, t95, t96, t98, t99, t100, t101, t102, u_bool, wrap64, List.getElem?_eq_getElem]
          repeat' first | (refine ⟨fun _ => ?_, fun _ => ?_⟩) | (refine ⟨by omega, ?_⟩) | (intro _)
          all_goals (refine hK _ ?_; clear hK K)
          all_goals
            refine AW_ret (end_s ?_)
            simp (disch := omega) [creg_nil, creg_op, creg_gd, cO, cR, cG_bool, cG_undef, ↓spl_tt, ↓spl_tf, ↓spl_ft, ↓spl_ff, spl_ct, spl_cf, putC, nmC, aop, ev, cv, updL, upd_app, upd_upd, lkE_app, lk_nil, lk_cons, aLen, aBuiltin, aBin, aIntBin, aFieldAddr, placeOf, aLoad, cellsAt, aUn, aIndexAddr, st0, valCells, isOne, Value.oneCell', aStore, setCells, List.getElem?_cons_zero, List.getElem?_cons_succ, Option.getD_some, formOb_nn, aBuild, parts, fillA, placesOf, aField, aIndex, aSlice, optIdx, aStrBin, aMakeSlice, viewCells, viewCell, arrN, frzU, t2, t3, t4, t5, t6, t7, t8, t9, t10, t11, t12, t13, t14, t15, t16, t17, t18, t19, t21, t22, t28, t29, t30, t33, t39, t45, t46, t47, t50, t51, t52, t56, t66, t67, t71, t77, t80, t81, t86, t88, t89, t90, t91, t92, t94, t95, t96, t98, t99, t100, t101, t102, u_bool, wrap64, List.getElem?_eq_getElem, endR_some, am0_gg, am0_ss, am0_ll, am1_gg, am1_ss, am1_ll, am1_nl, am1_al, am2_gg, am2_ss, am2_ll, am2_nl, am2_al, am2_ff, am1s_nn, am1s_cc, am2s_nn, am2s_cc, amRs_one, amRs_two', amRs_thr, resAll_nil, resAll_tmp, resAll_cell]
            all_goals first | omega | (simp_all; done) | (intro heq; subst heq; simp_all)
      · try simp at hc6
        all_goals
          refine AW_skip ?_
          refine AW_id ?_
          refine AW_seq ?_
          refine AW_r rfl rfl fun K hK => ?_
          simp (disch := omega) [creg_nil, creg_op, creg_gd, cO, cR, cG_bool, cG_undef, ↓spl_tt, ↓spl_tf, ↓spl_ft, ↓spl_ff, spl_ct, spl_cf, putC, nmC, aop, ev, cv, updL, upd_app, upd_upd, lkE_app, lk_nil, lk_cons, aLen, aBuiltin, aBin, aIntBin, aFieldAddr, placeOf, aLoad, cellsAt, aUn, aIndexAddr, st0, valCells, isOne, Value.oneCell', aStore, setCells, List.getElem?_cons_zero, List.getElem?_cons_succ, Option.getD_some, formOb_nn, aBuild, parts, fillA, placesOf, aField, aIndex, aSlice, optIdx, aStrBin, aMakeSlice, viewCells, viewCell, arrN, frzU, t2, t3, t4, t5, t6, t7, t8, t9, t10, t11, t12, t13, t14, t15, t16, t17, t18, t19, t21, t22, t28, t29, t30, t33, t39, t45, t46, t47, t50, t51, t52, t56, t66, t67, t71, t77, t80, t81, t86, t88, t89, t90, t91, t92, t94, t95, t96, t98, t99, t100, t101, t102, u_bool, wrap64, List.getElem?_eq_getElem]
          repeat' first | (refine ⟨fun _ => ?_, fun _ => ?_⟩) | (refine ⟨by omega, ?_⟩) | (intro _)
          all_goals (refine hK _ ?_; clear hK K)
          all_goals
            refine AW_block ?_
            refine AW_loopS (fun m s => ∃ (i : Nat), m = xs.length - i ∧ (i ≤ xs.length ∧ ∀ j, j < i → xs[j]? = ys[j]?) ∧ s = { env := lkE [(0, .sl 1 (xs.map cS)), (1, .sl 1 (ys.map cS)), (5, (.g (.int .i64 ((i : Nat)))))], ob := formOb [] [] }) ?_ ?_
            · refine ⟨_, LeS.kp [(0, .sl 1 (xs.map cS)), (1, .sl 1 (ys.map cS)), (5, (.g (.int .i64 (((0) : Nat)))))] (by simp [KpE, upd_app, lkE_app, lk_cons]; try rfl), _, 0, rfl, ?_, rfl⟩
              · simp
            · rintro m s ⟨i, rfl, ⟨hi, hpre⟩, rfl⟩
              refine AW_seq ?_
              refine AW_r rfl rfl fun K hK => ?_
              simp (disch := omega) [creg_nil, creg_op, creg_gd, cO, cR, cG_bool, cG_undef, ↓spl_tt, ↓spl_tf, ↓spl_ft, ↓spl_ff, spl_ct, spl_cf, putC, nmC, aop, ev, cv, updL, upd_app, upd_upd, lkE_app, lk_nil, lk_cons, aLen, aBuiltin, aBin, aIntBin, aFieldAddr, placeOf, aLoad, cellsAt, aUn, aIndexAddr, st0, valCells, isOne, Value.oneCell', aStore, setCells, List.getElem?_cons_zero, List.getElem?_cons_succ, Option.getD_some, formOb_nn, aBuild, parts, fillA, placesOf, aField, aIndex, aSlice, optIdx, aStrBin, aMakeSlice, viewCells, viewCell, arrN, frzU, t2, t3, t4, t5, t6, t7, t8, t9, t10, t11, t12, t13, t14, t15, t16, t17, t18, t19, t21, t22, t28, t29, t30, t33, t39, t45, t46, t47, t50, t51, t52, t56, t66, t67, t71, t77, t80, t81, t86, t88, t89, t90, t91, t92, t94, t95, t96, t98, t99, t100, t101, t102, u_bool, wrap64, List.getElem?_eq_getElem, cS]
              repeat' first | (refine ⟨fun _ => ?_, fun _ => ?_⟩) | (refine ⟨by omega, ?_⟩) | (intro _)
              all_goals (refine hK _ ?_; clear hK K)
              all_goals
                refine AW_cond rfl (fun hc7 => ?_) (fun hc7 => ?_)
                · try simp at hc7
                  all_goals
                    have h7 : i < ys.length := by omega
                    refine AW_skip ?_
                    refine AW_id ?_
                    refine AW_seq ?_
                    refine AW_block ?_
                    refine AW_q rfl mix (by kernel_rfl) rfl fun K hK => ?_
                    simp (disch := omega) [creg_nil, creg_op, creg_gd, cO, cR, cG_bool, cG_undef, ↓spl_tt, ↓spl_tf, ↓spl_ft, ↓spl_ff, spl_ct, spl_cf, putC, nmC, aop, ev, cv, updL, upd_app, upd_upd, lkE_app, lk_nil, lk_cons, aLen, aBuiltin, aBin, aIntBin, aFieldAddr, placeOf, aLoad, cellsAt, aUn, aIndexAddr, st0, valCells, isOne, Value.oneCell', aStore, setCells, List.getElem?_cons_zero, List.getElem?_cons_succ, Option.getD_some, formOb_nn, aBuild, parts, fillA, placesOf, aField, aIndex, aSlice, optIdx, aStrBin, aMakeSlice, viewCells, viewCell, arrN, frzU, t2, t3, t4, t5, t6, t7, t8, t9, t10, t11, t12, t13, t14, t15, t16, t17, t18, t19, t21, t22, t28, t29, t30, t33, t39, t45, t46, t47, t50, t51, t52, t56, t66, t67, t71, t77, t80, t81, t86, t88, t89, t90, t91, t92, t94, t95, t96, t98, t99, t100, t101, t102, u_bool, wrap64, List.getElem?_eq_getElem, cS]
                    repeat' first | (refine ⟨fun _ => ?_, fun _ => ?_⟩) | (refine ⟨by omega, ?_⟩) | (intro _)
                    all_goals (refine hK _ ?_; clear hK K)
                    all_goals
                      refine AW_cond rfl (fun hc8 => ?_) (fun hc8 => ?_)
                      · try simp at hc8
                        all_goals
                          refine AW_r rfl rfl fun K hK => ?_
                          simp (disch := omega) [creg_nil, creg_op, creg_gd, cO, cR, cG_bool, cG_undef, ↓spl_tt, ↓spl_tf, ↓spl_ft, ↓spl_ff, spl_ct, spl_cf, putC, nmC, aop, ev, cv, updL, upd_app, upd_upd, lkE_app, lk_nil, lk_cons, aLen, aBuiltin, aBin, aIntBin, aFieldAddr, placeOf, aLoad, cellsAt, aUn, aIndexAddr, st0, valCells, isOne, Value.oneCell', aStore, setCells, List.getElem?_cons_zero, List.getElem?_cons_succ, Option.getD_some, formOb_nn, aBuild, parts, fillA, placesOf, aField, aIndex, aSlice, optIdx, aStrBin, aMakeSlice, viewCells, viewCell, arrN, frzU, t2, t3, t4, t5, t6, t7, t8, t9, t10, t11, t12, t13, t14, t15, t16, t17, t18, t19, t21, t22, t28, t29, t30, t33, t39, t45, t46, t47, t50, t51, t52, t56, t66, t67, t71, t77, t80, t81, t86, t88, t89, t90, t91, t92, t94, t95, t96, t98, t99, t100, t101, t102, u_bool, wrap64, List.getElem?_eq_getElem, cS]
                          repeat' first | (refine ⟨fun _ => ?_, fun _ => ?_⟩) | (refine ⟨by omega, ?_⟩) | (intro _)
                          all_goals (refine hK _ ?_; clear hK K)
                          all_goals
                            refine AW_ret (end_s ?_)
                            simp (disch := omega) [creg_nil, creg_op, creg_gd, cO, cR, cG_bool, cG_undef, ↓spl_tt, ↓spl_tf, ↓spl_ft, ↓spl_ff, spl_ct, spl_cf, putC, nmC, aop, ev, cv, updL, upd_app, upd_upd, lkE_app, lk_nil, lk_cons, aLen, aBuiltin, aBin, aIntBin, aFieldAddr, placeOf, aLoad, cellsAt, aUn, aIndexAddr, st0, valCells, isOne, Value.oneCell', aStore, setCells, List.getElem?_cons_zero, List.getElem?_cons_succ, Option.getD_some, formOb_nn, aBuild, parts, fillA, placesOf, aField, aIndex, aSlice, optIdx, aStrBin, aMakeSlice, viewCells, viewCell, arrN, frzU, t2, t3, t4, t5, t6, t7, t8, t9, t10, t11, t12, t13, t14, t15, t16, t17, t18, t19, t21, t22, t28, t29, t30, t33, t39, t45, t46, t47, t50, t51, t52, t56, t66, t67, t71, t77, t80, t81, t86, t88, t89, t90, t91, t92, t94, t95, t96, t98, t99, t100, t101, t102, u_bool, wrap64, List.getElem?_eq_getElem, cS, endR_some, am0_gg, am0_ss, am0_ll, am1_gg, am1_ss, am1_ll, am1_nl, am1_al, am2_gg, am2_ss, am2_ll, am2_nl, am2_al, am2_ff, am1s_nn, am1s_cc, am2s_nn, am2s_cc, amRs_one, amRs_two', amRs_thr, resAll_nil, resAll_tmp, resAll_cell]
                            all_goals first | omega | (simp_all; done) | (intro heq; subst heq; simp_all)
                      · try simp at hc8
                        all_goals
                          refine AW_skip ?_
                          refine AW_id ?_
                          refine AW_re rfl rfl fun K hK => ?_
                          simp (disch := omega) [creg_nil, creg_op, creg_gd, cO, cR, cG_bool, cG_undef, ↓spl_tt, ↓spl_tf, ↓spl_ft, ↓spl_ff, spl_ct, spl_cf, putC, nmC, aop, ev, cv, updL, upd_app, upd_upd, lkE_app, lk_nil, lk_cons, aLen, aBuiltin, aBin, aIntBin, aFieldAddr, placeOf, aLoad, cellsAt, aUn, aIndexAddr, st0, valCells, isOne, Value.oneCell', aStore, setCells, List.getElem?_cons_zero, List.getElem?_cons_succ, Option.getD_some, formOb_nn, aBuild, parts, fillA, placesOf, aField, aIndex, aSlice, optIdx, aStrBin, aMakeSlice, viewCells, viewCell, arrN, frzU, t2, t3, t4, t5, t6, t7, t8, t9, t10, t11, t12, t13, t14, t15, t16, t17, t18, t19, t21, t22, t28, t29, t30, t33, t39, t45, t46, t47, t50, t51, t52, t56, t66, t67, t71, t77, t80, t81, t86, t88, t89, t90, t91, t92, t94, t95, t96, t98, t99, t100, t101, t102, u_bool, wrap64, List.getElem?_eq_getElem, cS]
                          repeat' first | (refine ⟨fun _ => ?_, fun _ => ?_⟩) | (refine ⟨by omega, ?_⟩) | (intro _)
                          all_goals (refine hK _ ?_; clear hK K)
                          all_goals
                            refine ⟨_, LeS.kp [(0, .sl 1 (xs.map cS)), (1, .sl 1 (ys.map cS)), (5, (.g (.int .i64 (((i + 1) : Nat)))))] (by simp [KpE, upd_app, lkE_app, lk_cons]; try rfl), _, ?_, i + 1, rfl, ?_, rfl⟩
                            · omega
                            · refine ⟨by omega, fun j hj => ?_⟩
                              by_cases hji : j = i
                              · subst hji; simp_all
                              · exact hpre j (by omega)
                · try simp at hc7
                  all_goals
                    have hi2 : i = xs.length := by omega
                    subst hi2
                    have heq : xs = ys := List.ext_getElem? fun j => by
                      by_cases hj : j < xs.length
                      · exact hpre j hj
                      · rw [List.getElem?_eq_none (by omega), List.getElem?_eq_none (by omega)]
                    refine AW_exit ?_
                    refine AW_id ?_
                    refine AW_r rfl rfl fun K hK => ?_
                    simp (disch := omega) [creg_nil, creg_op, creg_gd, cO, cR, cG_bool, cG_undef, ↓spl_tt, ↓spl_tf, ↓spl_ft, ↓spl_ff, spl_ct, spl_cf, putC, nmC, aop, ev, cv, updL, upd_app, upd_upd, lkE_app, lk_nil, lk_cons, aLen, aBuiltin, aBin, aIntBin, aFieldAddr, placeOf, aLoad, cellsAt, aUn, aIndexAddr, st0, valCells, isOne, Value.oneCell', aStore, setCells, List.getElem?_cons_zero, List.getElem?_cons_succ, Option.getD_some, formOb_nn, aBuild, parts, fillA, placesOf, aField, aIndex, aSlice, optIdx, aStrBin, aMakeSlice, viewCells, viewCell, arrN, frzU, t2, t3, t4, t5, t6, t7, t8, t9, t10, t11, t12, t13, t14, t15, t16, t17, t18, t19, t21, t22, t28, t29, t30, t33, t39, t45, t46, t47, t50, t51, t52, t56, t66, t67, t71, t77, t80, t81, t86, t88, t89, t90, t91, t92, t94, t95, t96, t98, t99, t100, t101, t102, u_bool, wrap64, List.getElem?_eq_getElem, cS]
                    repeat' first | (refine ⟨fun _ => ?_, fun _ => ?_⟩) | (refine ⟨by omega, ?_⟩) | (intro _)
                    all_goals (refine hK _ ?_; clear hK K)
                    all_goals
                      refine AW_ret (end_s ?_)
                      simp (disch := omega) [creg_nil, creg_op, creg_gd, cO, cR, cG_bool, cG_undef, ↓spl_tt, ↓spl_tf, ↓spl_ft, ↓spl_ff, spl_ct, spl_cf, putC, nmC, aop, ev, cv, updL, upd_app, upd_upd, lkE_app, lk_nil, lk_cons, aLen, aBuiltin, aBin, aIntBin, aFieldAddr, placeOf, aLoad, cellsAt, aUn, aIndexAddr, st0, valCells, isOne, Value.oneCell', aStore, setCells, List.getElem?_cons_zero, List.getElem?_cons_succ, Option.getD_some, formOb_nn, aBuild, parts, fillA, placesOf, aField, aIndex, aSlice, optIdx, aStrBin, aMakeSlice, viewCells, viewCell, arrN, frzU, t2, t3, t4, t5, t6, t7, t8, t9, t10, t11, t12, t13, t14, t15, t16, t17, t18, t19, t21, t22, t28, t29, t30, t33, t39, t45, t46, t47, t50, t51, t52, t56, t66, t67, t71, t77, t80, t81, t86, t88, t89, t90, t91, t92, t94, t95, t96, t98, t99, t100, t101, t102, u_bool, wrap64, List.getElem?_eq_getElem, cS, endR_some, am0_gg, am0_ss, am0_ll, am1_gg, am1_ss, am1_ll, am1_nl, am1_al, am2_gg, am2_ss, am2_ll, am2_nl, am2_al, am2_ff, am1s_nn, am1s_cc, am2s_nn, am2s_cc, amRs_one, amRs_two', amRs_thr, resAll_nil, resAll_tmp, resAll_cell]
                      all_goals first | omega | (simp_all; done) | (intro heq; subst heq; simp_all)
theorem toStringS (xs : List (List UInt8)) (hn : xs.length ≤ 1048576) : PCall Try.prog 13 [.sl 1 (xs.map cS)] (.sl 1 (xs.map cS)) := by
  refine gcall_of_walk Try.func13 (by rfl) (by rfl) (by rw [Try.ntmps13]; exact Nat.le_of_ble_eq_true rfl) rfl (by decide) ?_
  rw [Try.ntmps13]
  refine AW_k [(0, _)] ⟨rfl, trivial⟩ ?_
  refine AW_r rfl rfl fun K hK => ?_
  simp (disch := omega) [creg_nil, creg_op, creg_gd, cO, cR, cG_bool, cG_undef, ↓spl_tt, ↓spl_tf, ↓spl_ft, ↓spl_ff, spl_ct, spl_cf, putC, nmC, aop, ev, cv, updL, upd_app, upd_upd, lkE_app, lk_nil, lk_cons, aLen, aBuiltin, aBin, aIntBin, aFieldAddr, placeOf, aLoad, cellsAt, aUn, aIndexAddr, st0, valCells, isOne, Value.oneCell', aStore, setCells, List.getElem?_cons_zero, List.getElem?_cons_succ, Option.getD_some, formOb_nn, aBuild, parts, fillA, placesOf, aField, aIndex, aSlice, optIdx, aStrBin, aMakeSlice, viewCells, viewCell, arrN, frzU, t2, t3, t4, t5, t6, t7, t8, t9, t10, t11, t12, t13, t14, t15, t16, t17, t18, t19, t21, t22, t28, t29, t30, t33, t39, t45, t46, t47, t50, t51, t52, t56, t66, t67, t71, t77, t80, t81, t86, t88, t89, t90, t91, t92, t94, t95, t96, t98, t99, t100, t101, t102, u_bool, wrap64, List.getElem?_eq_getElem]
  repeat' first | (refine ⟨fun _ => ?_, fun _ => ?_⟩) | (refine ⟨by omega, ?_⟩) | (intro _)
  all_goals (refine hK _ ?_; clear hK K)
  all_goals
    refine AW_r rfl rfl fun K hK => ?_
    simp (disch := omega) [creg_nil, creg_op, creg_gd, cO, cR, cG_bool, cG_undef, ↓spl_tt, ↓spl_tf, ↓spl_ft, ↓spl_ff, spl_ct, spl_cf, putC, nmC, aop, ev, cv, updL, upd_app, upd_upd, lkE_app, lk_nil, lk_cons, aLen, aBuiltin, aBin, aIntBin, aFieldAddr, placeOf, aLoad, cellsAt, aUn, aIndexAddr, st0, valCells, isOne, Value.oneCell', aStore, setCells, List.getElem?_cons_zero, List.getElem?_cons_succ, Option.getD_some, formOb_nn, aBuild, parts, fillA, placesOf, aField, aIndex, aSlice, optIdx, aStrBin, aMakeSlice, viewCells, viewCell, arrN, frzU, t2, t3, t4, t5, t6, t7, t8, t9, t10, t11, t12, t13, t14, t15, t16, t17, t18, t19, t21, t22, t28, t29, t30, t33, t39, t45, t46, t47, t50, t51, t52, t56, t66, t67, t71, t77, t80, t81, t86, t88, t89, t90, t91, t92, t94, t95, t96, t98, t99, t100, t101, t102, u_bool, wrap64, List.getElem?_eq_getElem]
    repeat' first | (refine ⟨fun _ => ?_, fun _ => ?_⟩) | (refine ⟨by omega, ?_⟩) | (intro _)
    all_goals (refine hK _ ?_; clear hK K)
    all_goals
      refine AW_seq ?_
      refine AW_r rfl rfl fun K hK => ?_
      simp (disch := omega) [creg_nil, creg_op, creg_gd, cO, cR, cG_bool, cG_undef, ↓spl_tt, ↓spl_tf, ↓spl_ft, ↓spl_ff, spl_ct, spl_cf, putC, nmC, aop, ev, cv, updL, upd_app, upd_upd, lkE_app, lk_nil, lk_cons, aLen, aBuiltin, aBin, aIntBin, aFieldAddr, placeOf, aLoad, cellsAt, aUn, aIndexAddr, st0, valCells, isOne, Value.oneCell', aStore, setCells, List.getElem?_cons_zero, List.getElem?_cons_succ, Option.getD_some, formOb_nn, aBuild, parts, fillA, placesOf, aField, aIndex, aSlice, optIdx, aStrBin, aMakeSlice, viewCells, viewCell, arrN, frzU, t2, t3, t4, t5, t6, t7, t8, t9, t10, t11, t12, t13, t14, t15, t16, t17, t18, t19, t21, t22, t28, t29, t30, t33, t39, t45, t46, t47, t50, t51, t52, t56, t66, t67, t71, t77, t80, t81, t86, t88, t89, t90, t91, t92, t94, t95, t96, t98, t99, t100, t101, t102, u_bool, wrap64, List.getElem?_eq_getElem]
      repeat' first | (refine ⟨fun _ => ?_, fun _ => ?_⟩) | (refine ⟨by omega, ?_⟩) | (intro _)
      all_goals (refine hK _ ?_; clear hK K)
      all_goals
        refine AW_block ?_
        refine AW_loopS (fun m s => ∃ (i : Nat) (ys : List (List AV)), m = xs.length - i ∧ (i ≤ xs.length ∧ ys.length = xs.length ∧ (∀ j, j < i → ys[j]? = (xs.map cS)[j]?) ∧ (∀ y ∈ ys, y.length = 1)) ∧ s = { env := lkE [(0, .sl 1 (xs.map cS)), (3, .arr 128 0 xs.length), (4, (.g (.int .i64 ((i : Nat)))))], ob := upd (formOb [] []) 128 (some (.flat 1 ys)) }) ?_ ?_
        · refine ⟨_, LeS.kp [(0, .sl 1 (xs.map cS)), (3, .arr 128 0 xs.length), (4, (.g (.int .i64 (((0) : Nat)))))] (by simp [KpE, upd_app, lkE_app, lk_cons]; try rfl), _, 0, List.replicate xs.length [.s []], rfl, ?_, rfl⟩
          · simp
        · rintro m s ⟨i, ys, rfl, ⟨hi, hl, hpre, hone⟩, rfl⟩
          refine AW_seq ?_
          refine AW_r rfl rfl fun K hK => ?_
          simp (disch := omega) [creg_nil, creg_op, creg_gd, cO, cR, cG_bool, cG_undef, ↓spl_tt, ↓spl_tf, ↓spl_ft, ↓spl_ff, spl_ct, spl_cf, putC, nmC, aop, ev, cv, updL, upd_app, upd_upd, lkE_app, lk_nil, lk_cons, aLen, aBuiltin, aBin, aIntBin, aFieldAddr, placeOf, aLoad, cellsAt, aUn, aIndexAddr, st0, valCells, isOne, Value.oneCell', aStore, setCells, List.getElem?_cons_zero, List.getElem?_cons_succ, Option.getD_some, formOb_nn, aBuild, parts, fillA, placesOf, aField, aIndex, aSlice, optIdx, aStrBin, aMakeSlice, viewCells, viewCell, arrN, frzU, t2, t3, t4, t5, t6, t7, t8, t9, t10, t11, t12, t13, t14, t15, t16, t17, t18, t19, t21, t22, t28, t29, t30, t33, t39, t45, t46, t47, t50, t51, t52, t56, t66, t67, t71, t77, t80, t81, t86, t88, t89, t90, t91, t92, t94, t95, t96, t98, t99, t100, t101, t102, u_bool, wrap64, List.getElem?_eq_getElem, cS]
          repeat' first | (refine ⟨fun _ => ?_, fun _ => ?_⟩) | (refine ⟨by omega, ?_⟩) | (intro _)
          all_goals (refine hK _ ?_; clear hK K)
          all_goals
            refine AW_cond rfl (fun hc9 => ?_) (fun hc9 => ?_)
            · try simp at hc9
              all_goals
                obtain ⟨c, h6⟩ : ∃ c, ys[i]'(by omega) = [c] := List.length_eq_one_iff.1 (hone _ (List.getElem_mem _))
                refine AW_skip ?_
                refine AW_id ?_
                refine AW_seq ?_
                refine AW_block ?_
                refine AW_re rfl rfl fun K hK => ?_
                simp (disch := omega) [creg_nil, creg_op, creg_gd, cO, cR, cG_bool, cG_undef, ↓spl_tt, ↓spl_tf, ↓spl_ft, ↓spl_ff, spl_ct, spl_cf, putC, nmC, aop, ev, cv, updL, upd_app, upd_upd, lkE_app, lk_nil, lk_cons, aLen, aBuiltin, aBin, aIntBin, aFieldAddr, placeOf, aLoad, cellsAt, aUn, aIndexAddr, st0, valCells, isOne, Value.oneCell', aStore, setCells, List.getElem?_cons_zero, List.getElem?_cons_succ, Option.getD_some, formOb_nn, aBuild, parts, fillA, placesOf, aField, aIndex, aSlice, optIdx, aStrBin, aMakeSlice, viewCells, viewCell, arrN, frzU, t2, t3, t4, t5, t6, t7, t8, t9, t10, t11, t12, t13, t14, t15, t16, t17, t18, t19, t21, t22, t28, t29, t30, t33, t39, t45, t46, t47, t50, t51, t52, t56, t66, t67, t71, t77, t80, t81, t86, t88, t89, t90, t91, t92, t94, t95, t96, t98, t99, t100, t101, t102, u_bool, wrap64, List.getElem?_eq_getElem, cS, h6]
                repeat' first | (refine ⟨fun _ => ?_, fun _ => ?_⟩) | (refine ⟨by omega, ?_⟩) | (intro _)
                all_goals (refine hK _ ?_; clear hK K)
                all_goals
                  refine AW_id ?_
                  refine AW_re rfl rfl fun K hK => ?_
                  simp (disch := omega) [creg_nil, creg_op, creg_gd, cO, cR, cG_bool, cG_undef, ↓spl_tt, ↓spl_tf, ↓spl_ft, ↓spl_ff, spl_ct, spl_cf, putC, nmC, aop, ev, cv, updL, upd_app, upd_upd, lkE_app, lk_nil, lk_cons, aLen, aBuiltin, aBin, aIntBin, aFieldAddr, placeOf, aLoad, cellsAt, aUn, aIndexAddr, st0, valCells, isOne, Value.oneCell', aStore, setCells, List.getElem?_cons_zero, List.getElem?_cons_succ, Option.getD_some, formOb_nn, aBuild, parts, fillA, placesOf, aField, aIndex, aSlice, optIdx, aStrBin, aMakeSlice, viewCells, viewCell, arrN, frzU, t2, t3, t4, t5, t6, t7, t8, t9, t10, t11, t12, t13, t14, t15, t16, t17, t18, t19, t21, t22, t28, t29, t30, t33, t39, t45, t46, t47, t50, t51, t52, t56, t66, t67, t71, t77, t80, t81, t86, t88, t89, t90, t91, t92, t94, t95, t96, t98, t99, t100, t101, t102, u_bool, wrap64, List.getElem?_eq_getElem, cS, h6]
                  repeat' first | (refine ⟨fun _ => ?_, fun _ => ?_⟩) | (refine ⟨by omega, ?_⟩) | (intro _)
                  all_goals (refine hK _ ?_; clear hK K)
                  all_goals
                    refine ⟨_, LeS.kp [(0, .sl 1 (xs.map cS)), (3, .arr 128 0 xs.length), (4, (.g (.int .i64 (((i + 1) : Nat)))))] (by simp [KpE, upd_app, lkE_app, lk_cons]; try rfl), _, ?_, i + 1, ys.set i (cS xs[i]), rfl, ?_, ?_⟩
                    · omega
                    · refine ⟨by omega, by simpa using hl, fun j hj => ?_, fun y hy => ?_⟩
                      · by_cases hji : j = i
                        · subst hji; rw [List.getElem?_set_self (by omega), List.getElem?_map, List.getElem?_eq_getElem (by omega)]; rfl
                        · rw [List.getElem?_set_ne (by omega)]; exact hpre j (by omega)
                      · rcases List.mem_or_eq_of_mem_set hy with hy | rfl
                        · exact hone y hy
                        · rfl
                    · simp [cS]
            · try simp at hc9
              all_goals
                have hi2 : i = xs.length := by omega
                subst hi2
                have hys : ys = xs.map cS := List.ext_getElem? fun j => by
                  by_cases hj : j < xs.length
                  · exact hpre j hj
                  · rw [List.getElem?_eq_none (by omega), List.getElem?_eq_none (by simp; omega)]
                subst hys
                refine AW_exit ?_
                refine AW_id ?_
                refine AW_r rfl rfl fun K hK => ?_
                simp (disch := omega) [creg_nil, creg_op, creg_gd, cO, cR, cG_bool, cG_undef, ↓spl_tt, ↓spl_tf, ↓spl_ft, ↓spl_ff, spl_ct, spl_cf, putC, nmC, aop, ev, cv, updL, upd_app, upd_upd, lkE_app, lk_nil, lk_cons, aLen, aBuiltin, aBin, aIntBin, aFieldAddr, placeOf, aLoad, cellsAt, aUn, aIndexAddr, st0, valCells, isOne, Value.oneCell', aStore, setCells, List.getElem?_cons_zero, List.getElem?_cons_succ, Option.getD_some, formOb_nn, aBuild, parts, fillA, placesOf, aField, aIndex, aSlice, optIdx, aStrBin, aMakeSlice, viewCells, viewCell, arrN, frzU, t2, t3, t4, t5, t6, t7, t8, t9, t10, t11, t12, t13, t14, t15, t16, t17, t18, t19, t21, t22, t28, t29, t30, t33, t39, t45, t46, t47, t50, t51, t52, t56, t66, t67, t71, t77, t80, t81, t86, t88, t89, t90, t91, t92, t94, t95, t96, t98, t99, t100, t101, t102, u_bool, wrap64, List.getElem?_eq_getElem, cS]
                repeat' first | (refine ⟨fun _ => ?_, fun _ => ?_⟩) | (refine ⟨by omega, ?_⟩) | (intro _)
                all_goals (refine hK _ ?_; clear hK K)
                all_goals
                  refine AW_ret (end_s ?_)
                  simp (disch := omega) [creg_nil, creg_op, creg_gd, cO, cR, cG_bool, cG_undef, ↓spl_tt, ↓spl_tf, ↓spl_ft, ↓spl_ff, spl_ct, spl_cf, putC, nmC, aop, ev, cv, updL, upd_app, upd_upd, lkE_app, lk_nil, lk_cons, aLen, aBuiltin, aBin, aIntBin, aFieldAddr, placeOf, aLoad, cellsAt, aUn, aIndexAddr, st0, valCells, isOne, Value.oneCell', aStore, setCells, List.getElem?_cons_zero, List.getElem?_cons_succ, Option.getD_some, formOb_nn, aBuild, parts, fillA, placesOf, aField, aIndex, aSlice, optIdx, aStrBin, aMakeSlice, viewCells, viewCell, arrN, frzU, t2, t3, t4, t5, t6, t7, t8, t9, t10, t11, t12, t13, t14, t15, t16, t17, t18, t19, t21, t22, t28, t29, t30, t33, t39, t45, t46, t47, t50, t51, t52, t56, t66, t67, t71, t77, t80, t81, t86, t88, t89, t90, t91, t92, t94, t95, t96, t98, t99, t100, t101, t102, u_bool, wrap64, List.getElem?_eq_getElem, cS, endR_some, am0_gg, am0_ss, am0_ll, am1_gg, am1_ss, am1_ll, am1_nl, am1_al, am2_gg, am2_ss, am2_ll, am2_nl, am2_al, am2_ff, am1s_nn, am1s_cc, am2s_nn, am2s_cc, amRs_one, amRs_two', amRs_thr, resAll_nil, resAll_tmp, resAll_cell]
                  all_goals first | omega | (simp_all; done) | (simp [List.take_of_length_le]; done) | ((try simp_all); (try simp (disch := omega) only [wrap64, Int.tdiv_eq_ediv_of_nonneg, Int.tmod_eq_emod_of_nonneg, and_true, true_and]); done) | ((try simp_all); (try simp (disch := omega) only [wrap64, Int.tdiv_eq_ediv_of_nonneg, Int.tmod_eq_emod_of_nonneg, and_true, true_and] at *); omega)
theorem lawJoined (xs : List (List UInt8)) (hm : xs.length ≤ maxLen) (hs : ∀ x ∈ xs, x.length ≤ maxLen) : PCall Try.prog 3 [.sl 1 (xs.map cS)] (.g (.bool (true))) := by
  have hq := szL_nonneg xs
  by_cases h : (1048576 : Int) - xs.length - szL xs < 0
  · have e : szStr xs 1048576 = -1 := by unfold szStr; rw [if_pos h]
    refine gcall_of_walk Try.func3 (by rfl) (by rfl) (by rw [Try.ntmps3]; exact Nat.le_of_ble_eq_true rfl) rfl (by decide) ?_
    rw [Try.ntmps3]
    refine AW_k [(0, _)] ⟨rfl, trivial⟩ ?_
    refine AW_r rfl rfl fun K hK => ?_
    simp (disch := omega) [creg_nil, creg_op, creg_gd, cO, cR, cG_bool, cG_undef, ↓spl_tt, ↓spl_tf, ↓spl_ft, ↓spl_ff, spl_ct, spl_cf, putC, nmC, aop, ev, cv, updL, upd_app, upd_upd, lkE_app, lk_nil, lk_cons, aLen, aBuiltin, aBin, aIntBin, aFieldAddr, placeOf, aLoad, cellsAt, aUn, aIndexAddr, st0, valCells, isOne, Value.oneCell', aStore, setCells, List.getElem?_cons_zero, List.getElem?_cons_succ, Option.getD_some, formOb_nn, aBuild, parts, fillA, placesOf, aField, aIndex, aSlice, optIdx, aStrBin, aMakeSlice, viewCells, viewCell, arrN, frzU, t2, t3, t4, t5, t6, t7, t8, t9, t10, t11, t12, t13, t14, t15, t16, t17, t18, t19, t21, t22, t28, t29, t30, t33, t39, t45, t46, t47, t50, t51, t52, t56, t66, t67, t71, t77, t80, t81, t86, t88, t89, t90, t91, t92, t94, t95, t96, t98, t99, t100, t101, t102, u_bool, wrap64, List.getElem?_eq_getElem, e]
    repeat' first | (refine ⟨fun _ => ?_, fun _ => ?_⟩) | (refine ⟨by omega, ?_⟩) | (intro _)
    all_goals (refine hK _ ?_; clear hK K)
    all_goals
      refine AW_r rfl rfl fun K hK => ?_
      simp (disch := omega) [creg_nil, creg_op, creg_gd, cO, cR, cG_bool, cG_undef, ↓spl_tt, ↓spl_tf, ↓spl_ft, ↓spl_ff, spl_ct, spl_cf, putC, nmC, aop, ev, cv, updL, upd_app, upd_upd, lkE_app, lk_nil, lk_cons, aLen, aBuiltin, aBin, aIntBin, aFieldAddr, placeOf, aLoad, cellsAt, aUn, aIndexAddr, st0, valCells, isOne, Value.oneCell', aStore, setCells, List.getElem?_cons_zero, List.getElem?_cons_succ, Option.getD_some, formOb_nn, aBuild, parts, fillA, placesOf, aField, aIndex, aSlice, optIdx, aStrBin, aMakeSlice, viewCells, viewCell, arrN, frzU, t2, t3, t4, t5, t6, t7, t8, t9, t10, t11, t12, t13, t14, t15, t16, t17, t18, t19, t21, t22, t28, t29, t30, t33, t39, t45, t46, t47, t50, t51, t52, t56, t66, t67, t71, t77, t80, t81, t86, t88, t89, t90, t91, t92, t94, t95, t96, t98, t99, t100, t101, t102, u_bool, wrap64, List.getElem?_eq_getElem, e]
      repeat' first | (refine ⟨fun _ => ?_, fun _ => ?_⟩) | (refine ⟨by omega, ?_⟩) | (intro _)
      all_goals (refine hK _ ?_; clear hK K)
      all_goals
        refine AW_r rfl rfl fun K hK => ?_
        simp (disch := omega) [creg_nil, creg_op, creg_gd, cO, cR, cG_bool, cG_undef, ↓spl_tt, ↓spl_tf, ↓spl_ft, ↓spl_ff, spl_ct, spl_cf, putC, nmC, aop, ev, cv, updL, upd_app, upd_upd, lkE_app, lk_nil, lk_cons, aLen, aBuiltin, aBin, aIntBin, aFieldAddr, placeOf, aLoad, cellsAt, aUn, aIndexAddr, st0, valCells, isOne, Value.oneCell', aStore, setCells, List.getElem?_cons_zero, List.getElem?_cons_succ, Option.getD_some, formOb_nn, aBuild, parts, fillA, placesOf, aField, aIndex, aSlice, optIdx, aStrBin, aMakeSlice, viewCells, viewCell, arrN, frzU, t2, t3, t4, t5, t6, t7, t8, t9, t10, t11, t12, t13, t14, t15, t16, t17, t18, t19, t21, t22, t28, t29, t30, t33, t39, t45, t46, t47, t50, t51, t52, t56, t66, t67, t71, t77, t80, t81, t86, t88, t89, t90, t91, t92, t94, t95, t96, t98, t99, t100, t101, t102, u_bool, wrap64, List.getElem?_eq_getElem, e]
        repeat' first | (refine CKd_v (am2s_cons am2_sl (am2s_cons am2_g am2s_nil)) (szStringS _ _ hm (by omega) hs) rfl ?_; simp (disch := omega) [creg_nil, creg_op, creg_gd, cO, cR, cG_bool, cG_undef, ↓spl_tt, ↓spl_tf, ↓spl_ft, ↓spl_ff, spl_ct, spl_cf, putC, nmC, aop, ev, cv, updL, upd_app, upd_upd, lkE_app, lk_nil, lk_cons, aLen, aBuiltin, aBin, aIntBin, aFieldAddr, placeOf, aLoad, cellsAt, aUn, aIndexAddr, st0, valCells, isOne, Value.oneCell', aStore, setCells, List.getElem?_cons_zero, List.getElem?_cons_succ, Option.getD_some, formOb_nn, aBuild, parts, fillA, placesOf, aField, aIndex, aSlice, optIdx, aStrBin, aMakeSlice, viewCells, viewCell, arrN, frzU, t2, t3, t4, t5, t6, t7, t8, t9, t10, t11, t12, t13, t14, t15, t16, t17, t18, t19, t21, t22, t28, t29, t30, t33, t39, t45, t46, t47, t50, t51, t52, t56, t66, t67, t71, t77, t80, t81, t86, t88, t89, t90, t91, t92, t94, t95, t96, t98, t99, t100, t101, t102, u_bool, wrap64, List.getElem?_eq_getElem, e]) | (refine ⟨fun _ => ?_, fun _ => ?_⟩) | (refine ⟨by omega, ?_⟩) | (intro _)
        all_goals (refine hK _ ?_; clear hK K)
        all_goals
          refine AW_seq ?_
          refine AW_r rfl rfl fun K hK => ?_
          simp (disch := omega) [creg_nil, creg_op, creg_gd, cO, cR, cG_bool, cG_undef, ↓spl_tt, ↓spl_tf, ↓spl_ft, ↓spl_ff, spl_ct, spl_cf, putC, nmC, aop, ev, cv, updL, upd_app, upd_upd, lkE_app, lk_nil, lk_cons, aLen, aBuiltin, aBin, aIntBin, aFieldAddr, placeOf, aLoad, cellsAt, aUn, aIndexAddr, st0, valCells, isOne, Value.oneCell', aStore, setCells, List.getElem?_cons_zero, List.getElem?_cons_succ, Option.getD_some, formOb_nn, aBuild, parts, fillA, placesOf, aField, aIndex, aSlice, optIdx, aStrBin, aMakeSlice, viewCells, viewCell, arrN, frzU, t2, t3, t4, t5, t6, t7, t8, t9, t10, t11, t12, t13, t14, t15, t16, t17, t18, t19, t21, t22, t28, t29, t30, t33, t39, t45, t46, t47, t50, t51, t52, t56, t66, t67, t71, t77, t80, t81, t86, t88, t89, t90, t91, t92, t94, t95, t96, t98, t99, t100, t101, t102, u_bool, wrap64, List.getElem?_eq_getElem, e]
          repeat' first | (refine ⟨fun _ => ?_, fun _ => ?_⟩) | (refine ⟨by omega, ?_⟩) | (intro _)
          all_goals (refine hK _ ?_; clear hK K)
          all_goals
            refine AW_cond rfl (fun hc10 => ?_) (fun hc10 => ?_)
            · try simp at hc10
              all_goals
                refine AW_r rfl rfl fun K hK => ?_
                simp (disch := omega) [creg_nil, creg_op, creg_gd, cO, cR, cG_bool, cG_undef, ↓spl_tt, ↓spl_tf, ↓spl_ft, ↓spl_ff, spl_ct, spl_cf, putC, nmC, aop, ev, cv, updL, upd_app, upd_upd, lkE_app, lk_nil, lk_cons, aLen, aBuiltin, aBin, aIntBin, aFieldAddr, placeOf, aLoad, cellsAt, aUn, aIndexAddr, st0, valCells, isOne, Value.oneCell', aStore, setCells, List.getElem?_cons_zero, List.getElem?_cons_succ, Option.getD_some, formOb_nn, aBuild, parts, fillA, placesOf, aField, aIndex, aSlice, optIdx, aStrBin, aMakeSlice, viewCells, viewCell, arrN, frzU, t2, t3, t4, t5, t6, t7, t8, t9, t10, t11, t12, t13, t14, t15, t16, t17, t18, t19, t21, t22, t28, t29, t30, t33, t39, t45, t46, t47, t50, t51, t52, t56, t66, t67, t71, t77, t80, t81, t86, t88, t89, t90, t91, t92, t94, t95, t96, t98, t99, t100, t101, t102, u_bool, wrap64, List.getElem?_eq_getElem, e]
                repeat' first | (refine ⟨fun _ => ?_, fun _ => ?_⟩) | (refine ⟨by omega, ?_⟩) | (intro _)
                all_goals (refine hK _ ?_; clear hK K)
                all_goals
                  refine AW_ret (end_s ?_)
                  simp (disch := omega) [creg_nil, creg_op, creg_gd, cO, cR, cG_bool, cG_undef, ↓spl_tt, ↓spl_tf, ↓spl_ft, ↓spl_ff, spl_ct, spl_cf, putC, nmC, aop, ev, cv, updL, upd_app, upd_upd, lkE_app, lk_nil, lk_cons, aLen, aBuiltin, aBin, aIntBin, aFieldAddr, placeOf, aLoad, cellsAt, aUn, aIndexAddr, st0, valCells, isOne, Value.oneCell', aStore, setCells, List.getElem?_cons_zero, List.getElem?_cons_succ, Option.getD_some, formOb_nn, aBuild, parts, fillA, placesOf, aField, aIndex, aSlice, optIdx, aStrBin, aMakeSlice, viewCells, viewCell, arrN, frzU, t2, t3, t4, t5, t6, t7, t8, t9, t10, t11, t12, t13, t14, t15, t16, t17, t18, t19, t21, t22, t28, t29, t30, t33, t39, t45, t46, t47, t50, t51, t52, t56, t66, t67, t71, t77, t80, t81, t86, t88, t89, t90, t91, t92, t94, t95, t96, t98, t99, t100, t101, t102, u_bool, wrap64, List.getElem?_eq_getElem, e, endR_some, am0_gg, am0_ss, am0_ll, am1_gg, am1_ss, am1_ll, am1_nl, am1_al, am2_gg, am2_ss, am2_ll, am2_nl, am2_al, am2_ff, am1s_nn, am1s_cc, am2s_nn, am2s_cc, amRs_one, amRs_two', amRs_thr, resAll_nil, resAll_tmp, resAll_cell]
                  all_goals first | omega | (simp_all; done) | (simp [List.take_of_length_le]; done) | ((try simp_all); (try simp (disch := omega) only [wrap64, Int.tdiv_eq_ediv_of_nonneg, Int.tmod_eq_emod_of_nonneg, and_true, true_and]); done) | ((try simp_all); (try simp (disch := omega) only [wrap64, Int.tdiv_eq_ediv_of_nonneg, Int.tmod_eq_emod_of_nonneg, and_true, true_and] at *); omega)
            · try simp at hc10
              all_goals
                refine AW_skip ?_
                refine AW_id ?_
                refine AW_r rfl rfl fun K hK => ?_
                simp (disch := omega) [creg_nil, creg_op, creg_gd, cO, cR, cG_bool, cG_undef, ↓spl_tt, ↓spl_tf, ↓spl_ft, ↓spl_ff, spl_ct, spl_cf, putC, nmC, aop, ev, cv, updL, upd_app, upd_upd, lkE_app, lk_nil, lk_cons, aLen, aBuiltin, aBin, aIntBin, aFieldAddr, placeOf, aLoad, cellsAt, aUn, aIndexAddr, st0, valCells, isOne, Value.oneCell', aStore, setCells, List.getElem?_cons_zero, List.getElem?_cons_succ, Option.getD_some, formOb_nn, aBuild, parts, fillA, placesOf, aField, aIndex, aSlice, optIdx, aStrBin, aMakeSlice, viewCells, viewCell, arrN, frzU, t2, t3, t4, t5, t6, t7, t8, t9, t10, t11, t12, t13, t14, t15, t16, t17, t18, t19, t21, t22, t28, t29, t30, t33, t39, t45, t46, t47, t50, t51, t52, t56, t66, t67, t71, t77, t80, t81, t86, t88, t89, t90, t91, t92, t94, t95, t96, t98, t99, t100, t101, t102, u_bool, wrap64, List.getElem?_eq_getElem, e]
                repeat' first | (refine ⟨fun _ => ?_, fun _ => ?_⟩) | (refine ⟨by omega, ?_⟩) | (intro _)
                all_goals (refine hK _ ?_; clear hK K)
                all_goals
                  refine AW_r rfl rfl fun K hK => ?_
                  simp (disch := omega) [creg_nil, creg_op, creg_gd, cO, cR, cG_bool, cG_undef, ↓spl_tt, ↓spl_tf, ↓spl_ft, ↓spl_ff, spl_ct, spl_cf, putC, nmC, aop, ev, cv, updL, upd_app, upd_upd, lkE_app, lk_nil, lk_cons, aLen, aBuiltin, aBin, aIntBin, aFieldAddr, placeOf, aLoad, cellsAt, aUn, aIndexAddr, st0, valCells, isOne, Value.oneCell', aStore, setCells, List.getElem?_cons_zero, List.getElem?_cons_succ, Option.getD_some, formOb_nn, aBuild, parts, fillA, placesOf, aField, aIndex, aSlice, optIdx, aStrBin, aMakeSlice, viewCells, viewCell, arrN, frzU, t2, t3, t4, t5, t6, t7, t8, t9, t10, t11, t12, t13, t14, t15, t16, t17, t18, t19, t21, t22, t28, t29, t30, t33, t39, t45, t46, t47, t50, t51, t52, t56, t66, t67, t71, t77, t80, t81, t86, t88, t89, t90, t91, t92, t94, t95, t96, t98, t99, t100, t101, t102, u_bool, wrap64, List.getElem?_eq_getElem, e]
                  repeat' first | (refine ⟨fun _ => ?_, fun _ => ?_⟩) | (refine ⟨by omega, ?_⟩) | (intro _)
                  all_goals (refine hK _ ?_; clear hK K)
                  all_goals
                    refine AW_r rfl rfl fun K hK => ?_
                    simp (disch := omega) [creg_nil, creg_op, creg_gd, cO, cR, cG_bool, cG_undef, ↓spl_tt, ↓spl_tf, ↓spl_ft, ↓spl_ff, spl_ct, spl_cf, putC, nmC, aop, ev, cv, updL, upd_app, upd_upd, lkE_app, lk_nil, lk_cons, aLen, aBuiltin, aBin, aIntBin, aFieldAddr, placeOf, aLoad, cellsAt, aUn, aIndexAddr, st0, valCells, isOne, Value.oneCell', aStore, setCells, List.getElem?_cons_zero, List.getElem?_cons_succ, Option.getD_some, formOb_nn, aBuild, parts, fillA, placesOf, aField, aIndex, aSlice, optIdx, aStrBin, aMakeSlice, viewCells, viewCell, arrN, frzU, t2, t3, t4, t5, t6, t7, t8, t9, t10, t11, t12, t13, t14, t15, t16, t17, t18, t19, t21, t22, t28, t29, t30, t33, t39, t45, t46, t47, t50, t51, t52, t56, t66, t67, t71, t77, t80, t81, t86, t88, t89, t90, t91, t92, t94, t95, t96, t98, t99, t100, t101, t102, u_bool, wrap64, List.getElem?_eq_getElem, e]
                    repeat' first | (refine ⟨fun _ => ?_, fun _ => ?_⟩) | (refine ⟨by omega, ?_⟩) | (intro _)
                    all_goals (refine hK _ ?_; clear hK K)
                    all_goals
                      refine AW_seq ?_
                      refine AW_r rfl rfl fun K hK => ?_
                      simp (disch := omega) [creg_nil, creg_op, creg_gd, cO, cR, cG_bool, cG_undef, ↓spl_tt, ↓spl_tf, ↓spl_ft, ↓spl_ff, spl_ct, spl_cf, putC, nmC, aop, ev, cv, updL, upd_app, upd_upd, lkE_app, lk_nil, lk_cons, aLen, aBuiltin, aBin, aIntBin, aFieldAddr, placeOf, aLoad, cellsAt, aUn, aIndexAddr, st0, valCells, isOne, Value.oneCell', aStore, setCells, List.getElem?_cons_zero, List.getElem?_cons_succ, Option.getD_some, formOb_nn, aBuild, parts, fillA, placesOf, aField, aIndex, aSlice, optIdx, aStrBin, aMakeSlice, viewCells, viewCell, arrN, frzU, t2, t3, t4, t5, t6, t7, t8, t9, t10, t11, t12, t13, t14, t15, t16, t17, t18, t19, t21, t22, t28, t29, t30, t33, t39, t45, t46, t47, t50, t51, t52, t56, t66, t67, t71, t77, t80, t81, t86, t88, t89, t90, t91, t92, t94, t95, t96, t98, t99, t100, t101, t102, u_bool, wrap64, List.getElem?_eq_getElem, e]
                      repeat' first | (refine ⟨fun _ => ?_, fun _ => ?_⟩) | (refine ⟨by omega, ?_⟩) | (intro _)
                      all_goals (refine hK _ ?_; clear hK K)
                      all_goals
                        refine AW_cond rfl (fun hc11 => ?_) (fun hc11 => ?_)
                        · try simp at hc11
                          all_goals
                            refine AW_r rfl rfl fun K hK => ?_
                            simp (disch := omega) [creg_nil, creg_op, creg_gd, cO, cR, cG_bool, cG_undef, ↓spl_tt, ↓spl_tf, ↓spl_ft, ↓spl_ff, spl_ct, spl_cf, putC, nmC, aop, ev, cv, updL, upd_app, upd_upd, lkE_app, lk_nil, lk_cons, aLen, aBuiltin, aBin, aIntBin, aFieldAddr, placeOf, aLoad, cellsAt, aUn, aIndexAddr, st0, valCells, isOne, Value.oneCell', aStore, setCells, List.getElem?_cons_zero, List.getElem?_cons_succ, Option.getD_some, formOb_nn, aBuild, parts, fillA, placesOf, aField, aIndex, aSlice, optIdx, aStrBin, aMakeSlice, viewCells, viewCell, arrN, frzU, t2, t3, t4, t5, t6, t7, t8, t9, t10, t11, t12, t13, t14, t15, t16, t17, t18, t19, t21, t22, t28, t29, t30, t33, t39, t45, t46, t47, t50, t51, t52, t56, t66, t67, t71, t77, t80, t81, t86, t88, t89, t90, t91, t92, t94, t95, t96, t98, t99, t100, t101, t102, u_bool, wrap64, List.getElem?_eq_getElem, e]
                            repeat' first | (refine ⟨fun _ => ?_, fun _ => ?_⟩) | (refine ⟨by omega, ?_⟩) | (intro _)
                            all_goals (refine hK _ ?_; clear hK K)
                            all_goals
                              refine AW_ret (end_s ?_)
                              simp (disch := omega) [creg_nil, creg_op, creg_gd, cO, cR, cG_bool, cG_undef, ↓spl_tt, ↓spl_tf, ↓spl_ft, ↓spl_ff, spl_ct, spl_cf, putC, nmC, aop, ev, cv, updL, upd_app, upd_upd, lkE_app, lk_nil, lk_cons, aLen, aBuiltin, aBin, aIntBin, aFieldAddr, placeOf, aLoad, cellsAt, aUn, aIndexAddr, st0, valCells, isOne, Value.oneCell', aStore, setCells, List.getElem?_cons_zero, List.getElem?_cons_succ, Option.getD_some, formOb_nn, aBuild, parts, fillA, placesOf, aField, aIndex, aSlice, optIdx, aStrBin, aMakeSlice, viewCells, viewCell, arrN, frzU, t2, t3, t4, t5, t6, t7, t8, t9, t10, t11, t12, t13, t14, t15, t16, t17, t18, t19, t21, t22, t28, t29, t30, t33, t39, t45, t46, t47, t50, t51, t52, t56, t66, t67, t71, t77, t80, t81, t86, t88, t89, t90, t91, t92, t94, t95, t96, t98, t99, t100, t101, t102, u_bool, wrap64, List.getElem?_eq_getElem, e, endR_some, am0_gg, am0_ss, am0_ll, am1_gg, am1_ss, am1_ll, am1_nl, am1_al, am2_gg, am2_ss, am2_ll, am2_nl, am2_al, am2_ff, am1s_nn, am1s_cc, am2s_nn, am2s_cc, amRs_one, amRs_two', amRs_thr, resAll_nil, resAll_tmp, resAll_cell]
                              all_goals first | omega | (simp_all; done) | (simp [List.take_of_length_le]; done) | ((try simp_all); (try simp (disch := omega) only [wrap64, Int.tdiv_eq_ediv_of_nonneg, Int.tmod_eq_emod_of_nonneg, and_true, true_and]); done) | ((try simp_all); (try simp (disch := omega) only [wrap64, Int.tdiv_eq_ediv_of_nonneg, Int.tmod_eq_emod_of_nonneg, and_true, true_and] at *); omega)
                        · try simp at hc11
                          all_goals
                            refine AW_skip ?_
                            refine AW_id ?_
                            refine AW_seq ?_
                            refine AW_r rfl rfl fun K hK => ?_
                            simp (disch := omega) [creg_nil, creg_op, creg_gd, cO, cR, cG_bool, cG_undef, ↓spl_tt, ↓spl_tf, ↓spl_ft, ↓spl_ff, spl_ct, spl_cf, putC, nmC, aop, ev, cv, updL, upd_app, upd_upd, lkE_app, lk_nil, lk_cons, aLen, aBuiltin, aBin, aIntBin, aFieldAddr, placeOf, aLoad, cellsAt, aUn, aIndexAddr, st0, valCells, isOne, Value.oneCell', aStore, setCells, List.getElem?_cons_zero, List.getElem?_cons_succ, Option.getD_some, formOb_nn, aBuild, parts, fillA, placesOf, aField, aIndex, aSlice, optIdx, aStrBin, aMakeSlice, viewCells, viewCell, arrN, frzU, t2, t3, t4, t5, t6, t7, t8, t9, t10, t11, t12, t13, t14, t15, t16, t17, t18, t19, t21, t22, t28, t29, t30, t33, t39, t45, t46, t47, t50, t51, t52, t56, t66, t67, t71, t77, t80, t81, t86, t88, t89, t90, t91, t92, t94, t95, t96, t98, t99, t100, t101, t102, u_bool, wrap64, List.getElem?_eq_getElem, e]
                            repeat' first | (refine ⟨fun _ => ?_, fun _ => ?_⟩) | (refine ⟨by omega, ?_⟩) | (intro _)
                            all_goals (refine hK _ ?_; clear hK K)
                            all_goals
                              refine AW_cond rfl (fun hc12 => ?_) (fun hc12 => ?_)
                              · try simp at hc12
                                all_goals
                                  refine AW_r rfl rfl fun K hK => ?_
                                  simp (disch := omega) [creg_nil, creg_op, creg_gd, cO, cR, cG_bool, cG_undef, ↓spl_tt, ↓spl_tf, ↓spl_ft, ↓spl_ff, spl_ct, spl_cf, putC, nmC, aop, ev, cv, updL, upd_app, upd_upd, lkE_app, lk_nil, lk_cons, aLen, aBuiltin, aBin, aIntBin, aFieldAddr, placeOf, aLoad, cellsAt, aUn, aIndexAddr, st0, valCells, isOne, Value.oneCell', aStore, setCells, List.getElem?_cons_zero, List.getElem?_cons_succ, Option.getD_some, formOb_nn, aBuild, parts, fillA, placesOf, aField, aIndex, aSlice, optIdx, aStrBin, aMakeSlice, viewCells, viewCell, arrN, frzU, t2, t3, t4, t5, t6, t7, t8, t9, t10, t11, t12, t13, t14, t15, t16, t17, t18, t19, t21, t22, t28, t29, t30, t33, t39, t45, t46, t47, t50, t51, t52, t56, t66, t67, t71, t77, t80, t81, t86, t88, t89, t90, t91, t92, t94, t95, t96, t98, t99, t100, t101, t102, u_bool, wrap64, List.getElem?_eq_getElem, e]
                                  repeat' first | (refine ⟨fun _ => ?_, fun _ => ?_⟩) | (refine ⟨by omega, ?_⟩) | (intro _)
                                  all_goals (refine hK _ ?_; clear hK K)
                                  all_goals
                                    refine AW_ret (end_s ?_)
                                    simp (disch := omega) [creg_nil, creg_op, creg_gd, cO, cR, cG_bool, cG_undef, ↓spl_tt, ↓spl_tf, ↓spl_ft, ↓spl_ff, spl_ct, spl_cf, putC, nmC, aop, ev, cv, updL, upd_app, upd_upd, lkE_app, lk_nil, lk_cons, aLen, aBuiltin, aBin, aIntBin, aFieldAddr, placeOf, aLoad, cellsAt, aUn, aIndexAddr, st0, valCells, isOne, Value.oneCell', aStore, setCells, List.getElem?_cons_zero, List.getElem?_cons_succ, Option.getD_some, formOb_nn, aBuild, parts, fillA, placesOf, aField, aIndex, aSlice, optIdx, aStrBin, aMakeSlice, viewCells, viewCell, arrN, frzU, t2, t3, t4, t5, t6, t7, t8, t9, t10, t11, t12, t13, t14, t15, t16, t17, t18, t19, t21, t22, t28, t29, t30, t33, t39, t45, t46, t47, t50, t51, t52, t56, t66, t67, t71, t77, t80, t81, t86, t88, t89, t90, t91, t92, t94, t95, t96, t98, t99, t100, t101, t102, u_bool, wrap64, List.getElem?_eq_getElem, e, endR_some, am0_gg, am0_ss, am0_ll, am1_gg, am1_ss, am1_ll, am1_nl, am1_al, am2_gg, am2_ss, am2_ll, am2_nl, am2_al, am2_ff, am1s_nn, am1s_cc, am2s_nn, am2s_cc, amRs_one, amRs_two', amRs_thr, resAll_nil, resAll_tmp, resAll_cell]
                                    all_goals first | omega | (simp_all; done) | (simp [List.take_of_length_le]; done) | ((try simp_all); (try simp (disch := omega) only [wrap64, Int.tdiv_eq_ediv_of_nonneg, Int.tmod_eq_emod_of_nonneg, and_true, true_and]); done) | ((try simp_all); (try simp (disch := omega) only [wrap64, Int.tdiv_eq_ediv_of_nonneg, Int.tmod_eq_emod_of_nonneg, and_true, true_and] at *); omega)
                              · try simp at hc12
                                all_goals
                                  refine AW_skip ?_
                                  refine AW_id ?_
                                  refine AW_r rfl rfl fun K hK => ?_
                                  simp (disch := omega) [creg_nil, creg_op, creg_gd, cO, cR, cG_bool, cG_undef, ↓spl_tt, ↓spl_tf, ↓spl_ft, ↓spl_ff, spl_ct, spl_cf, putC, nmC, aop, ev, cv, updL, upd_app, upd_upd, lkE_app, lk_nil, lk_cons, aLen, aBuiltin, aBin, aIntBin, aFieldAddr, placeOf, aLoad, cellsAt, aUn, aIndexAddr, st0, valCells, isOne, Value.oneCell', aStore, setCells, List.getElem?_cons_zero, List.getElem?_cons_succ, Option.getD_some, formOb_nn, aBuild, parts, fillA, placesOf, aField, aIndex, aSlice, optIdx, aStrBin, aMakeSlice, viewCells, viewCell, arrN, frzU, t2, t3, t4, t5, t6, t7, t8, t9, t10, t11, t12, t13, t14, t15, t16, t17, t18, t19, t21, t22, t28, t29, t30, t33, t39, t45, t46, t47, t50, t51, t52, t56, t66, t67, t71, t77, t80, t81, t86, t88, t89, t90, t91, t92, t94, t95, t96, t98, t99, t100, t101, t102, u_bool, wrap64, List.getElem?_eq_getElem, e]
                                  repeat' first | (refine ⟨fun _ => ?_, fun _ => ?_⟩) | (refine ⟨by omega, ?_⟩) | (intro _)
                                  all_goals (refine hK _ ?_; clear hK K)
                                  all_goals
                                    refine AW_ret (end_s ?_)
                                    simp (disch := omega) [creg_nil, creg_op, creg_gd, cO, cR, cG_bool, cG_undef, ↓spl_tt, ↓spl_tf, ↓spl_ft, ↓spl_ff, spl_ct, spl_cf, putC, nmC, aop, ev, cv, updL, upd_app, upd_upd, lkE_app, lk_nil, lk_cons, aLen, aBuiltin, aBin, aIntBin, aFieldAddr, placeOf, aLoad, cellsAt, aUn, aIndexAddr, st0, valCells, isOne, Value.oneCell', aStore, setCells, List.getElem?_cons_zero, List.getElem?_cons_succ, Option.getD_some, formOb_nn, aBuild, parts, fillA, placesOf, aField, aIndex, aSlice, optIdx, aStrBin, aMakeSlice, viewCells, viewCell, arrN, frzU, t2, t3, t4, t5, t6, t7, t8, t9, t10, t11, t12, t13, t14, t15, t16, t17, t18, t19, t21, t22, t28, t29, t30, t33, t39, t45, t46, t47, t50, t51, t52, t56, t66, t67, t71, t77, t80, t81, t86, t88, t89, t90, t91, t92, t94, t95, t96, t98, t99, t100, t101, t102, u_bool, wrap64, List.getElem?_eq_getElem, e, endR_some, am0_gg, am0_ss, am0_ll, am1_gg, am1_ss, am1_ll, am1_nl, am1_al, am2_gg, am2_ss, am2_ll, am2_nl, am2_al, am2_ff, am1s_nn, am1s_cc, am2s_nn, am2s_cc, amRs_one, amRs_two', amRs_thr, resAll_nil, resAll_tmp, resAll_cell]
                                    all_goals first | omega | (simp_all; done) | (simp [List.take_of_length_le]; done) | ((try simp_all); (try simp (disch := omega) only [wrap64, Int.tdiv_eq_ediv_of_nonneg, Int.tmod_eq_emod_of_nonneg, and_true, true_and]); done) | ((try simp_all); (try simp (disch := omega) only [wrap64, Int.tdiv_eq_ediv_of_nonneg, Int.tmod_eq_emod_of_nonneg, and_true, true_and] at *); omega)
  · have e : szStr xs 1048576 = 1048576 - xs.length - szL xs := by unfold szStr; rw [if_neg h]
    have e2 : (0 : Int) ≤ 1048576 - xs.length - szL xs := by omega
    refine gcall_of_walk Try.func3 (by rfl) (by rfl) (by rw [Try.ntmps3]; exact Nat.le_of_ble_eq_true rfl) rfl (by decide) ?_
    rw [Try.ntmps3]
    refine AW_k [(0, _)] ⟨rfl, trivial⟩ ?_
    refine AW_r rfl rfl fun K hK => ?_
    simp (disch := omega) [creg_nil, creg_op, creg_gd, cO, cR, cG_bool, cG_undef, ↓spl_tt, ↓spl_tf, ↓spl_ft, ↓spl_ff, spl_ct, spl_cf, putC, nmC, aop, ev, cv, updL, upd_app, upd_upd, lkE_app, lk_nil, lk_cons, aLen, aBuiltin, aBin, aIntBin, aFieldAddr, placeOf, aLoad, cellsAt, aUn, aIndexAddr, st0, valCells, isOne, Value.oneCell', aStore, setCells, List.getElem?_cons_zero, List.getElem?_cons_succ, Option.getD_some, formOb_nn, aBuild, parts, fillA, placesOf, aField, aIndex, aSlice, optIdx, aStrBin, aMakeSlice, viewCells, viewCell, arrN, frzU, t2, t3, t4, t5, t6, t7, t8, t9, t10, t11, t12, t13, t14, t15, t16, t17, t18, t19, t21, t22, t28, t29, t30, t33, t39, t45, t46, t47, t50, t51, t52, t56, t66, t67, t71, t77, t80, t81, t86, t88, t89, t90, t91, t92, t94, t95, t96, t98, t99, t100, t101, t102, u_bool, wrap64, List.getElem?_eq_getElem, e, e2]
    repeat' first | (refine ⟨fun _ => ?_, fun _ => ?_⟩) | (refine ⟨by omega, ?_⟩) | (intro _)
    all_goals (refine hK _ ?_; clear hK K)
    all_goals
      refine AW_r rfl rfl fun K hK => ?_
      simp (disch := omega) [creg_nil, creg_op, creg_gd, cO, cR, cG_bool, cG_undef, ↓spl_tt, ↓spl_tf, ↓spl_ft, ↓spl_ff, spl_ct, spl_cf, putC, nmC, aop, ev, cv, updL, upd_app, upd_upd, lkE_app, lk_nil, lk_cons, aLen, aBuiltin, aBin, aIntBin, aFieldAddr, placeOf, aLoad, cellsAt, aUn, aIndexAddr, st0, valCells, isOne, Value.oneCell', aStore, setCells, List.getElem?_cons_zero, List.getElem?_cons_succ, Option.getD_some, formOb_nn, aBuild, parts, fillA, placesOf, aField, aIndex, aSlice, optIdx, aStrBin, aMakeSlice, viewCells, viewCell, arrN, frzU, t2, t3, t4, t5, t6, t7, t8, t9, t10, t11, t12, t13, t14, t15, t16, t17, t18, t19, t21, t22, t28, t29, t30, t33, t39, t45, t46, t47, t50, t51, t52, t56, t66, t67, t71, t77, t80, t81, t86, t88, t89, t90, t91, t92, t94, t95, t96, t98, t99, t100, t101, t102, u_bool, wrap64, List.getElem?_eq_getElem, e, e2]
      repeat' first | (refine ⟨fun _ => ?_, fun _ => ?_⟩) | (refine ⟨by omega, ?_⟩) | (intro _)
      all_goals (refine hK _ ?_; clear hK K)
      all_goals
        refine AW_r rfl rfl fun K hK => ?_
        simp (disch := omega) [creg_nil, creg_op, creg_gd, cO, cR, cG_bool, cG_undef, ↓spl_tt, ↓spl_tf, ↓spl_ft, ↓spl_ff, spl_ct, spl_cf, putC, nmC, aop, ev, cv, updL, upd_app, upd_upd, lkE_app, lk_nil, lk_cons, aLen, aBuiltin, aBin, aIntBin, aFieldAddr, placeOf, aLoad, cellsAt, aUn, aIndexAddr, st0, valCells, isOne, Value.oneCell', aStore, setCells, List.getElem?_cons_zero, List.getElem?_cons_succ, Option.getD_some, formOb_nn, aBuild, parts, fillA, placesOf, aField, aIndex, aSlice, optIdx, aStrBin, aMakeSlice, viewCells, viewCell, arrN, frzU, t2, t3, t4, t5, t6, t7, t8, t9, t10, t11, t12, t13, t14, t15, t16, t17, t18, t19, t21, t22, t28, t29, t30, t33, t39, t45, t46, t47, t50, t51, t52, t56, t66, t67, t71, t77, t80, t81, t86, t88, t89, t90, t91, t92, t94, t95, t96, t98, t99, t100, t101, t102, u_bool, wrap64, List.getElem?_eq_getElem, e, e2]
        repeat' first | (refine CKd_v (am2s_cons am2_sl (am2s_cons am2_g am2s_nil)) (szStringS _ _ hm (by omega) hs) rfl ?_; simp (disch := omega) [creg_nil, creg_op, creg_gd, cO, cR, cG_bool, cG_undef, ↓spl_tt, ↓spl_tf, ↓spl_ft, ↓spl_ff, spl_ct, spl_cf, putC, nmC, aop, ev, cv, updL, upd_app, upd_upd, lkE_app, lk_nil, lk_cons, aLen, aBuiltin, aBin, aIntBin, aFieldAddr, placeOf, aLoad, cellsAt, aUn, aIndexAddr, st0, valCells, isOne, Value.oneCell', aStore, setCells, List.getElem?_cons_zero, List.getElem?_cons_succ, Option.getD_some, formOb_nn, aBuild, parts, fillA, placesOf, aField, aIndex, aSlice, optIdx, aStrBin, aMakeSlice, viewCells, viewCell, arrN, frzU, t2, t3, t4, t5, t6, t7, t8, t9, t10, t11, t12, t13, t14, t15, t16, t17, t18, t19, t21, t22, t28, t29, t30, t33, t39, t45, t46, t47, t50, t51, t52, t56, t66, t67, t71, t77, t80, t81, t86, t88, t89, t90, t91, t92, t94, t95, t96, t98, t99, t100, t101, t102, u_bool, wrap64, List.getElem?_eq_getElem, e, e2]) | (refine ⟨fun _ => ?_, fun _ => ?_⟩) | (refine ⟨by omega, ?_⟩) | (intro _)
        all_goals (refine hK _ ?_; clear hK K)
        all_goals
          refine AW_seq ?_
          refine AW_r rfl rfl fun K hK => ?_
          simp (disch := omega) [creg_nil, creg_op, creg_gd, cO, cR, cG_bool, cG_undef, ↓spl_tt, ↓spl_tf, ↓spl_ft, ↓spl_ff, spl_ct, spl_cf, putC, nmC, aop, ev, cv, updL, upd_app, upd_upd, lkE_app, lk_nil, lk_cons, aLen, aBuiltin, aBin, aIntBin, aFieldAddr, placeOf, aLoad, cellsAt, aUn, aIndexAddr, st0, valCells, isOne, Value.oneCell', aStore, setCells, List.getElem?_cons_zero, List.getElem?_cons_succ, Option.getD_some, formOb_nn, aBuild, parts, fillA, placesOf, aField, aIndex, aSlice, optIdx, aStrBin, aMakeSlice, viewCells, viewCell, arrN, frzU, t2, t3, t4, t5, t6, t7, t8, t9, t10, t11, t12, t13, t14, t15, t16, t17, t18, t19, t21, t22, t28, t29, t30, t33, t39, t45, t46, t47, t50, t51, t52, t56, t66, t67, t71, t77, t80, t81, t86, t88, t89, t90, t91, t92, t94, t95, t96, t98, t99, t100, t101, t102, u_bool, wrap64, List.getElem?_eq_getElem, e, e2]
          repeat' first | (refine ⟨fun _ => ?_, fun _ => ?_⟩) | (refine ⟨by omega, ?_⟩) | (intro _)
          all_goals (refine hK _ ?_; clear hK K)
          all_goals
            refine AW_cond rfl (fun hc13 => ?_) (fun hc13 => ?_)
            · try simp at hc13
              all_goals
                refine AW_r rfl rfl fun K hK => ?_
                simp (disch := omega) [creg_nil, creg_op, creg_gd, cO, cR, cG_bool, cG_undef, ↓spl_tt, ↓spl_tf, ↓spl_ft, ↓spl_ff, spl_ct, spl_cf, putC, nmC, aop, ev, cv, updL, upd_app, upd_upd, lkE_app, lk_nil, lk_cons, aLen, aBuiltin, aBin, aIntBin, aFieldAddr, placeOf, aLoad, cellsAt, aUn, aIndexAddr, st0, valCells, isOne, Value.oneCell', aStore, setCells, List.getElem?_cons_zero, List.getElem?_cons_succ, Option.getD_some, formOb_nn, aBuild, parts, fillA, placesOf, aField, aIndex, aSlice, optIdx, aStrBin, aMakeSlice, viewCells, viewCell, arrN, frzU, t2, t3, t4, t5, t6, t7, t8, t9, t10, t11, t12, t13, t14, t15, t16, t17, t18, t19, t21, t22, t28, t29, t30, t33, t39, t45, t46, t47, t50, t51, t52, t56, t66, t67, t71, t77, t80, t81, t86, t88, t89, t90, t91, t92, t94, t95, t96, t98, t99, t100, t101, t102, u_bool, wrap64, List.getElem?_eq_getElem, e, e2]
                repeat' first | (refine ⟨fun _ => ?_, fun _ => ?_⟩) | (refine ⟨by omega, ?_⟩) | (intro _)
                all_goals (refine hK _ ?_; clear hK K)
                all_goals
                  refine AW_ret (end_s ?_)
                  simp (disch := omega) [creg_nil, creg_op, creg_gd, cO, cR, cG_bool, cG_undef, ↓spl_tt, ↓spl_tf, ↓spl_ft, ↓spl_ff, spl_ct, spl_cf, putC, nmC, aop, ev, cv, updL, upd_app, upd_upd, lkE_app, lk_nil, lk_cons, aLen, aBuiltin, aBin, aIntBin, aFieldAddr, placeOf, aLoad, cellsAt, aUn, aIndexAddr, st0, valCells, isOne, Value.oneCell', aStore, setCells, List.getElem?_cons_zero, List.getElem?_cons_succ, Option.getD_some, formOb_nn, aBuild, parts, fillA, placesOf, aField, aIndex, aSlice, optIdx, aStrBin, aMakeSlice, viewCells, viewCell, arrN, frzU, t2, t3, t4, t5, t6, t7, t8, t9, t10, t11, t12, t13, t14, t15, t16, t17, t18, t19, t21, t22, t28, t29, t30, t33, t39, t45, t46, t47, t50, t51, t52, t56, t66, t67, t71, t77, t80, t81, t86, t88, t89, t90, t91, t92, t94, t95, t96, t98, t99, t100, t101, t102, u_bool, wrap64, List.getElem?_eq_getElem, e, e2, endR_some, am0_gg, am0_ss, am0_ll, am1_gg, am1_ss, am1_ll, am1_nl, am1_al, am2_gg, am2_ss, am2_ll, am2_nl, am2_al, am2_ff, am1s_nn, am1s_cc, am2s_nn, am2s_cc, amRs_one, amRs_two', amRs_thr, resAll_nil, resAll_tmp, resAll_cell]
                  all_goals first | omega | (simp_all; done) | (simp [List.take_of_length_le]; done) | ((try simp_all); (try simp (disch := omega) only [wrap64, Int.tdiv_eq_ediv_of_nonneg, Int.tmod_eq_emod_of_nonneg, and_true, true_and]); done) | ((try simp_all); (try simp (disch := omega) only [wrap64, Int.tdiv_eq_ediv_of_nonneg, Int.tmod_eq_emod_of_nonneg, and_true, true_and] at *); omega)
            · try simp at hc13
              all_goals
                refine AW_skip ?_
                refine AW_id ?_
                refine AW_r rfl rfl fun K hK => ?_
                simp (disch := omega) [creg_nil, creg_op, creg_gd, cO, cR, cG_bool, cG_undef, ↓spl_tt, ↓spl_tf, ↓spl_ft, ↓spl_ff, spl_ct, spl_cf, putC, nmC, aop, ev, cv, updL, upd_app, upd_upd, lkE_app, lk_nil, lk_cons, aLen, aBuiltin, aBin, aIntBin, aFieldAddr, placeOf, aLoad, cellsAt, aUn, aIndexAddr, st0, valCells, isOne, Value.oneCell', aStore, setCells, List.getElem?_cons_zero, List.getElem?_cons_succ, Option.getD_some, formOb_nn, aBuild, parts, fillA, placesOf, aField, aIndex, aSlice, optIdx, aStrBin, aMakeSlice, viewCells, viewCell, arrN, frzU, t2, t3, t4, t5, t6, t7, t8, t9, t10, t11, t12, t13, t14, t15, t16, t17, t18, t19, t21, t22, t28, t29, t30, t33, t39, t45, t46, t47, t50, t51, t52, t56, t66, t67, t71, t77, t80, t81, t86, t88, t89, t90, t91, t92, t94, t95, t96, t98, t99, t100, t101, t102, u_bool, wrap64, List.getElem?_eq_getElem, e, e2]
                repeat' first | (refine CKd_v (am2s_cons am2_sl am2s_nil) (toStringS _ (by omega)) rfl ?_; simp (disch := omega) [creg_nil, creg_op, creg_gd, cO, cR, cG_bool, cG_undef, ↓spl_tt, ↓spl_tf, ↓spl_ft, ↓spl_ff, spl_ct, spl_cf, putC, nmC, aop, ev, cv, updL, upd_app, upd_upd, lkE_app, lk_nil, lk_cons, aLen, aBuiltin, aBin, aIntBin, aFieldAddr, placeOf, aLoad, cellsAt, aUn, aIndexAddr, st0, valCells, isOne, Value.oneCell', aStore, setCells, List.getElem?_cons_zero, List.getElem?_cons_succ, Option.getD_some, formOb_nn, aBuild, parts, fillA, placesOf, aField, aIndex, aSlice, optIdx, aStrBin, aMakeSlice, viewCells, viewCell, arrN, frzU, t2, t3, t4, t5, t6, t7, t8, t9, t10, t11, t12, t13, t14, t15, t16, t17, t18, t19, t21, t22, t28, t29, t30, t33, t39, t45, t46, t47, t50, t51, t52, t56, t66, t67, t71, t77, t80, t81, t86, t88, t89, t90, t91, t92, t94, t95, t96, t98, t99, t100, t101, t102, u_bool, wrap64, List.getElem?_eq_getElem, e, e2]) | (refine CKd_v (am2s_cons am2_sl am2s_nil) (specJoined _ (by omega) (by omega)) rfl ?_; simp (disch := omega) [creg_nil, creg_op, creg_gd, cO, cR, cG_bool, cG_undef, ↓spl_tt, ↓spl_tf, ↓spl_ft, ↓spl_ff, spl_ct, spl_cf, putC, nmC, aop, ev, cv, updL, upd_app, upd_upd, lkE_app, lk_nil, lk_cons, aLen, aBuiltin, aBin, aIntBin, aFieldAddr, placeOf, aLoad, cellsAt, aUn, aIndexAddr, st0, valCells, isOne, Value.oneCell', aStore, setCells, List.getElem?_cons_zero, List.getElem?_cons_succ, Option.getD_some, formOb_nn, aBuild, parts, fillA, placesOf, aField, aIndex, aSlice, optIdx, aStrBin, aMakeSlice, viewCells, viewCell, arrN, frzU, t2, t3, t4, t5, t6, t7, t8, t9, t10, t11, t12, t13, t14, t15, t16, t17, t18, t19, t21, t22, t28, t29, t30, t33, t39, t45, t46, t47, t50, t51, t52, t56, t66, t67, t71, t77, t80, t81, t86, t88, t89, t90, t91, t92, t94, t95, t96, t98, t99, t100, t101, t102, u_bool, wrap64, List.getElem?_eq_getElem, e, e2]) | (refine ⟨fun _ => ?_, fun _ => ?_⟩) | (refine ⟨by omega, ?_⟩) | (intro _)
                all_goals (refine hK _ ?_; clear hK K)
                all_goals
                  refine AW_r rfl rfl fun K hK => ?_
                  simp (disch := omega) [creg_nil, creg_op, creg_gd, cO, cR, cG_bool, cG_undef, ↓spl_tt, ↓spl_tf, ↓spl_ft, ↓spl_ff, spl_ct, spl_cf, putC, nmC, aop, ev, cv, updL, upd_app, upd_upd, lkE_app, lk_nil, lk_cons, aLen, aBuiltin, aBin, aIntBin, aFieldAddr, placeOf, aLoad, cellsAt, aUn, aIndexAddr, st0, valCells, isOne, Value.oneCell', aStore, setCells, List.getElem?_cons_zero, List.getElem?_cons_succ, Option.getD_some, formOb_nn, aBuild, parts, fillA, placesOf, aField, aIndex, aSlice, optIdx, aStrBin, aMakeSlice, viewCells, viewCell, arrN, frzU, t2, t3, t4, t5, t6, t7, t8, t9, t10, t11, t12, t13, t14, t15, t16, t17, t18, t19, t21, t22, t28, t29, t30, t33, t39, t45, t46, t47, t50, t51, t52, t56, t66, t67, t71, t77, t80, t81, t86, t88, t89, t90, t91, t92, t94, t95, t96, t98, t99, t100, t101, t102, u_bool, wrap64, List.getElem?_eq_getElem, e, e2]
                  repeat' first | (refine CKd_v (am2s_cons am2_sl am2s_nil) (toStringS _ (by omega)) rfl ?_; simp (disch := omega) [creg_nil, creg_op, creg_gd, cO, cR, cG_bool, cG_undef, ↓spl_tt, ↓spl_tf, ↓spl_ft, ↓spl_ff, spl_ct, spl_cf, putC, nmC, aop, ev, cv, updL, upd_app, upd_upd, lkE_app, lk_nil, lk_cons, aLen, aBuiltin, aBin, aIntBin, aFieldAddr, placeOf, aLoad, cellsAt, aUn, aIndexAddr, st0, valCells, isOne, Value.oneCell', aStore, setCells, List.getElem?_cons_zero, List.getElem?_cons_succ, Option.getD_some, formOb_nn, aBuild, parts, fillA, placesOf, aField, aIndex, aSlice, optIdx, aStrBin, aMakeSlice, viewCells, viewCell, arrN, frzU, t2, t3, t4, t5, t6, t7, t8, t9, t10, t11, t12, t13, t14, t15, t16, t17, t18, t19, t21, t22, t28, t29, t30, t33, t39, t45, t46, t47, t50, t51, t52, t56, t66, t67, t71, t77, t80, t81, t86, t88, t89, t90, t91, t92, t94, t95, t96, t98, t99, t100, t101, t102, u_bool, wrap64, List.getElem?_eq_getElem, e, e2]) | (refine ⟨fun _ => ?_, fun _ => ?_⟩) | (refine ⟨by omega, ?_⟩) | (intro _)
                  all_goals (refine hK _ ?_; clear hK K)
                  all_goals
                    refine AW_r rfl rfl fun K hK => ?_
                    simp (disch := omega) [creg_nil, creg_op, creg_gd, cO, cR, cG_bool, cG_undef, ↓spl_tt, ↓spl_tf, ↓spl_ft, ↓spl_ff, spl_ct, spl_cf, putC, nmC, aop, ev, cv, updL, upd_app, upd_upd, lkE_app, lk_nil, lk_cons, aLen, aBuiltin, aBin, aIntBin, aFieldAddr, placeOf, aLoad, cellsAt, aUn, aIndexAddr, st0, valCells, isOne, Value.oneCell', aStore, setCells, List.getElem?_cons_zero, List.getElem?_cons_succ, Option.getD_some, formOb_nn, aBuild, parts, fillA, placesOf, aField, aIndex, aSlice, optIdx, aStrBin, aMakeSlice, viewCells, viewCell, arrN, frzU, t2, t3, t4, t5, t6, t7, t8, t9, t10, t11, t12, t13, t14, t15, t16, t17, t18, t19, t21, t22, t28, t29, t30, t33, t39, t45, t46, t47, t50, t51, t52, t56, t66, t67, t71, t77, t80, t81, t86, t88, t89, t90, t91, t92, t94, t95, t96, t98, t99, t100, t101, t102, u_bool, wrap64, List.getElem?_eq_getElem, e, e2]
                    repeat' first | (refine CKd_v (am2s_cons am2_sl am2s_nil) (implJoined _ (by omega) (by omega)) rfl ?_; simp (disch := omega) [creg_nil, creg_op, creg_gd, cO, cR, cG_bool, cG_undef, ↓spl_tt, ↓spl_tf, ↓spl_ft, ↓spl_ff, spl_ct, spl_cf, putC, nmC, aop, ev, cv, updL, upd_app, upd_upd, lkE_app, lk_nil, lk_cons, aLen, aBuiltin, aBin, aIntBin, aFieldAddr, placeOf, aLoad, cellsAt, aUn, aIndexAddr, st0, valCells, isOne, Value.oneCell', aStore, setCells, List.getElem?_cons_zero, List.getElem?_cons_succ, Option.getD_some, formOb_nn, aBuild, parts, fillA, placesOf, aField, aIndex, aSlice, optIdx, aStrBin, aMakeSlice, viewCells, viewCell, arrN, frzU, t2, t3, t4, t5, t6, t7, t8, t9, t10, t11, t12, t13, t14, t15, t16, t17, t18, t19, t21, t22, t28, t29, t30, t33, t39, t45, t46, t47, t50, t51, t52, t56, t66, t67, t71, t77, t80, t81, t86, t88, t89, t90, t91, t92, t94, t95, t96, t98, t99, t100, t101, t102, u_bool, wrap64, List.getElem?_eq_getElem, e, e2]) | (refine ⟨fun _ => ?_, fun _ => ?_⟩) | (refine ⟨by omega, ?_⟩) | (intro _)
                    all_goals (refine hK _ ?_; clear hK K)
                    all_goals
                      refine AW_seq ?_
                      refine AW_r rfl rfl fun K hK => ?_
                      simp (disch := omega) [creg_nil, creg_op, creg_gd, cO, cR, cG_bool, cG_undef, ↓spl_tt, ↓spl_tf, ↓spl_ft, ↓spl_ff, spl_ct, spl_cf, putC, nmC, aop, ev, cv, updL, upd_app, upd_upd, lkE_app, lk_nil, lk_cons, aLen, aBuiltin, aBin, aIntBin, aFieldAddr, placeOf, aLoad, cellsAt, aUn, aIndexAddr, st0, valCells, isOne, Value.oneCell', aStore, setCells, List.getElem?_cons_zero, List.getElem?_cons_succ, Option.getD_some, formOb_nn, aBuild, parts, fillA, placesOf, aField, aIndex, aSlice, optIdx, aStrBin, aMakeSlice, viewCells, viewCell, arrN, frzU, t2, t3, t4, t5, t6, t7, t8, t9, t10, t11, t12, t13, t14, t15, t16, t17, t18, t19, t21, t22, t28, t29, t30, t33, t39, t45, t46, t47, t50, t51, t52, t56, t66, t67, t71, t77, t80, t81, t86, t88, t89, t90, t91, t92, t94, t95, t96, t98, t99, t100, t101, t102, u_bool, wrap64, List.getElem?_eq_getElem, e, e2]
                      repeat' first | (refine ⟨fun _ => ?_, fun _ => ?_⟩) | (refine ⟨by omega, ?_⟩) | (intro _)
                      all_goals (refine hK _ ?_; clear hK K)
                      all_goals
                        refine AW_cond rfl (fun hc14 => ?_) (fun hc14 => ?_)
                        · try simp at hc14
                          all_goals
                            refine AW_r rfl rfl fun K hK => ?_
                            simp (disch := omega) [creg_nil, creg_op, creg_gd, cO, cR, cG_bool, cG_undef, ↓spl_tt, ↓spl_tf, ↓spl_ft, ↓spl_ff, spl_ct, spl_cf, putC, nmC, aop, ev, cv, updL, upd_app, upd_upd, lkE_app, lk_nil, lk_cons, aLen, aBuiltin, aBin, aIntBin, aFieldAddr, placeOf, aLoad, cellsAt, aUn, aIndexAddr, st0, valCells, isOne, Value.oneCell', aStore, setCells, List.getElem?_cons_zero, List.getElem?_cons_succ, Option.getD_some, formOb_nn, aBuild, parts, fillA, placesOf, aField, aIndex, aSlice, optIdx, aStrBin, aMakeSlice, viewCells, viewCell, arrN, frzU, t2, t3, t4, t5, t6, t7, t8, t9, t10, t11, t12, t13, t14, t15, t16, t17, t18, t19, t21, t22, t28, t29, t30, t33, t39, t45, t46, t47, t50, t51, t52, t56, t66, t67, t71, t77, t80, t81, t86, t88, t89, t90, t91, t92, t94, t95, t96, t98, t99, t100, t101, t102, u_bool, wrap64, List.getElem?_eq_getElem, e, e2]
                            repeat' first | (refine ⟨fun _ => ?_, fun _ => ?_⟩) | (refine ⟨by omega, ?_⟩) | (intro _)
                            all_goals (refine hK _ ?_; clear hK K)
                            all_goals
                              refine AW_ret (end_s ?_)
                              simp (disch := omega) [creg_nil, creg_op, creg_gd, cO, cR, cG_bool, cG_undef, ↓spl_tt, ↓spl_tf, ↓spl_ft, ↓spl_ff, spl_ct, spl_cf, putC, nmC, aop, ev, cv, updL, upd_app, upd_upd, lkE_app, lk_nil, lk_cons, aLen, aBuiltin, aBin, aIntBin, aFieldAddr, placeOf, aLoad, cellsAt, aUn, aIndexAddr, st0, valCells, isOne, Value.oneCell', aStore, setCells, List.getElem?_cons_zero, List.getElem?_cons_succ, Option.getD_some, formOb_nn, aBuild, parts, fillA, placesOf, aField, aIndex, aSlice, optIdx, aStrBin, aMakeSlice, viewCells, viewCell, arrN, frzU, t2, t3, t4, t5, t6, t7, t8, t9, t10, t11, t12, t13, t14, t15, t16, t17, t18, t19, t21, t22, t28, t29, t30, t33, t39, t45, t46, t47, t50, t51, t52, t56, t66, t67, t71, t77, t80, t81, t86, t88, t89, t90, t91, t92, t94, t95, t96, t98, t99, t100, t101, t102, u_bool, wrap64, List.getElem?_eq_getElem, e, e2, endR_some, am0_gg, am0_ss, am0_ll, am1_gg, am1_ss, am1_ll, am1_nl, am1_al, am2_gg, am2_ss, am2_ll, am2_nl, am2_al, am2_ff, am1s_nn, am1s_cc, am2s_nn, am2s_cc, amRs_one, amRs_two', amRs_thr, resAll_nil, resAll_tmp, resAll_cell]
                              all_goals first | omega | (simp_all; done) | (simp [List.take_of_length_le]; done) | ((try simp_all); (try simp (disch := omega) only [wrap64, Int.tdiv_eq_ediv_of_nonneg, Int.tmod_eq_emod_of_nonneg, and_true, true_and]); done) | ((try simp_all); (try simp (disch := omega) only [wrap64, Int.tdiv_eq_ediv_of_nonneg, Int.tmod_eq_emod_of_nonneg, and_true, true_and] at *); omega)
                        · try simp at hc14
                          all_goals
                            refine AW_skip ?_
                            refine AW_id ?_
                            refine AW_seq ?_
                            refine AW_r rfl rfl fun K hK => ?_
                            simp (disch := omega) [creg_nil, creg_op, creg_gd, cO, cR, cG_bool, cG_undef, ↓spl_tt, ↓spl_tf, ↓spl_ft, ↓spl_ff, spl_ct, spl_cf, putC, nmC, aop, ev, cv, updL, upd_app, upd_upd, lkE_app, lk_nil, lk_cons, aLen, aBuiltin, aBin, aIntBin, aFieldAddr, placeOf, aLoad, cellsAt, aUn, aIndexAddr, st0, valCells, isOne, Value.oneCell', aStore, setCells, List.getElem?_cons_zero, List.getElem?_cons_succ, Option.getD_some, formOb_nn, aBuild, parts, fillA, placesOf, aField, aIndex, aSlice, optIdx, aStrBin, aMakeSlice, viewCells, viewCell, arrN, frzU, t2, t3, t4, t5, t6, t7, t8, t9, t10, t11, t12, t13, t14, t15, t16, t17, t18, t19, t21, t22, t28, t29, t30, t33, t39, t45, t46, t47, t50, t51, t52, t56, t66, t67, t71, t77, t80, t81, t86, t88, t89, t90, t91, t92, t94, t95, t96, t98, t99, t100, t101, t102, u_bool, wrap64, List.getElem?_eq_getElem, e, e2]
                            repeat' first | (refine CKd_v (am2s_cons am2_sl am2s_nil) (toStringS _ (by omega)) rfl ?_; simp (disch := omega) [creg_nil, creg_op, creg_gd, cO, cR, cG_bool, cG_undef, ↓spl_tt, ↓spl_tf, ↓spl_ft, ↓spl_ff, spl_ct, spl_cf, putC, nmC, aop, ev, cv, updL, upd_app, upd_upd, lkE_app, lk_nil, lk_cons, aLen, aBuiltin, aBin, aIntBin, aFieldAddr, placeOf, aLoad, cellsAt, aUn, aIndexAddr, st0, valCells, isOne, Value.oneCell', aStore, setCells, List.getElem?_cons_zero, List.getElem?_cons_succ, Option.getD_some, formOb_nn, aBuild, parts, fillA, placesOf, aField, aIndex, aSlice, optIdx, aStrBin, aMakeSlice, viewCells, viewCell, arrN, frzU, t2, t3, t4, t5, t6, t7, t8, t9, t10, t11, t12, t13, t14, t15, t16, t17, t18, t19, t21, t22, t28, t29, t30, t33, t39, t45, t46, t47, t50, t51, t52, t56, t66, t67, t71, t77, t80, t81, t86, t88, t89, t90, t91, t92, t94, t95, t96, t98, t99, t100, t101, t102, u_bool, wrap64, List.getElem?_eq_getElem, e, e2]) | (refine CKd_v (am2s_cons am2_sl (am2s_cons am2_sl am2s_nil)) (eqStringS _ _ (by omega)) rfl ?_; simp (disch := omega) [creg_nil, creg_op, creg_gd, cO, cR, cG_bool, cG_undef, ↓spl_tt, ↓spl_tf, ↓spl_ft, ↓spl_ff, spl_ct, spl_cf, putC, nmC, aop, ev, cv, updL, upd_app, upd_upd, lkE_app, lk_nil, lk_cons, aLen, aBuiltin, aBin, aIntBin, aFieldAddr, placeOf, aLoad, cellsAt, aUn, aIndexAddr, st0, valCells, isOne, Value.oneCell', aStore, setCells, List.getElem?_cons_zero, List.getElem?_cons_succ, Option.getD_some, formOb_nn, aBuild, parts, fillA, placesOf, aField, aIndex, aSlice, optIdx, aStrBin, aMakeSlice, viewCells, viewCell, arrN, frzU, t2, t3, t4, t5, t6, t7, t8, t9, t10, t11, t12, t13, t14, t15, t16, t17, t18, t19, t21, t22, t28, t29, t30, t33, t39, t45, t46, t47, t50, t51, t52, t56, t66, t67, t71, t77, t80, t81, t86, t88, t89, t90, t91, t92, t94, t95, t96, t98, t99, t100, t101, t102, u_bool, wrap64, List.getElem?_eq_getElem, e, e2]) | (refine ⟨fun _ => ?_, fun _ => ?_⟩) | (refine ⟨by omega, ?_⟩) | (intro _)
                            all_goals (refine hK _ ?_; clear hK K)
                            all_goals
                              refine AW_cond rfl (fun hc15 => ?_) (fun hc15 => ?_)
                              · try simp at hc15
                                all_goals
                                  refine AW_r rfl rfl fun K hK => ?_
                                  simp (disch := omega) [creg_nil, creg_op, creg_gd, cO, cR, cG_bool, cG_undef, ↓spl_tt, ↓spl_tf, ↓spl_ft, ↓spl_ff, spl_ct, spl_cf, putC, nmC, aop, ev, cv, updL, upd_app, upd_upd, lkE_app, lk_nil, lk_cons, aLen, aBuiltin, aBin, aIntBin, aFieldAddr, placeOf, aLoad, cellsAt, aUn, aIndexAddr, st0, valCells, isOne, Value.oneCell', aStore, setCells, List.getElem?_cons_zero, List.getElem?_cons_succ, Option.getD_some, formOb_nn, aBuild, parts, fillA, placesOf, aField, aIndex, aSlice, optIdx, aStrBin, aMakeSlice, viewCells, viewCell, arrN, frzU, t2, t3, t4, t5, t6, t7, t8, t9, t10, t11, t12, t13, t14, t15, t16, t17, t18, t19, t21, t22, t28, t29, t30, t33, t39, t45, t46, t47, t50, t51, t52, t56, t66, t67, t71, t77, t80, t81, t86, t88, t89, t90, t91, t92, t94, t95, t96, t98, t99, t100, t101, t102, u_bool, wrap64, List.getElem?_eq_getElem, e, e2]
                                  repeat' first | (refine ⟨fun _ => ?_, fun _ => ?_⟩) | (refine ⟨by omega, ?_⟩) | (intro _)
                                  all_goals (refine hK _ ?_; clear hK K)
                                  all_goals
                                    refine AW_ret (end_s ?_)
                                    simp (disch := omega) [creg_nil, creg_op, creg_gd, cO, cR, cG_bool, cG_undef, ↓spl_tt, ↓spl_tf, ↓spl_ft, ↓spl_ff, spl_ct, spl_cf, putC, nmC, aop, ev, cv, updL, upd_app, upd_upd, lkE_app, lk_nil, lk_cons, aLen, aBuiltin, aBin, aIntBin, aFieldAddr, placeOf, aLoad, cellsAt, aUn, aIndexAddr, st0, valCells, isOne, Value.oneCell', aStore, setCells, List.getElem?_cons_zero, List.getElem?_cons_succ, Option.getD_some, formOb_nn, aBuild, parts, fillA, placesOf, aField, aIndex, aSlice, optIdx, aStrBin, aMakeSlice, viewCells, viewCell, arrN, frzU, t2, t3, t4, t5, t6, t7, t8, t9, t10, t11, t12, t13, t14, t15, t16, t17, t18, t19, t21, t22, t28, t29, t30, t33, t39, t45, t46, t47, t50, t51, t52, t56, t66, t67, t71, t77, t80, t81, t86, t88, t89, t90, t91, t92, t94, t95, t96, t98, t99, t100, t101, t102, u_bool, wrap64, List.getElem?_eq_getElem, e, e2, endR_some, am0_gg, am0_ss, am0_ll, am1_gg, am1_ss, am1_ll, am1_nl, am1_al, am2_gg, am2_ss, am2_ll, am2_nl, am2_al, am2_ff, am1s_nn, am1s_cc, am2s_nn, am2s_cc, amRs_one, amRs_two', amRs_thr, resAll_nil, resAll_tmp, resAll_cell]
                                    all_goals first | omega | (simp_all; done) | (simp [List.take_of_length_le]; done) | ((try simp_all); (try simp (disch := omega) only [wrap64, Int.tdiv_eq_ediv_of_nonneg, Int.tmod_eq_emod_of_nonneg, and_true, true_and]); done) | ((try simp_all); (try simp (disch := omega) only [wrap64, Int.tdiv_eq_ediv_of_nonneg, Int.tmod_eq_emod_of_nonneg, and_true, true_and] at *); omega)
                              · try simp at hc15
                                all_goals
                                  refine AW_skip ?_
                                  refine AW_id ?_
                                  refine AW_r rfl rfl fun K hK => ?_
                                  simp (disch := omega) [creg_nil, creg_op, creg_gd, cO, cR, cG_bool, cG_undef, ↓spl_tt, ↓spl_tf, ↓spl_ft, ↓spl_ff, spl_ct, spl_cf, putC, nmC, aop, ev, cv, updL, upd_app, upd_upd, lkE_app, lk_nil, lk_cons, aLen, aBuiltin, aBin, aIntBin, aFieldAddr, placeOf, aLoad, cellsAt, aUn, aIndexAddr, st0, valCells, isOne, Value.oneCell', aStore, setCells, List.getElem?_cons_zero, List.getElem?_cons_succ, Option.getD_some, formOb_nn, aBuild, parts, fillA, placesOf, aField, aIndex, aSlice, optIdx, aStrBin, aMakeSlice, viewCells, viewCell, arrN, frzU, t2, t3, t4, t5, t6, t7, t8, t9, t10, t11, t12, t13, t14, t15, t16, t17, t18, t19, t21, t22, t28, t29, t30, t33, t39, t45, t46, t47, t50, t51, t52, t56, t66, t67, t71, t77, t80, t81, t86, t88, t89, t90, t91, t92, t94, t95, t96, t98, t99, t100, t101, t102, u_bool, wrap64, List.getElem?_eq_getElem, e, e2]
                                  repeat' first | (refine ⟨fun _ => ?_, fun _ => ?_⟩) | (refine ⟨by omega, ?_⟩) | (intro _)
                                  all_goals (refine hK _ ?_; clear hK K)
                                  all_goals
                                    refine AW_ret (end_s ?_)
                                    simp (disch := omega) [creg_nil, creg_op, creg_gd, cO, cR, cG_bool, cG_undef, ↓spl_tt, ↓spl_tf, ↓spl_ft, ↓spl_ff, spl_ct, spl_cf, putC, nmC, aop, ev, cv, updL, upd_app, upd_upd, lkE_app, lk_nil, lk_cons, aLen, aBuiltin, aBin, aIntBin, aFieldAddr, placeOf, aLoad, cellsAt, aUn, aIndexAddr, st0, valCells, isOne, Value.oneCell', aStore, setCells, List.getElem?_cons_zero, List.getElem?_cons_succ, Option.getD_some, formOb_nn, aBuild, parts, fillA, placesOf, aField, aIndex, aSlice, optIdx, aStrBin, aMakeSlice, viewCells, viewCell, arrN, frzU, t2, t3, t4, t5, t6, t7, t8, t9, t10, t11, t12, t13, t14, t15, t16, t17, t18, t19, t21, t22, t28, t29, t30, t33, t39, t45, t46, t47, t50, t51, t52, t56, t66, t67, t71, t77, t80, t81, t86, t88, t89, t90, t91, t92, t94, t95, t96, t98, t99, t100, t101, t102, u_bool, wrap64, List.getElem?_eq_getElem, e, e2, endR_some, am0_gg, am0_ss, am0_ll, am1_gg, am1_ss, am1_ll, am1_nl, am1_al, am2_gg, am2_ss, am2_ll, am2_nl, am2_al, am2_ff, am1s_nn, am1s_cc, am2s_nn, am2s_cc, amRs_one, amRs_two', amRs_thr, resAll_nil, resAll_tmp, resAll_cell]
                                    all_goals first | omega | (simp_all; done) | (simp [List.take_of_length_le]; done) | ((try simp_all); (try simp (disch := omega) only [wrap64, Int.tdiv_eq_ediv_of_nonneg, Int.tmod_eq_emod_of_nonneg, and_true, true_and]); done) | ((try simp_all); (try simp (disch := omega) only [wrap64, Int.tdiv_eq_ediv_of_nonneg, Int.tmod_eq_emod_of_nonneg, and_true, true_and] at *); omega)
end Go.Proofs.Ythfajpgocmpbpaa.Vs
