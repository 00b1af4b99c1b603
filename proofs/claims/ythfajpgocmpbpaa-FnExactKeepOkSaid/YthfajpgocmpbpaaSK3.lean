import Derived.Test.YthfajpgocmpbpaaSK1
open Go Go.Proofs Go.Proofs.Ythfajpgocmpbpaa.Vs
namespace Go.Proofs.Ythfajpgocmpbpaa.Vs
set_option linter.unusedVariables false
set_option linter.unusedSimpArgs false
set_option linter.unusedSectionVars false
set_option linter.unnecessarySimpa false
set_option linter.all false
set_option linter.unusedSimpArgs false
theorem toIntS (xs : List Int) (hn : xs.length ≤ 1048576) : PCall Try.prog 17 [.sl 1 (xs.map cI)] (.sl 1 (xs.map cI)) := by
  refine gcall_of_walk Try.func17 (by rfl) (by rfl) (by rw [Try.ntmps17]; exact Nat.le_of_ble_eq_true rfl) rfl (by decide) ?_
  rw [Try.ntmps17]
  refine AW_r rfl rfl fun K hK => ?_
  simp [creg_nil, creg_op, cO, cR, putC, nmC, aop, ev, cv, updL, upd_app]
  refine hK _ ?_; clear hK K
  refine AW_r rfl rfl fun K hK => ?_
  simp [creg_nil, creg_op, cO, cR, putC, nmC, aop, ev, cv, updL, upd_app, aBuiltin, aLen, t28, t3, aMakeSlice, st0, isOne, Value.oneCell', formOb]
  refine ⟨by omega, hK _ ?_⟩; clear hK K
  refine AW_k [(0, .sl 1 (xs.map cI)), (3, .arr 128 0 xs.length)] (by simp [KpE, upd_app, lkE_app, lk_cons]) ?_
  refine AW_seq (AW_r rfl rfl fun K hK => ?_)
  simp [creg_nil, creg_op, cO, cR, putC, nmC, aop, ev, cv, updL, upd_app]
  refine hK _ ?_; clear hK K
  refine AW_block ?_
  refine AW_loopS (fun m s => ∃ (i : Nat) (ys : List (List AV)), m = xs.length - i ∧ i ≤ xs.length ∧ ys.length = xs.length ∧ (∀ j, j < i → ys[j]? = (xs.map cI)[j]?) ∧ (∀ y ∈ ys, y.length = 1) ∧ s = { env := lkE [(0, .sl 1 (xs.map cI)), (3, .arr 128 0 xs.length), (4, .g (.int .i64 i))], ob := upd (formOb [] []) 128 (some (.flat 1 ys)) }) ?_ ?_
  · exact ⟨_, LeS.kp [(0, .sl 1 (xs.map cI)), (3, .arr 128 0 xs.length), (4, .g (.int .i64 (0 : Nat)))] (by simp [KpE, upd_app, lkE_app, lk_cons]), _, 0, _, rfl, Nat.zero_le _, by simp, by simp, by simp, rfl⟩
  · rintro m s ⟨i, ys, rfl, hi, hl, hpre, hone, rfl⟩
    refine AW_seq (AW_r rfl rfl fun K hK => ?_)
    simp [creg_nil, creg_op, cO, cR, putC, nmC, aop, ev, cv, updL, upd_app, lkE_app, lk_nil, lk_cons, aBuiltin, aLen, t28, t3, aBin, aIntBin]
    refine hK _ ?_; clear hK K
    refine AW_cond (t := decide (i < xs.length)) (by simp [ev, upd_app]) (fun h5 => AW_skip ?_) (fun h5 => AW_exit ?_)
    · have h5 : i < xs.length := by simpa using h5
      refine AW_k [(0, .sl 1 (xs.map cI)), (3, .arr 128 0 xs.length), (4, .g (.int .i64 i))] (by simp [KpE, upd_app, lkE_app, lk_cons]) ?_
      obtain ⟨c, h6⟩ : ∃ c, ys[i]?.getD [] = [c] := by
        have : (ys.getD i []).length = 1 := hone _ (by simp [List.getD, hl, h5])
        rw [List.getD_eq_getElem?_getD] at this
        exact List.length_eq_one_iff.1 this
      refine AW_seq (AW_block (AW_re rfl rfl fun K hK => ?_))
      simp [creg_nil, creg_op, cO, cR, putC, nmC, aop, ev, cv, updL, upd_app, lkE_app, lk_nil, lk_cons, aBuiltin, aLen, t28, t3, aBin, aIntBin, aIndexAddr, aLoad, cellsAt, h5, cI, upd_upd, aStore, valCells, viewCells, viewCell, isOne, Value.oneCell', arrN, frzU, setCells]
      refine ⟨by omega, hK _ ?_⟩; clear hK K
      refine AW_k [(0, .sl 1 (xs.map cI)), (3, .arr 128 0 xs.length), (4, .g (.int .i64 i))] (by simp [KpE, upd_app, lkE_app, lk_cons]; try rfl) ?_
      refine AW_re rfl rfl fun K hK => ?_
      simp [creg_nil, creg_op, cO, cR, putC, nmC, aop, ev, cv, updL, upd_app, lkE_app, lk_nil, lk_cons, aBin, aIntBin]
      rw [wrap64 (by omega) (by omega)]
      refine hK _ ⟨_, LeS.kp [(0, .sl 1 (xs.map cI)), (3, .arr 128 0 xs.length), (4, .g (.int .i64 ((i + 1 : Nat) : Int)))] (by simp [KpE, upd_app, lkE_app, lk_cons]; try rfl), _, ?_, i + 1, ys.set i (cI (xs.getD i 0)), rfl, h5, by simp [hl], ?_, ?_, ?_⟩
      · omega
      · intro j hj
        by_cases hji : j = i
        · subst hji; simp [hl, h5, cI]
        · rw [List.getElem?_set_ne (by omega)]; exact hpre j (by omega)
      · intro y hy
        rcases List.mem_or_eq_of_mem_set hy with hy | rfl
        · exact hone y hy
        · rfl
      · simp [h6, cI, h5]
    · have h5 : i = xs.length := by have : ¬ i < xs.length := by simpa using h5
                                    omega
      subst h5
      have hys : ys = xs.map cI := List.ext_getElem? fun j => by
        by_cases hj : j < xs.length
        · exact hpre j hj
        · rw [List.getElem?_eq_none (by omega), List.getElem?_eq_none (by simp; omega)]
      subst hys
      refine AW_r rfl rfl fun K hK => ?_
      simp [creg_nil, creg_op, cO, cR, putC, nmC, aop, ev, cv, updL, upd_app, lkE_app, lk_nil, lk_cons]
      refine hK _ (AW_ret (end_m rfl rfl ?_))
      simp only [upd_app]
      refine am2_arr (ys := xs.map cI) (.inl ?_) (by simp) (by simp [List.take_of_length_le])
      simp [upd_app]
end Go.Proofs.Ythfajpgocmpbpaa.Vs
