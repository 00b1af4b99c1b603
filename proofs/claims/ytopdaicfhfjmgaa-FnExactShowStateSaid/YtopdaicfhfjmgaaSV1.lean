import Derived.Test.YtopdaicfhfjmgaaSX3
open Go Go.Proofs Go.Proofs.Ytopdaicfhfjmgaa.Vs
namespace Go.Proofs.Ytopdaicfhfjmgaa.Vs
set_option linter.unusedVariables false
set_option linter.unusedSimpArgs false
set_option linter.unusedSectionVars false
set_option linter.unnecessarySimpa false
set_option linter.all false
set_option linter.unusedSimpArgs false
set_option linter.unusedVariables false
set_option maxRecDepth 100000
/-- Seven bits a byte. -/
def varB (n : Nat) : List UInt8 := if n < 128 then [UInt8.ofNat n] else UInt8.ofNat (128 + n % 128) :: varB (n / 128)
termination_by n
decreasing_by omega
theorem varB_lt {n : Nat} (h : n < 128) : varB n = [UInt8.ofNat n] := by unfold varB; rw [if_pos h]
theorem varB_ge {n : Nat} (h : ¬ n < 128) : varB n = UInt8.ofNat (128 + n % 128) :: varB (n / 128) := by rw [varB]; rw [if_neg h]
theorem varB_len : ∀ (k n : Nat), n < 128 ^ (k + 1) → (varB n).length ≤ k + 1
  | 0, n, h => by rw [varB_lt (by simpa using h)]; simp
  | k + 1, n, h => by
    by_cases h2 : n < 128
    · rw [varB_lt h2]; simp
    · rw [varB_ge h2]
      have := varB_len k (n / 128) (by rw [Nat.pow_succ] at h; omega)
      simp; omega
def varZ (n : Int) : List UInt8 := if 0 ≤ n ∧ n ≤ 562949953421311 then varB n.toNat else []
theorem varZ_len (n : Int) : (varZ n).length ≤ 7 := by
  unfold varZ
  split
  · exact varB_len 6 n.toNat (by rename_i h; have : (128 : Nat) ^ 7 = 562949953421312 := by decide
                                 omega)
  · simp
def cB8 (n : Int) : List AV := [.g (.int .u8 n)]
theorem numsOf_map : ∀ ns : List Int, numsOf (ns.map cB8) = some ns
  | [] => rfl
  | n :: ns => by
    have := numsOf_map ns
    simp only [List.map_cons, cB8, numsOf] at this ⊢
    rw [this]; rfl
theorem numsOf_app : ∀ (ns : List Int) (m : Int), numsOf (ns.map cB8 ++ [[.g (.int .u8 m)]]) = some (ns ++ [m]) := by
  intro ns m
  have := numsOf_map (ns ++ [m])
  simpa [cB8] using this
theorem strN_app (ns ms : List Int) : strN (ns ++ ms) = strN ns ++ strN ms := by simp [strN]
theorem strN_len (ns : List Int) : (strN ns).length = ns.length := by simp [strN]
theorem tk1 (acc : List Int) : List.take acc.length (acc.map cB8) = acc.map cB8 := List.take_of_length_le (by simp)
theorem tk2 (acc : List Int) (y : List AV) : List.take (acc.length + 1) (acc.map cB8 ++ [y]) = acc.map cB8 ++ [y] := List.take_of_length_le (by simp)
theorem tdivN (m : Nat) : (m : Int).tdiv 128 = ((m / 128 : Nat) : Int) := by rw [Int.tdiv_eq_ediv_of_nonneg (by omega)]; rfl
theorem tmodN (m : Nat) : (m : Int).tmod 128 = ((m % 128 : Nat) : Int) := by rw [Int.tmod_eq_emod_of_nonneg (by omega)]; rfl
theorem wrap8 {n : Int} (h0 : 0 ≤ n) (h1 : n < 256) : IntKind.u8.wrap n = n := by
  simp [IntKind.wrap, IntKind.bits, IntKind.signed]
  omega
theorem shrN (m : Nat) : (m : Int).fdiv (2 ^ min 7 IntKind.i64.bits) = ((m / 128 : Nat) : Int) := by
  have : min 7 IntKind.i64.bits = 7 := rfl
  rw [this, Int.fdiv_eq_ediv_of_nonneg _ (by decide)]
  rfl
theorem bothN (m : Nat) : IntKind.i64.wrap (((IntKind.i64.wrap ((m % 2 ^ IntKind.i64.bits &&& 127 % 2 ^ IntKind.i64.bits : Nat) : Int) % 2 ^ IntKind.i64.bits).toNat ||| 128 % 2 ^ IntKind.i64.bits : Nat) : Int) = ((128 + m % 128 : Nat) : Int) := by
  have hb : IntKind.i64.bits = 64 := rfl
  rw [hb]
  have h1 : m % 2 ^ 64 &&& 127 % 2 ^ 64 = m % 128 := by
    have := Nat.and_two_pow_sub_one_eq_mod (m % 2 ^ 64) 7
    have e : (127 : Nat) % 2 ^ 64 = 2 ^ 7 - 1 := by decide
    rw [e, this]; omega
  rw [h1, wrap64 (n := ((m % 128 : Nat) : Int)) (by omega) (by omega)]
  have h2 : (((m % 128 : Nat) : Int) % 2 ^ 64).toNat = m % 128 := by omega
  rw [h2]
  have h3 : m % 128 ||| 128 % 2 ^ 64 = 128 + m % 128 := by
    have := Nat.two_pow_add_eq_or_of_lt (i := 7) (b := m % 128) (by omega) 1
    rw [Nat.or_comm, show (128 : Nat) % 2 ^ 64 = 2 ^ 7 * 1 by decide, ← this]
  rw [h3, wrap64 (by omega) (by omega)]
theorem strN_one (acc : List Int) (m : Nat) : strN (acc ++ [(m : Int)]) = strN acc ++ [UInt8.ofNat m] := by simp [strN]
theorem specVar (n : Int) : PCall Try.prog 51 [(.g (.int .i64 (n)))] (.s (varZ n)) := by
  by_cases hn : 0 ≤ n ∧ n ≤ 562949953421311
  · have hz : varZ n = varB n.toNat := by unfold varZ; rw [if_pos hn]
    have hl := varZ_len n
    rw [hz] at hl ⊢
    refine gcall_of_walk Try.func51 (by rfl) (by rfl) (by rw [Try.ntmps51]; exact Nat.le_of_ble_eq_true rfl) rfl (by decide) ?_
    rw [Try.ntmps51]
    refine AW_k [(0, _)] ⟨rfl, trivial⟩ ?_
    refine AW_r rfl rfl fun K hK => ?_
    simp (disch := omega) [wrap64, List.getElem?_eq_getElem, toNat_pred, wrap8, aNews, aAppend, aBuildSlice, chunks, tk1, tk2, numsOf_app, tdivN, tmodN]
    repeat' first | (exfalso; omega) | (refine ⟨fun _ => ?_, fun _ => ?_⟩) | (refine ⟨by omega, ?_⟩) | (intro _)
    all_goals (refine hK _ ?_; clear hK K)
    all_goals
      refine AW_seq ?_
      refine AW_r rfl rfl fun K hK => ?_
      simp (disch := omega) [wrap64, List.getElem?_eq_getElem, toNat_pred, wrap8, aNews, aAppend, aBuildSlice, chunks, tk1, tk2, numsOf_app, tdivN, tmodN]
      repeat' first | (exfalso; omega) | (refine CKd_v (am2s_cons am2_g (am2s_cons am2_g (am2s_cons am2_g am2s_nil))) (l1In _ _ _) rfl ?_; simp (disch := omega) [wrap64, List.getElem?_eq_getElem, toNat_pred, wrap8, aNews, aAppend, aBuildSlice, chunks, tk1, tk2, numsOf_app, tdivN, tmodN]) | (refine ⟨fun _ => ?_, fun _ => ?_⟩) | (refine ⟨by omega, ?_⟩) | (intro _)
      all_goals (refine hK _ ?_; clear hK K)
      all_goals
        refine AW_cond rfl (fun hc1 => ?_) (fun hc1 => ?_)
        · try simp [decB_true, decB_false, eqB_true, eqB_false] at hc1
          all_goals
            refine AW_r rfl rfl fun K hK => ?_
            simp (disch := omega) [wrap64, List.getElem?_eq_getElem, toNat_pred, wrap8, aNews, aAppend, aBuildSlice, chunks, tk1, tk2, numsOf_app, tdivN, tmodN]
            repeat' first | (exfalso; omega) | (refine ⟨fun _ => ?_, fun _ => ?_⟩) | (refine ⟨by omega, ?_⟩) | (intro _)
            all_goals (refine hK _ ?_; clear hK K)
            all_goals
              refine AW_ret (end_s ?_)
              simp (disch := omega) [wrap64, List.getElem?_eq_getElem, toNat_pred, wrap8, aNews, aAppend, aBuildSlice, chunks, tk1, tk2, numsOf_app, tdivN, tmodN]
              all_goals first | (rw [strN_one, ← hv, varB_lt (by omega)]; done)
        · try simp [decB_true, decB_false, eqB_true, eqB_false] at hc1
          all_goals
            refine AW_skip ?_
            refine AW_id ?_
            refine AW_r rfl rfl fun K hK => ?_
            simp (disch := omega) [wrap64, List.getElem?_eq_getElem, toNat_pred, wrap8, aNews, aAppend, aBuildSlice, chunks, tk1, tk2, numsOf_app, tdivN, tmodN]
            repeat' first | (exfalso; omega) | (refine ⟨fun _ => ?_, fun _ => ?_⟩) | (refine ⟨by omega, ?_⟩) | (intro _)
            all_goals (refine hK _ ?_; clear hK K)
            all_goals
              refine AW_seq ?_
              refine AW_block ?_
              refine AW_loopS (fun mM sS => ∃ (acc : List Int) (m : Nat), mM = m + 1 ∧ (strN acc ++ varB m = varB n.toNat ∧ m ≤ n.toNat) ∧ sS = { env := lkE [(0, (.g (.int .i64 ((m : Nat))))), (3, .arr 128 0 acc.length)], ob := lk [(128, .flat 1 (acc.map cB8))] }) ?_ ?_
              · refine ⟨_, LeS.kr [(128, 128)] [(0, (.g (.int .i64 (((n.toNat) : Nat))))), (3, .arr 128 0 ([]).length)] [(128, .flat 1 (([]).map cB8))] (by simp [KpR, renV2, renV, upd_app, lkE_app, lk_cons, lk_nil, cB8]; try omega) (by simp [KpOR, renO, renV, upd_app, lk_cons, lk_nil, formOb_nn, cB8]; try rfl) (by rfl) (by rfl) (by simp) (by simp) (by rfl) (by simp [forms]), _, [], n.toNat, rfl, ?_, rfl⟩
                · simp [strN]
              · rintro mM sS ⟨acc, m, rfl, ⟨hv, hm⟩, rfl⟩
                have hal : acc.length ≤ 7 := by have := congrArg List.length hv; simp [strN_len] at this; omega
                refine AW_seq ?_
                refine AW_r rfl rfl fun K hK => ?_
                simp (disch := omega) [wrap64, List.getElem?_eq_getElem, toNat_pred, wrap8, aNews, aAppend, aBuildSlice, chunks, tk1, tk2, numsOf_app, tdivN, tmodN]
                repeat' first | (exfalso; omega) | (refine ⟨fun _ => ?_, fun _ => ?_⟩) | (refine ⟨by omega, ?_⟩) | (intro _)
                all_goals (refine hK _ ?_; clear hK K)
                all_goals
                  refine AW_cond rfl (fun hc2 => ?_) (fun hc2 => ?_)
                  · try simp [decB_true, decB_false, eqB_true, eqB_false] at hc2
                    all_goals
                      have hge := varB_ge (n := m) (by omega)
                      refine AW_skip ?_
                      refine AW_id ?_
                      refine AW_block ?_
                      refine AW_r rfl rfl fun K hK => ?_
                      simp (disch := omega) [wrap64, List.getElem?_eq_getElem, toNat_pred, wrap8, aNews, aAppend, aBuildSlice, chunks, tk1, tk2, numsOf_app, tdivN, tmodN]
                      repeat' first | (exfalso; omega) | (refine ⟨fun _ => ?_, fun _ => ?_⟩) | (refine ⟨by omega, ?_⟩) | (intro _)
                      all_goals (refine hK _ ?_; clear hK K)
                      all_goals
                        refine AW_re rfl rfl fun K hK => ?_
                        simp (disch := omega) [wrap64, List.getElem?_eq_getElem, toNat_pred, wrap8, aNews, aAppend, aBuildSlice, chunks, tk1, tk2, numsOf_app, tdivN, tmodN]
                        repeat' first | (exfalso; omega) | (refine ⟨fun _ => ?_, fun _ => ?_⟩) | (refine ⟨by omega, ?_⟩) | (intro _)
                        all_goals (refine hK _ ?_; clear hK K)
                        all_goals
                          refine ⟨_, LeS.kr [(128, 272)] [(0, (.g (.int .i64 (((m / 128) : Nat))))), (3, .arr 128 0 (acc ++ [128 + ((m % 128 : Nat) : Int)]).length)] [(128, .flat 1 ((acc ++ [128 + ((m % 128 : Nat) : Int)]).map cB8))] (by simp [KpR, renV2, renV, upd_app, lkE_app, lk_cons, lk_nil, cB8]; try simp (disch := omega) [wrap64, cB8]; try omega) (by simp [KpOR, renO, renV, upd_app, lk_cons, lk_nil, formOb_nn, cB8]; try rfl) (by rfl) (by rfl) (by simp) (by simp) (by rfl) (by simp [forms]), _, ?_, acc ++ [128 + ((m % 128 : Nat) : Int)], m / 128, rfl, ?_, rfl⟩
                          · omega
                          · refine ⟨?_, by omega⟩
                            rw [hge] at hv
                            rw [← hv, show (128 + ((m % 128 : Nat) : Int)) = ((128 + m % 128 : Nat) : Int) by omega, strN_one]
                            simp
                  · try simp [decB_true, decB_false, eqB_true, eqB_false] at hc2
                    all_goals
                      refine AW_exit ?_
                      refine AW_id ?_
                      refine AW_r rfl rfl fun K hK => ?_
                      simp (disch := omega) [wrap64, List.getElem?_eq_getElem, toNat_pred, wrap8, aNews, aAppend, aBuildSlice, chunks, tk1, tk2, numsOf_app, tdivN, tmodN]
                      repeat' first | (exfalso; omega) | (refine ⟨fun _ => ?_, fun _ => ?_⟩) | (refine ⟨by omega, ?_⟩) | (intro _)
                      all_goals (refine hK _ ?_; clear hK K)
                      all_goals
                        refine AW_ret (end_s ?_)
                        simp (disch := omega) [wrap64, List.getElem?_eq_getElem, toNat_pred, wrap8, aNews, aAppend, aBuildSlice, chunks, tk1, tk2, numsOf_app, tdivN, tmodN]
                        all_goals first | (rw [strN_one, ← hv, varB_lt (by omega)]; done)
  · have hz : varZ n = [] := by unfold varZ; rw [if_neg hn]
    rw [hz]
    have hn' : n < 0 ∨ 562949953421311 < n := by omega
    refine gcall_of_walk Try.func51 (by rfl) (by rfl) (by rw [Try.ntmps51]; exact Nat.le_of_ble_eq_true rfl) rfl (by decide) ?_
    rw [Try.ntmps51]
    refine AW_k [(0, _)] ⟨rfl, trivial⟩ ?_
    refine AW_r rfl rfl fun K hK => ?_
    simp (disch := omega) [wrap64, List.getElem?_eq_getElem, toNat_pred, wrap8, aNews, aAppend, aBuildSlice, chunks, tk1, tk2, numsOf_app, tdivN, tmodN]
    refine hK _ ?_; clear hK K
    refine AW_seq (AW_r rfl rfl fun K hK => ?_)
    simp (disch := omega) [wrap64, List.getElem?_eq_getElem, toNat_pred, wrap8, aNews, aAppend, aBuildSlice, chunks, tk1, tk2, numsOf_app, tdivN, tmodN]
    refine CKd_v (am2s_cons am2_g (am2s_cons am2_g (am2s_cons am2_g am2s_nil))) (l1In _ _ _) rfl ?_
    simp (disch := omega) [wrap64, List.getElem?_eq_getElem, toNat_pred, wrap8, aNews, aAppend, aBuildSlice, chunks, tk1, tk2, numsOf_app, tdivN, tmodN]
    refine hK _ ?_; clear hK K
    refine AW_cond (t := true) (by simp; omega) (fun _ => ?_) (fun h => by simp at h)
    refine AW_r rfl rfl fun K hK => ?_
    simp (disch := omega) [wrap64, List.getElem?_eq_getElem, toNat_pred, wrap8, aNews, aAppend, aBuildSlice, chunks, tk1, tk2, numsOf_app, tdivN, tmodN]
    repeat' first | (exfalso; omega) | (refine ⟨fun _ => ?_, fun _ => ?_⟩) | (refine ⟨by omega, ?_⟩) | (intro _)
    all_goals (refine hK _ ?_; clear hK K)
    all_goals
      refine AW_ret (end_s ?_)
      simp (disch := omega) [wrap64, List.getElem?_eq_getElem, toNat_pred, wrap8, aNews, aAppend, aBuildSlice, chunks, tk1, tk2, numsOf_app, tdivN, tmodN]
      all_goals first | omega | (simp_all; done) | (simp [List.take_of_length_le]; done) | ((try simp_all); (try simp (disch := omega) only [wrap64, Int.tdiv_eq_ediv_of_nonneg, Int.tmod_eq_emod_of_nonneg, and_true, true_and]); done) | ((try simp_all); (try simp (disch := omega) only [wrap64, Int.tdiv_eq_ediv_of_nonneg, Int.tmod_eq_emod_of_nonneg, and_true, true_and] at *); omega)
theorem implVar (n : Int) : PCall Try.prog 54 [(.g (.int .i64 (n)))] (.s (varZ n)) := by
  by_cases hn : 0 ≤ n ∧ n ≤ 562949953421311
  · have hz : varZ n = varB n.toNat := by unfold varZ; rw [if_pos hn]
    have hl := varZ_len n
    rw [hz] at hl ⊢
    refine gcall_of_walk Try.func54 (by rfl) (by rfl) (by rw [Try.ntmps54]; exact Nat.le_of_ble_eq_true rfl) rfl (by decide) ?_
    rw [Try.ntmps54]
    refine AW_k [(0, _)] ⟨rfl, trivial⟩ ?_
    refine AW_r rfl rfl fun K hK => ?_
    simp (disch := omega) [wrap64, List.getElem?_eq_getElem, toNat_pred, wrap8, aNews, aAppend, aBuildSlice, chunks, tk1, tk2, numsOf_app, bothN, shrN]
    repeat' first | (exfalso; omega) | (refine ⟨fun _ => ?_, fun _ => ?_⟩) | (refine ⟨by omega, ?_⟩) | (intro _)
    all_goals (refine hK _ ?_; clear hK K)
    all_goals
      refine AW_seq ?_
      refine AW_r rfl rfl fun K hK => ?_
      simp (disch := omega) [wrap64, List.getElem?_eq_getElem, toNat_pred, wrap8, aNews, aAppend, aBuildSlice, chunks, tk1, tk2, numsOf_app, bothN, shrN]
      repeat' first | (exfalso; omega) | (refine CKd_v (am2s_cons am2_g (am2s_cons am2_g (am2s_cons am2_g am2s_nil))) (within _ _ _) rfl ?_; simp (disch := omega) [wrap64, List.getElem?_eq_getElem, toNat_pred, wrap8, aNews, aAppend, aBuildSlice, chunks, tk1, tk2, numsOf_app, bothN, shrN]) | (refine ⟨fun _ => ?_, fun _ => ?_⟩) | (refine ⟨by omega, ?_⟩) | (intro _)
      all_goals (refine hK _ ?_; clear hK K)
      all_goals
        refine AW_cond rfl (fun hc3 => ?_) (fun hc3 => ?_)
        · try simp [decB_true, decB_false, eqB_true, eqB_false] at hc3
          all_goals
            refine AW_r rfl rfl fun K hK => ?_
            simp (disch := omega) [wrap64, List.getElem?_eq_getElem, toNat_pred, wrap8, aNews, aAppend, aBuildSlice, chunks, tk1, tk2, numsOf_app, bothN, shrN]
            repeat' first | (exfalso; omega) | (refine ⟨fun _ => ?_, fun _ => ?_⟩) | (refine ⟨by omega, ?_⟩) | (intro _)
            all_goals (refine hK _ ?_; clear hK K)
            all_goals
              refine AW_ret (end_s ?_)
              simp (disch := omega) [wrap64, List.getElem?_eq_getElem, toNat_pred, wrap8, aNews, aAppend, aBuildSlice, chunks, tk1, tk2, numsOf_app, bothN, shrN]
              all_goals first | (rw [strN_one, ← hv, varB_lt (by omega)]; done)
        · try simp [decB_true, decB_false, eqB_true, eqB_false] at hc3
          all_goals
            refine AW_skip ?_
            refine AW_id ?_
            refine AW_r rfl rfl fun K hK => ?_
            simp (disch := omega) [wrap64, List.getElem?_eq_getElem, toNat_pred, wrap8, aNews, aAppend, aBuildSlice, chunks, tk1, tk2, numsOf_app, bothN, shrN]
            repeat' first | (exfalso; omega) | (refine ⟨fun _ => ?_, fun _ => ?_⟩) | (refine ⟨by omega, ?_⟩) | (intro _)
            all_goals (refine hK _ ?_; clear hK K)
            all_goals
              refine AW_seq ?_
              refine AW_block ?_
              refine AW_loopS (fun mM sS => ∃ (acc : List Int) (m : Nat), mM = m + 1 ∧ (strN acc ++ varB m = varB n.toNat ∧ m ≤ n.toNat) ∧ sS = { env := lkE [(0, (.g (.int .i64 ((m : Nat))))), (3, .arr 128 0 acc.length)], ob := lk [(128, .flat 1 (acc.map cB8))] }) ?_ ?_
              · refine ⟨_, LeS.kr [(128, 128)] [(0, (.g (.int .i64 (((n.toNat) : Nat))))), (3, .arr 128 0 ([]).length)] [(128, .flat 1 (([]).map cB8))] (by simp [KpR, renV2, renV, upd_app, lkE_app, lk_cons, lk_nil, cB8]; try omega) (by simp [KpOR, renO, renV, upd_app, lk_cons, lk_nil, formOb_nn, cB8]; try rfl) (by rfl) (by rfl) (by simp) (by simp) (by rfl) (by simp [forms]), _, [], n.toNat, rfl, ?_, rfl⟩
                · simp [strN]
              · rintro mM sS ⟨acc, m, rfl, ⟨hv, hm⟩, rfl⟩
                have hal : acc.length ≤ 7 := by have := congrArg List.length hv; simp [strN_len] at this; omega
                refine AW_seq ?_
                refine AW_r rfl rfl fun K hK => ?_
                simp (disch := omega) [wrap64, List.getElem?_eq_getElem, toNat_pred, wrap8, aNews, aAppend, aBuildSlice, chunks, tk1, tk2, numsOf_app, bothN, shrN]
                repeat' first | (exfalso; omega) | (refine ⟨fun _ => ?_, fun _ => ?_⟩) | (refine ⟨by omega, ?_⟩) | (intro _)
                all_goals (refine hK _ ?_; clear hK K)
                all_goals
                  refine AW_cond rfl (fun hc4 => ?_) (fun hc4 => ?_)
                  · try simp [decB_true, decB_false, eqB_true, eqB_false] at hc4
                    all_goals
                      have hge := varB_ge (n := m) (by omega)
                      refine AW_skip ?_
                      refine AW_id ?_
                      refine AW_block ?_
                      refine AW_r rfl rfl fun K hK => ?_
                      simp (disch := omega) [wrap64, List.getElem?_eq_getElem, toNat_pred, wrap8, aNews, aAppend, aBuildSlice, chunks, tk1, tk2, numsOf_app, bothN, shrN]
                      repeat' first | (exfalso; omega) | (refine ⟨fun _ => ?_, fun _ => ?_⟩) | (refine ⟨by omega, ?_⟩) | (intro _)
                      all_goals (refine hK _ ?_; clear hK K)
                      all_goals
                        refine AW_re rfl rfl fun K hK => ?_
                        simp (disch := omega) [wrap64, List.getElem?_eq_getElem, toNat_pred, wrap8, aNews, aAppend, aBuildSlice, chunks, tk1, tk2, numsOf_app, bothN, shrN]
                        repeat' first | (exfalso; omega) | (refine ⟨fun _ => ?_, fun _ => ?_⟩) | (refine ⟨by omega, ?_⟩) | (intro _)
                        all_goals (refine hK _ ?_; clear hK K)
                        all_goals
                          refine ⟨_, LeS.kr [(128, 272)] [(0, (.g (.int .i64 (((m / 128) : Nat))))), (3, .arr 128 0 (acc ++ [128 + ((m % 128 : Nat) : Int)]).length)] [(128, .flat 1 ((acc ++ [128 + ((m % 128 : Nat) : Int)]).map cB8))] (by simp [KpR, renV2, renV, upd_app, lkE_app, lk_cons, lk_nil, cB8]; try simp (disch := omega) [wrap64, cB8]; try omega) (by simp [KpOR, renO, renV, upd_app, lk_cons, lk_nil, formOb_nn, cB8]; try rfl) (by rfl) (by rfl) (by simp) (by simp) (by rfl) (by simp [forms]), _, ?_, acc ++ [128 + ((m % 128 : Nat) : Int)], m / 128, rfl, ?_, rfl⟩
                          · omega
                          · refine ⟨?_, by omega⟩
                            rw [hge] at hv
                            rw [← hv, show (128 + ((m % 128 : Nat) : Int)) = ((128 + m % 128 : Nat) : Int) by omega, strN_one]
                            simp
                  · try simp [decB_true, decB_false, eqB_true, eqB_false] at hc4
                    all_goals
                      refine AW_exit ?_
                      refine AW_id ?_
                      refine AW_r rfl rfl fun K hK => ?_
                      simp (disch := omega) [wrap64, List.getElem?_eq_getElem, toNat_pred, wrap8, aNews, aAppend, aBuildSlice, chunks, tk1, tk2, numsOf_app, bothN, shrN]
                      repeat' first | (exfalso; omega) | (refine ⟨fun _ => ?_, fun _ => ?_⟩) | (refine ⟨by omega, ?_⟩) | (intro _)
                      all_goals (refine hK _ ?_; clear hK K)
                      all_goals
                        refine AW_ret (end_s ?_)
                        simp (disch := omega) [wrap64, List.getElem?_eq_getElem, toNat_pred, wrap8, aNews, aAppend, aBuildSlice, chunks, tk1, tk2, numsOf_app, bothN, shrN]
                        all_goals first | (rw [strN_one, ← hv, varB_lt (by omega)]; done)
  · have hz : varZ n = [] := by unfold varZ; rw [if_neg hn]
    rw [hz]
    have hn' : n < 0 ∨ 562949953421311 < n := by omega
    refine gcall_of_walk Try.func54 (by rfl) (by rfl) (by rw [Try.ntmps54]; exact Nat.le_of_ble_eq_true rfl) rfl (by decide) ?_
    rw [Try.ntmps54]
    refine AW_k [(0, _)] ⟨rfl, trivial⟩ ?_
    refine AW_r rfl rfl fun K hK => ?_
    simp (disch := omega) [wrap64, List.getElem?_eq_getElem, toNat_pred, wrap8, aNews, aAppend, aBuildSlice, chunks, tk1, tk2, numsOf_app, bothN, shrN]
    refine hK _ ?_; clear hK K
    refine AW_seq (AW_r rfl rfl fun K hK => ?_)
    simp (disch := omega) [wrap64, List.getElem?_eq_getElem, toNat_pred, wrap8, aNews, aAppend, aBuildSlice, chunks, tk1, tk2, numsOf_app, bothN, shrN]
    refine CKd_v (am2s_cons am2_g (am2s_cons am2_g (am2s_cons am2_g am2s_nil))) (within _ _ _) rfl ?_
    simp (disch := omega) [wrap64, List.getElem?_eq_getElem, toNat_pred, wrap8, aNews, aAppend, aBuildSlice, chunks, tk1, tk2, numsOf_app, bothN, shrN]
    refine hK _ ?_; clear hK K
    refine AW_cond (t := true) (by simp; omega) (fun _ => ?_) (fun h => by simp at h)
    refine AW_r rfl rfl fun K hK => ?_
    simp (disch := omega) [wrap64, List.getElem?_eq_getElem, toNat_pred, wrap8, aNews, aAppend, aBuildSlice, chunks, tk1, tk2, numsOf_app, bothN, shrN]
    repeat' first | (exfalso; omega) | (refine ⟨fun _ => ?_, fun _ => ?_⟩) | (refine ⟨by omega, ?_⟩) | (intro _)
    all_goals (refine hK _ ?_; clear hK K)
    all_goals
      refine AW_ret (end_s ?_)
      simp (disch := omega) [wrap64, List.getElem?_eq_getElem, toNat_pred, wrap8, aNews, aAppend, aBuildSlice, chunks, tk1, tk2, numsOf_app, bothN, shrN]
      all_goals first | omega | (simp_all; done) | (simp [List.take_of_length_le]; done) | ((try simp_all); (try simp (disch := omega) only [wrap64, Int.tdiv_eq_ediv_of_nonneg, Int.tmod_eq_emod_of_nonneg, and_true, true_and]); done) | ((try simp_all); (try simp (disch := omega) only [wrap64, Int.tdiv_eq_ediv_of_nonneg, Int.tmod_eq_emod_of_nonneg, and_true, true_and] at *); omega)
def piece (s : List UInt8) : List UInt8 := varZ s.length ++ s
theorem l4Piece (s : List UInt8) (hs : s.length ≤ 1048576) : PCall Try.prog 52 [.s s] (.s (piece s)) := by
  have hl := varZ_len s.length
  refine gcall_of_walk Try.func52 (by rfl) (by rfl) (by rw [Try.ntmps52]; exact Nat.le_of_ble_eq_true rfl) rfl (by decide) ?_
  rw [Try.ntmps52]
  refine AW_k [(0, _)] ⟨rfl, trivial⟩ ?_
  refine AW_r rfl rfl fun K hK => ?_
  simp (disch := omega) [wrap64, List.getElem?_eq_getElem, toNat_pred, wrap8, piece]
  repeat' first | (exfalso; omega) | (refine ⟨fun _ => ?_, fun _ => ?_⟩) | (refine ⟨by omega, ?_⟩) | (intro _)
  all_goals (refine hK _ ?_; clear hK K)
  all_goals
    refine AW_r rfl rfl fun K hK => ?_
    simp (disch := omega) [wrap64, List.getElem?_eq_getElem, toNat_pred, wrap8, piece]
    repeat' first | (exfalso; omega) | (refine CKd_v (am2s_cons am2_g am2s_nil) (specVar _) rfl ?_; simp (disch := omega) [wrap64, List.getElem?_eq_getElem, toNat_pred, wrap8, piece]) | (refine ⟨fun _ => ?_, fun _ => ?_⟩) | (refine ⟨by omega, ?_⟩) | (intro _)
    all_goals (refine hK _ ?_; clear hK K)
    all_goals
      refine AW_ret (end_s ?_)
      simp (disch := omega) [wrap64, List.getElem?_eq_getElem, toNat_pred, wrap8, piece]
      all_goals first | omega | (simp_all; done) | (simp [List.take_of_length_le]; done) | ((try simp_all); (try simp (disch := omega) only [wrap64, Int.tdiv_eq_ediv_of_nonneg, Int.tmod_eq_emod_of_nonneg, and_true, true_and]); done) | ((try simp_all); (try simp (disch := omega) only [wrap64, Int.tdiv_eq_ediv_of_nonneg, Int.tmod_eq_emod_of_nonneg, and_true, true_and] at *); omega)
theorem sized (s : List UInt8) (hs : s.length ≤ 1048576) : PCall Try.prog 55 [.s s] (.s (piece s)) := by
  have hl := varZ_len s.length
  refine gcall_of_walk Try.func55 (by rfl) (by rfl) (by rw [Try.ntmps55]; exact Nat.le_of_ble_eq_true rfl) rfl (by decide) ?_
  rw [Try.ntmps55]
  refine AW_k [(0, _)] ⟨rfl, trivial⟩ ?_
  refine AW_r rfl rfl fun K hK => ?_
  simp (disch := omega) [wrap64, List.getElem?_eq_getElem, toNat_pred, wrap8, piece]
  repeat' first | (exfalso; omega) | (refine ⟨fun _ => ?_, fun _ => ?_⟩) | (refine ⟨by omega, ?_⟩) | (intro _)
  all_goals (refine hK _ ?_; clear hK K)
  all_goals
    refine AW_r rfl rfl fun K hK => ?_
    simp (disch := omega) [wrap64, List.getElem?_eq_getElem, toNat_pred, wrap8, piece]
    repeat' first | (exfalso; omega) | (refine CKd_v (am2s_cons am2_g am2s_nil) (implVar _) rfl ?_; simp (disch := omega) [wrap64, List.getElem?_eq_getElem, toNat_pred, wrap8, piece]) | (refine ⟨fun _ => ?_, fun _ => ?_⟩) | (refine ⟨by omega, ?_⟩) | (intro _)
    all_goals (refine hK _ ?_; clear hK K)
    all_goals
      refine AW_ret (end_s ?_)
      simp (disch := omega) [wrap64, List.getElem?_eq_getElem, toNat_pred, wrap8, piece]
      all_goals first | omega | (simp_all; done) | (simp [List.take_of_length_le]; done) | ((try simp_all); (try simp (disch := omega) only [wrap64, Int.tdiv_eq_ediv_of_nonneg, Int.tmod_eq_emod_of_nonneg, and_true, true_and]); done) | ((try simp_all); (try simp (disch := omega) only [wrap64, Int.tdiv_eq_ediv_of_nonneg, Int.tmod_eq_emod_of_nonneg, and_true, true_and] at *); omega)
end Go.Proofs.Ytopdaicfhfjmgaa.Vs
