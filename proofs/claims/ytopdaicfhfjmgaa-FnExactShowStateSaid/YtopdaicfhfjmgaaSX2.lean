import Derived.Test.YtopdaicfhfjmgaaSX1
open Go Go.Proofs Go.Proofs.Ytopdaicfhfjmgaa.Vs
namespace Go.Proofs.Ytopdaicfhfjmgaa.Vs
set_option linter.unusedVariables false
set_option linter.unusedSimpArgs false
set_option linter.unusedSectionVars false
set_option linter.unnecessarySimpa false
set_option linter.all false
set_option linter.unusedSimpArgs false
set_option linter.unusedVariables false
set_option maxRecDepth 100000
theorem l15In (l : List (List UInt8)) (x : List UInt8) (hn : l.length ≤ 1048576) : PCall Try.prog 44 [.sl 1 (l.map cS), .s x] (.g (.bool (decB (x ∈ l)))) := by
  refine gcall_of_walk Try.func44 (by rfl) (by rfl) (by rw [Try.ntmps44]; exact Nat.le_of_ble_eq_true rfl) rfl (by decide) ?_
  rw [Try.ntmps44]
  refine AW_k [(0, _), (1, _)] ⟨rfl, rfl, trivial⟩ ?_
  refine AW_r rfl rfl fun K hK => ?_
  simp (disch := omega) [wrap64, List.getElem?_eq_getElem, toNat_pred]
  repeat' first | (exfalso; omega) | (refine ⟨fun _ => ?_, fun _ => ?_⟩) | (refine ⟨by omega, ?_⟩) | (intro _)
  all_goals (refine hK _ ?_; clear hK K)
  all_goals
    refine AW_seq ?_
    refine AW_r rfl rfl fun K hK => ?_
    simp (disch := omega) [wrap64, List.getElem?_eq_getElem, toNat_pred]
    repeat' first | (exfalso; omega) | (refine ⟨fun _ => ?_, fun _ => ?_⟩) | (refine ⟨by omega, ?_⟩) | (intro _)
    all_goals (refine hK _ ?_; clear hK K)
    all_goals
      refine AW_block ?_
      refine AW_loopS (fun mM sS => ∃ (i : Nat), mM = l.length - i ∧ (i ≤ l.length ∧ ∀ (j : Nat) y, j < i → l[j]? = some y → y ≠ x) ∧ sS = { env := lkE [(0, .sl 1 (l.map cS)), (1, .s x), (5, (.g (.int .i64 ((i : Nat)))))], ob := formOb [] [] }) ?_ ?_
      · refine ⟨_, LeS.kp [(0, .sl 1 (l.map cS)), (1, .s x), (5, (.g (.int .i64 (((0) : Nat)))))] (by simp [KpE, upd_app, lkE_app, lk_cons]; try rfl), _, 0, rfl, ?_, rfl⟩
        · simp
      · rintro mM sS ⟨i, rfl, ⟨hi, hpre⟩, rfl⟩
        refine AW_seq ?_
        refine AW_r rfl rfl fun K hK => ?_
        simp (disch := omega) [wrap64, List.getElem?_eq_getElem, toNat_pred, cS]
        repeat' first | (exfalso; omega) | (refine ⟨fun _ => ?_, fun _ => ?_⟩) | (refine ⟨by omega, ?_⟩) | (intro _)
        all_goals (refine hK _ ?_; clear hK K)
        all_goals
          refine AW_cond rfl (fun hc1 => ?_) (fun hc1 => ?_)
          · try simp [decB_true, decB_false, eqB_true, eqB_false] at hc1
            all_goals
              have hg : l[i]? = some l[i] := List.getElem?_eq_getElem (by omega)
              refine AW_skip ?_
              refine AW_id ?_
              refine AW_seq ?_
              refine AW_block ?_
              refine AW_r rfl rfl fun K hK => ?_
              simp (disch := omega) [wrap64, List.getElem?_eq_getElem, toNat_pred, cS]
              repeat' first | (exfalso; omega) | (refine ⟨fun _ => ?_, fun _ => ?_⟩) | (refine ⟨by omega, ?_⟩) | (intro _)
              all_goals (refine hK _ ?_; clear hK K)
              all_goals
                refine AW_cond rfl (fun hc2 => ?_) (fun hc2 => ?_)
                · try simp [decB_true, decB_false, eqB_true, eqB_false] at hc2
                  all_goals
                    refine AW_r rfl rfl fun K hK => ?_
                    simp (disch := omega) [wrap64, List.getElem?_eq_getElem, toNat_pred, cS]
                    repeat' first | (exfalso; omega) | (refine ⟨fun _ => ?_, fun _ => ?_⟩) | (refine ⟨by omega, ?_⟩) | (intro _)
                    all_goals (refine hK _ ?_; clear hK K)
                    all_goals
                      refine AW_ret (end_s ?_)
                      simp (disch := omega) [wrap64, List.getElem?_eq_getElem, toNat_pred, cS]
                      all_goals first | (refine decB_f fun h => ?_; grind [List.mem_iff_getElem?]) | (refine decB_t ?_; grind [List.mem_iff_getElem?])
                · try simp [decB_true, decB_false, eqB_true, eqB_false] at hc2
                  all_goals
                    refine AW_skip ?_
                    refine AW_id ?_
                    refine AW_re rfl rfl fun K hK => ?_
                    simp (disch := omega) [wrap64, List.getElem?_eq_getElem, toNat_pred, cS]
                    repeat' first | (exfalso; omega) | (refine ⟨fun _ => ?_, fun _ => ?_⟩) | (refine ⟨by omega, ?_⟩) | (intro _)
                    all_goals (refine hK _ ?_; clear hK K)
                    all_goals
                      refine ⟨_, LeS.kp [(0, .sl 1 (l.map cS)), (1, .s x), (5, (.g (.int .i64 (((i + 1) : Nat)))))] (by simp [KpE, upd_app, lkE_app, lk_cons]; try rfl), _, ?_, i + 1, rfl, ?_, rfl⟩
                      · omega
                      · refine ⟨by omega, ?_⟩; grind
          · try simp [decB_true, decB_false, eqB_true, eqB_false] at hc1
            all_goals
              refine AW_exit ?_
              refine AW_id ?_
              refine AW_r rfl rfl fun K hK => ?_
              simp (disch := omega) [wrap64, List.getElem?_eq_getElem, toNat_pred, cS]
              repeat' first | (exfalso; omega) | (refine ⟨fun _ => ?_, fun _ => ?_⟩) | (refine ⟨by omega, ?_⟩) | (intro _)
              all_goals (refine hK _ ?_; clear hK K)
              all_goals
                refine AW_ret (end_s ?_)
                simp (disch := omega) [wrap64, List.getElem?_eq_getElem, toNat_pred, cS]
                all_goals first | (refine decB_f fun h => ?_; grind [List.mem_iff_getElem?]) | (refine decB_t ?_; grind [List.mem_iff_getElem?])
theorem indexS (l : List (List UInt8)) (x : List UInt8) (hn : l.length ≤ 1048576) : PCall Try.prog 73 [.sl 1 (l.map cS), .s x] (.g (.int .i64 (idxZ (fun y => eqB x y) l))) := by
  refine gcall_of_walk Try.func73 (by rfl) (by rfl) (by rw [Try.ntmps73]; exact Nat.le_of_ble_eq_true rfl) rfl (by decide) ?_
  rw [Try.ntmps73]
  refine AW_k [(0, _), (1, _)] ⟨rfl, rfl, trivial⟩ ?_
  refine AW_r rfl rfl fun K hK => ?_
  simp (disch := omega) [wrap64, List.getElem?_eq_getElem, toNat_pred]
  repeat' first | (exfalso; omega) | (refine ⟨fun _ => ?_, fun _ => ?_⟩) | (refine ⟨by omega, ?_⟩) | (intro _)
  all_goals (refine hK _ ?_; clear hK K)
  all_goals
    refine AW_seq ?_
    refine AW_r rfl rfl fun K hK => ?_
    simp (disch := omega) [wrap64, List.getElem?_eq_getElem, toNat_pred]
    repeat' first | (exfalso; omega) | (refine ⟨fun _ => ?_, fun _ => ?_⟩) | (refine ⟨by omega, ?_⟩) | (intro _)
    all_goals (refine hK _ ?_; clear hK K)
    all_goals
      refine AW_block ?_
      refine AW_loopS (fun mM sS => ∃ (i : Nat), mM = l.length - i ∧ (i ≤ l.length ∧ ∀ (j : Nat) y, j < i → l[j]? = some y → eqB x y = false) ∧ sS = { env := lkE [(0, .sl 1 (l.map cS)), (1, .s x), (6, .sl 1 (l.map cS)), (7, (.g (.int .i64 ((l.length : Nat))))), (8, (.g (.int .i64 ((i : Nat)))))], ob := formOb [] [] }) ?_ ?_
      · refine ⟨_, LeS.kp [(0, .sl 1 (l.map cS)), (1, .s x), (6, .sl 1 (l.map cS)), (7, (.g (.int .i64 ((l.length : Nat))))), (8, (.g (.int .i64 (((0) : Nat)))))] (by simp [KpE, upd_app, lkE_app, lk_cons]; try rfl), _, 0, rfl, ?_, rfl⟩
        · simp
      · rintro mM sS ⟨i, rfl, ⟨hi, hpre⟩, rfl⟩
        refine AW_r rfl rfl fun K hK => ?_
        simp (disch := omega) [wrap64, List.getElem?_eq_getElem, toNat_pred, cS]
        repeat' first | (exfalso; omega) | (refine ⟨fun _ => ?_, fun _ => ?_⟩) | (refine ⟨by omega, ?_⟩) | (intro _)
        all_goals (refine hK _ ?_; clear hK K)
        all_goals
          refine AW_seq ?_
          refine AW_cond rfl (fun hc3 => ?_) (fun hc3 => ?_)
          · try simp [decB_true, decB_false, eqB_true, eqB_false] at hc3
            all_goals
              have hg : l[i]? = some l[i] := List.getElem?_eq_getElem (by omega)
              refine AW_skip ?_
              refine AW_id ?_
              refine AW_seq ?_
              refine AW_block ?_
              refine AW_r rfl rfl fun K hK => ?_
              simp (disch := omega) [wrap64, List.getElem?_eq_getElem, toNat_pred, cS]
              repeat' first | (exfalso; omega) | (refine ⟨fun _ => ?_, fun _ => ?_⟩) | (refine ⟨by omega, ?_⟩) | (intro _)
              all_goals (refine hK _ ?_; clear hK K)
              all_goals
                refine AW_r rfl rfl fun K hK => ?_
                simp (disch := omega) [wrap64, List.getElem?_eq_getElem, toNat_pred, cS]
                repeat' first | (exfalso; omega) | (refine ⟨fun _ => ?_, fun _ => ?_⟩) | (refine ⟨by omega, ?_⟩) | (intro _)
                all_goals (refine hK _ ?_; clear hK K)
                all_goals
                  refine AW_cond rfl (fun hc4 => ?_) (fun hc4 => ?_)
                  · try simp [decB_true, decB_false, eqB_true, eqB_false] at hc4
                    all_goals
                      refine AW_r rfl rfl fun K hK => ?_
                      simp (disch := omega) [wrap64, List.getElem?_eq_getElem, toNat_pred, cS]
                      repeat' first | (exfalso; omega) | (refine ⟨fun _ => ?_, fun _ => ?_⟩) | (refine ⟨by omega, ?_⟩) | (intro _)
                      all_goals (refine hK _ ?_; clear hK K)
                      all_goals
                        refine AW_ret (end_s ?_)
                        simp (disch := omega) [wrap64, List.getElem?_eq_getElem, toNat_pred, cS]
                        all_goals first | (exact idxZ_found (by assumption) (by simp_all [eqB_true]) hpre) | (exact idxZ_none (fun j x h => hpre j x (by omega)))
                  · try simp [decB_true, decB_false, eqB_true, eqB_false] at hc4
                    all_goals
                      refine AW_skip ?_
                      refine AW_id ?_
                      refine AW_re rfl rfl fun K hK => ?_
                      simp (disch := omega) [wrap64, List.getElem?_eq_getElem, toNat_pred, cS]
                      repeat' first | (exfalso; omega) | (refine ⟨fun _ => ?_, fun _ => ?_⟩) | (refine ⟨by omega, ?_⟩) | (intro _)
                      all_goals (refine hK _ ?_; clear hK K)
                      all_goals
                        refine ⟨_, LeS.kp [(0, .sl 1 (l.map cS)), (1, .s x), (6, .sl 1 (l.map cS)), (7, (.g (.int .i64 ((l.length : Nat))))), (8, (.g (.int .i64 (((i + 1) : Nat)))))] (by simp [KpE, upd_app, lkE_app, lk_cons]; try rfl), _, ?_, i + 1, rfl, ?_, rfl⟩
                        · omega
                        · refine ⟨by omega, ?_⟩; grind [eqB_false]
          · try simp [decB_true, decB_false, eqB_true, eqB_false] at hc3
            all_goals
              refine AW_exit ?_
              refine AW_id ?_
              refine AW_r rfl rfl fun K hK => ?_
              simp (disch := omega) [wrap64, List.getElem?_eq_getElem, toNat_pred, cS]
              repeat' first | (exfalso; omega) | (refine ⟨fun _ => ?_, fun _ => ?_⟩) | (refine ⟨by omega, ?_⟩) | (intro _)
              all_goals (refine hK _ ?_; clear hK K)
              all_goals
                refine AW_ret (end_s ?_)
                simp (disch := omega) [wrap64, List.getElem?_eq_getElem, toNat_pred, cS]
                all_goals first | (exact idxZ_found (by assumption) (by simp_all [eqB_true]) hpre) | (exact idxZ_none (fun j x h => hpre j x (by omega)))
theorem idxZ_mem (l : List (List UInt8)) (x : List UInt8) : decide (0 ≤ idxZ (fun y => eqB x y) l) = decB (x ∈ l) := by
  rw [Bool.eq_iff_iff, decB_true]
  simp only [decide_eq_true_eq]
  unfold idxZ
  split
  · rename_i i h
    obtain ⟨h1, h2, -⟩ := List.findIdx?_eq_some_iff_getElem.1 h
    rw [eqB_true] at h2
    exact ⟨fun _ => h2 ▸ List.getElem_mem _, fun _ => by omega⟩
  · rename_i h
    rw [List.findIdx?_eq_none_iff] at h
    refine ⟨fun h => by omega, fun hx => ?_⟩
    have := h x hx
    simp [eqB_self] at this
theorem containsS (l : List (List UInt8)) (x : List UInt8) (hn : l.length ≤ 1048576) : PCall Try.prog 45 [.sl 1 (l.map cS), .s x] (.g (.bool (decB (x ∈ l)))) := by
  refine gcall_of_walk Try.func45 (by rfl) (by rfl) (by rw [Try.ntmps45]; exact Nat.le_of_ble_eq_true rfl) rfl (by decide) ?_
  rw [Try.ntmps45]
  refine AW_k [(0, _), (1, _)] ⟨rfl, rfl, trivial⟩ ?_
  refine AW_r rfl rfl fun K hK => ?_
  simp (disch := omega) [wrap64, List.getElem?_eq_getElem, toNat_pred, idxZ_mem]
  repeat' first | (exfalso; omega) | (refine ⟨fun _ => ?_, fun _ => ?_⟩) | (refine ⟨by omega, ?_⟩) | (intro _)
  all_goals (refine hK _ ?_; clear hK K)
  all_goals
    refine AW_r rfl rfl fun K hK => ?_
    simp (disch := omega) [wrap64, List.getElem?_eq_getElem, toNat_pred, idxZ_mem]
    repeat' first | (exfalso; omega) | (refine CKd_v (am2s_cons am2_sl (am2s_cons am2_s am2s_nil)) (indexS _ _ (by omega)) rfl ?_; simp (disch := omega) [wrap64, List.getElem?_eq_getElem, toNat_pred, idxZ_mem]) | (refine ⟨fun _ => ?_, fun _ => ?_⟩) | (refine ⟨by omega, ?_⟩) | (intro _)
    all_goals (refine hK _ ?_; clear hK K)
    all_goals
      refine AW_ret (end_s ?_)
      simp (disch := omega) [wrap64, List.getElem?_eq_getElem, toNat_pred, idxZ_mem]
      all_goals first | omega | (simp_all; done) | (simp [List.take_of_length_le]; done) | ((try simp_all); (try simp (disch := omega) only [wrap64, Int.tdiv_eq_ediv_of_nonneg, Int.tmod_eq_emod_of_nonneg, and_true, true_and]); done) | ((try simp_all); (try simp (disch := omega) only [wrap64, Int.tdiv_eq_ediv_of_nonneg, Int.tmod_eq_emod_of_nonneg, and_true, true_and] at *); omega)
def boolZ (b : Bool) : Int := bif b then 1 else 0
theorem boolZ_bd (b : Bool) : 0 ≤ boolZ b ∧ boolZ b ≤ 1 := by cases b <;> simp [boolZ]
noncomputable def cntP (x : List UInt8) (p : DtCSnap) : Int := boolZ (decB (x ∈ p.fChunks))
noncomputable def cntS (x : List UInt8) (s : DtCSet) : Int := sumZ (cntP x) s.fSnaps
noncomputable def refs (c : DtCatalog) (x : List UInt8) : Int := bif decB (CatP c) then sumZ (cntS x) c.fSets else 0
theorem cntP_nn (x : List UInt8) (p : DtCSnap) : 0 ≤ cntP x p := (boolZ_bd _).1
theorem cntS_nn (x : List UInt8) (s : DtCSet) : 0 ≤ cntS x s := sumZ_nonneg (cntP_nn x) _
theorem sumZ_le {α : Type} {f : α → Int} (hf : ∀ a, f a ≤ 1) : ∀ l : List α, sumZ f l ≤ l.length
  | [] => by simp [sumZ_nil]
  | a :: l => by rw [sumZ_cons]; have := sumZ_le hf l; have := hf a; simp; omega
theorem sumZ_le2 {α : Type} {f g : α → Int} (hf : ∀ a, f a ≤ g a) : ∀ l : List α, sumZ f l ≤ sumZ g l
  | [] => by simp [sumZ_nil]
  | a :: l => by rw [sumZ_cons, sumZ_cons]; have := sumZ_le2 hf l; have := hf a; omega
theorem cntS_le (x : List UInt8) (s : DtCSet) : cntS x s ≤ DtCSet.sz s := by
  have h1 := sumZ_le (f := cntP x) (fun p => (boolZ_bd _).2) s.fSnaps
  have h2 := sumZ_nonneg DtCSnap.sz_nonneg s.fSnaps
  simp only [DtCSet.sz, szS]
  unfold cntS
  omega
end Go.Proofs.Ytopdaicfhfjmgaa.Vs
