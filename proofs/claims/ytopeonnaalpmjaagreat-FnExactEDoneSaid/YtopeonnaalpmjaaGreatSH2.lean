import Derived.Test.YtopeonnaalpmjaaGreatSH1
open Go Go.Proofs Go.Proofs.YtopeonnaalpmjaaGreat.Vs
namespace Go.Proofs.YtopeonnaalpmjaaGreat.Vs
set_option linter.unusedVariables false
set_option linter.unusedSimpArgs false
set_option linter.unusedSectionVars false
set_option linter.unnecessarySimpa false
set_option linter.all false
set_option linter.unusedSimpArgs false
set_option linter.unusedVariables false
set_option maxRecDepth 100000
theorem tkm {α β : Type} (l : List α) (f : α → β) : List.take l.length (l.map f) = l.map f := List.take_of_length_le (by simp)
theorem copyTexts (l : List (List UInt8)) (hn : l.length ≤ 1048576) : PCall Tryz.prog 95 [.sl 1 (l.map cS)] (.sl 1 (l.map cS)) := by
  refine gcall_of_walk Tryz.func95 (by rfl) (by rfl) (by rw [Tryz.ntmps95]; exact Nat.le_of_ble_eq_true rfl) rfl (by decide) ?_
  rw [Tryz.ntmps95]
  refine AW_k [(0, _)] ⟨rfl, trivial⟩ ?_
  refine AW_r rfl rfl fun K hK => ?_
  simp (disch := omega) [wrap64, List.getElem?_eq_getElem, toNat_pred, aNews, aAppend, tkm, cS]
  repeat' first | (exfalso; omega) | (refine ⟨fun _ => ?_, fun _ => ?_⟩) | (refine ⟨by omega, ?_⟩) | (intro _)
  all_goals (refine hK _ ?_; clear hK K)
  all_goals
    refine AW_r rfl rfl fun K hK => ?_
    simp (disch := omega) [wrap64, List.getElem?_eq_getElem, toNat_pred, aNews, aAppend, tkm, cS]
    repeat' first | (exfalso; omega) | (refine ⟨fun _ => ?_, fun _ => ?_⟩) | (refine ⟨by omega, ?_⟩) | (intro _)
    all_goals (refine hK _ ?_; clear hK K)
    all_goals
      refine AW_ret (end_s ?_)
      simp (disch := omega) [wrap64, List.getElem?_eq_getElem, toNat_pred, aNews, aAppend, tkm, cS]
      all_goals simp [tkm]
theorem copyIds (l : List DtId) (hn : l.length ≤ 1048576) : PCall Tryz.prog 67 [.sl 2 (l.map DtId.cells)] (.sl 2 (l.map DtId.cells)) := by
  refine gcall_of_walk Tryz.func67 (by rfl) (by rfl) (by rw [Tryz.ntmps67]; exact Nat.le_of_ble_eq_true rfl) rfl (by decide) ?_
  rw [Tryz.ntmps67]
  refine AW_k [(0, _)] ⟨rfl, trivial⟩ ?_
  refine AW_r rfl rfl fun K hK => ?_
  simp (disch := omega) [wrap64, List.getElem?_eq_getElem, toNat_pred, aNews, aAppend, tkm, cS]
  repeat' first | (exfalso; omega) | (refine ⟨fun _ => ?_, fun _ => ?_⟩) | (refine ⟨by omega, ?_⟩) | (intro _)
  all_goals (refine hK _ ?_; clear hK K)
  all_goals
    refine AW_r rfl rfl fun K hK => ?_
    simp (disch := omega) [wrap64, List.getElem?_eq_getElem, toNat_pred, aNews, aAppend, tkm, cS]
    repeat' first | (exfalso; omega) | (refine ⟨fun _ => ?_, fun _ => ?_⟩) | (refine ⟨by omega, ?_⟩) | (intro _)
    all_goals (refine hK _ ?_; clear hK K)
    all_goals
      refine AW_ret (end_s ?_)
      simp (disch := omega) [wrap64, List.getElem?_eq_getElem, toNat_pred, aNews, aAppend, tkm, cS]
      all_goals simp [tkm]
theorem copyCmd (c : DtCmd) (hn : c.fChunks.length ≤ 1048576) : PCall Tryz.prog 66 [.agg (DtCmd.cells c)] (.agg (DtCmd.cells c)) := by
  refine gcall_of_walk Tryz.func66 (by rfl) (by rfl) (by rw [Tryz.ntmps66]; exact Nat.le_of_ble_eq_true rfl) rfl (by decide) ?_
  rw [Tryz.ntmps66]
  refine AW_k [(0, _)] ⟨rfl, trivial⟩ ?_
  refine AW_r rfl rfl fun K hK => ?_
  simp (disch := omega) [wrap64, List.getElem?_eq_getElem, toNat_pred, DtCmd.cells]
  repeat' first | (exfalso; omega) | (refine ⟨fun _ => ?_, fun _ => ?_⟩) | (refine ⟨by omega, ?_⟩) | (intro _)
  all_goals (refine hK _ ?_; clear hK K)
  all_goals
    refine AW_r rfl rfl fun K hK => ?_
    simp (disch := omega) [wrap64, List.getElem?_eq_getElem, toNat_pred, DtCmd.cells]
    repeat' first | (exfalso; omega) | (refine CKd_v (am2s_cons am2_sl am2s_nil) (copyTexts _ (by assumption)) rfl ?_; simp (disch := omega) [wrap64, List.getElem?_eq_getElem, toNat_pred, DtCmd.cells]) | (refine ⟨fun _ => ?_, fun _ => ?_⟩) | (refine ⟨by omega, ?_⟩) | (intro _)
    all_goals (refine hK _ ?_; clear hK K)
    all_goals
      refine AW_r rfl rfl fun K hK => ?_
      simp (disch := omega) [wrap64, List.getElem?_eq_getElem, toNat_pred, DtCmd.cells]
      repeat' first | (exfalso; omega) | (refine ⟨fun _ => ?_, fun _ => ?_⟩) | (refine ⟨by omega, ?_⟩) | (intro _)
      all_goals (refine hK _ ?_; clear hK K)
      all_goals
        refine AW_ret (end_s ?_)
        simp (disch := omega) [wrap64, List.getElem?_eq_getElem, toNat_pred, DtCmd.cells]
        all_goals simp [tkm]
theorem copyInst (x : DtInst) (hn : x.fCmd.fChunks.length ≤ 1048576) (hd : x.fDeps.length ≤ 1048576) : PCall Tryz.prog 30 [.agg (DtInst.cells x)] (.agg (DtInst.cells x)) := by
  refine gcall_of_walk Tryz.func30 (by rfl) (by rfl) (by rw [Tryz.ntmps30]; exact Nat.le_of_ble_eq_true rfl) rfl (by decide) ?_
  rw [Tryz.ntmps30]
  refine AW_k [(0, _)] ⟨rfl, trivial⟩ ?_
  refine AW_r rfl rfl fun K hK => ?_
  simp (disch := omega) [wrap64, List.getElem?_eq_getElem, toNat_pred, DtCmd.cells, DtInst.cells]
  repeat' first | (exfalso; omega) | (refine ⟨fun _ => ?_, fun _ => ?_⟩) | (refine ⟨by omega, ?_⟩) | (intro _)
  all_goals (refine hK _ ?_; clear hK K)
  all_goals
    refine AW_r rfl rfl fun K hK => ?_
    simp (disch := omega) [wrap64, List.getElem?_eq_getElem, toNat_pred, DtCmd.cells, DtInst.cells]
    repeat' first | (exfalso; omega) | (refine CKd_v (am2s_cons (am2_agg rfl) am2s_nil) (copyCmd _ (by assumption)) rfl ?_; simp (disch := omega) [wrap64, List.getElem?_eq_getElem, toNat_pred, DtCmd.cells, DtInst.cells]) | (refine ⟨fun _ => ?_, fun _ => ?_⟩) | (refine ⟨by omega, ?_⟩) | (intro _)
    all_goals (refine hK _ ?_; clear hK K)
    all_goals
      refine AW_r rfl rfl fun K hK => ?_
      simp (disch := omega) [wrap64, List.getElem?_eq_getElem, toNat_pred, DtCmd.cells, DtInst.cells]
      repeat' first | (exfalso; omega) | (refine CKd_v (am2s_cons am2_sl am2s_nil) (copyIds _ (by assumption)) rfl ?_; simp (disch := omega) [wrap64, List.getElem?_eq_getElem, toNat_pred, DtCmd.cells, DtInst.cells]) | (refine ⟨fun _ => ?_, fun _ => ?_⟩) | (refine ⟨by omega, ?_⟩) | (intro _)
      all_goals (refine hK _ ?_; clear hK K)
      all_goals
        refine AW_r rfl rfl fun K hK => ?_
        simp (disch := omega) [wrap64, List.getElem?_eq_getElem, toNat_pred, DtCmd.cells, DtInst.cells]
        repeat' first | (exfalso; omega) | (refine ⟨fun _ => ?_, fun _ => ?_⟩) | (refine ⟨by omega, ?_⟩) | (intro _)
        all_goals (refine hK _ ?_; clear hK K)
        all_goals
          refine AW_ret (end_s ?_)
          simp (disch := omega) [wrap64, List.getElem?_eq_getElem, toNat_pred, DtCmd.cells, DtInst.cells]
          all_goals simp [tkm]
theorem inst1 (p : DtInst) (id : DtId) : GCall Tryz.prog 65 [.agg (DtInst.cells p), .ptr 0 0] [DtId.cells id] [] (.g (.bool (eqB p.fId id))) [] := by
  refine gcall_of_walk Tryz.func65 (by rfl) (by rfl) (by rw [Tryz.ntmps65]; exact Nat.le_of_ble_eq_true rfl) rfl (by decide) ?_
  rw [Tryz.ntmps65]
  refine AW_k [(0, _), (1, _)] ⟨rfl, rfl, trivial⟩ ?_
  refine AW_r rfl rfl fun K hK => ?_
  simp [DtInst.cells, DtId.cells, DtCmd.cells, e2_id]
  repeat' first | (refine ⟨fun _ => ?_, fun _ => ?_⟩) | (refine ⟨by omega, ?_⟩) | (intro _)
  all_goals (refine hK _ ?_; clear hK K)
  all_goals
    refine AW_r rfl rfl fun K hK => ?_
    simp [DtInst.cells, DtId.cells, DtCmd.cells, e2_id]
    repeat' first | (refine ⟨fun _ => ?_, fun _ => ?_⟩) | (refine ⟨by omega, ?_⟩) | (intro _)
    all_goals (refine hK _ ?_; clear hK K)
    all_goals
      refine AW_ret (end_s ?_)
      simp [DtInst.cells, DtId.cells, DtCmd.cells, e2_id]
      all_goals (rw [Bool.eq_iff_iff, eqB_true, id_ext]; simp)
theorem indexFuncInst {F : FuncId} {id : DtId} {p : DtInst → Bool} (xs : List DtInst) (hn : xs.length ≤ 1048576) (hf : ∀ x, GCall Tryz.prog F [.agg (DtInst.cells x), .ptr 0 0] [DtId.cells id] [] (.g (.bool (p x))) []) : GCall Tryz.prog 64 [.sl 16 (xs.map DtInst.cells), .fn F [] [.ptr 0 0]] [DtId.cells id] [] (.g (.int .i64 (idxZ p xs))) [] := by
  refine gcall_of_walk Tryz.func64 (by rfl) (by rfl) (by rw [Tryz.ntmps64]; exact Nat.le_of_ble_eq_true rfl) rfl (by decide) ?_
  rw [Tryz.ntmps64]
  refine AW_k [(0, _), (1, _)] ⟨rfl, rfl, trivial⟩ ?_
  refine AW_r rfl rfl fun K hK => ?_
  simp (disch := omega) [wrap64, List.getElem?_eq_getElem, toNat_pred, DtInst.cells, DtId.cells, DtCmd.cells]
  repeat' first | (exfalso; omega) | (refine CKd_r1 0 (.inr rfl) (am1s_plain (DtId.cells id) rfl) (am2s_cons (am2_agg rfl) (am2s_cons am2_ptr0 am2s_nil)) (hf _) rfl ?_; simp (disch := omega) [wrap64, List.getElem?_eq_getElem, toNat_pred, DtInst.cells, DtId.cells, DtCmd.cells]) | (refine ⟨fun _ => ?_, fun _ => ?_⟩) | (refine ⟨by omega, ?_⟩) | (intro _)
  all_goals (refine hK _ ?_; clear hK K)
  all_goals
    refine AW_seq ?_
    refine AW_r rfl rfl fun K hK => ?_
    simp (disch := omega) [wrap64, List.getElem?_eq_getElem, toNat_pred, DtInst.cells, DtId.cells, DtCmd.cells]
    repeat' first | (exfalso; omega) | (refine CKd_r1 0 (.inr rfl) (am1s_plain (DtId.cells id) rfl) (am2s_cons (am2_agg rfl) (am2s_cons am2_ptr0 am2s_nil)) (hf _) rfl ?_; simp (disch := omega) [wrap64, List.getElem?_eq_getElem, toNat_pred, DtInst.cells, DtId.cells, DtCmd.cells]) | (refine ⟨fun _ => ?_, fun _ => ?_⟩) | (refine ⟨by omega, ?_⟩) | (intro _)
    all_goals (refine hK _ ?_; clear hK K)
    all_goals
      refine AW_block ?_
      refine AW_loopS (fun mM sS => ∃ (i : Nat), mM = xs.length - i ∧ (i ≤ xs.length ∧ ∀ j x, j < i → xs[j]? = some x → p x = false) ∧ sS = { env := lkE [(0, .sl 16 (xs.map DtInst.cells)), (1, .fn F [] [.ptr 0 0]), (6, .sl 16 (xs.map DtInst.cells)), (7, (.g (.int .i64 ((xs.length : Nat))))), (8, (.g (.int .i64 ((i : Nat)))))], ob := formOb [DtId.cells id] [] }) ?_ ?_
      · refine ⟨_, LeS.kp [(0, .sl 16 (xs.map DtInst.cells)), (1, .fn F [] [.ptr 0 0]), (6, .sl 16 (xs.map DtInst.cells)), (7, (.g (.int .i64 ((xs.length : Nat))))), (8, (.g (.int .i64 (((0) : Nat)))))] (by simp [KpE, upd_app, lkE_app, lk_cons]; try rfl), _, 0, rfl, ?_, rfl⟩
        · simp
      · rintro mM sS ⟨i, rfl, ⟨hi, hpre⟩, rfl⟩
        refine AW_r rfl rfl fun K hK => ?_
        simp (disch := omega) [wrap64, List.getElem?_eq_getElem, toNat_pred, DtInst.cells, DtId.cells, DtCmd.cells]
        repeat' first | (exfalso; omega) | (refine CKd_r1 0 (.inr rfl) (am1s_plain (DtId.cells id) rfl) (am2s_cons (am2_agg rfl) (am2s_cons am2_ptr0 am2s_nil)) (hf _) rfl ?_; simp (disch := omega) [wrap64, List.getElem?_eq_getElem, toNat_pred, DtInst.cells, DtId.cells, DtCmd.cells]) | (refine ⟨fun _ => ?_, fun _ => ?_⟩) | (refine ⟨by omega, ?_⟩) | (intro _)
        all_goals (refine hK _ ?_; clear hK K)
        all_goals
          refine AW_seq ?_
          refine AW_cond rfl (fun hc1 => ?_) (fun hc1 => ?_)
          · try simp [decB_true, decB_false, eqB_true, eqB_false, cmpI_lt, cmpI_ge] at hc1
            all_goals
              have hg : xs[i]? = some (xs[i]) := List.getElem?_eq_getElem (by omega)
              refine AW_skip ?_
              refine AW_id ?_
              refine AW_seq ?_
              refine AW_block ?_
              refine AW_r rfl rfl fun K hK => ?_
              simp (disch := omega) [wrap64, List.getElem?_eq_getElem, toNat_pred, DtInst.cells, DtId.cells, DtCmd.cells]
              repeat' first | (exfalso; omega) | (refine CKd_r1 0 (.inr rfl) (am1s_plain (DtId.cells id) rfl) (am2s_cons (am2_agg rfl) (am2s_cons am2_ptr0 am2s_nil)) (hf _) rfl ?_; simp (disch := omega) [wrap64, List.getElem?_eq_getElem, toNat_pred, DtInst.cells, DtId.cells, DtCmd.cells]) | (refine ⟨fun _ => ?_, fun _ => ?_⟩) | (refine ⟨by omega, ?_⟩) | (intro _)
              all_goals (refine hK _ ?_; clear hK K)
              all_goals
                refine AW_r rfl rfl fun K hK => ?_
                simp (disch := omega) [wrap64, List.getElem?_eq_getElem, toNat_pred, DtInst.cells, DtId.cells, DtCmd.cells]
                repeat' first | (exfalso; omega) | (refine CKd_r1 0 (.inr rfl) (am1s_plain (DtId.cells id) rfl) (am2s_cons (am2_agg rfl) (am2s_cons am2_ptr0 am2s_nil)) (hf _) rfl ?_; simp (disch := omega) [wrap64, List.getElem?_eq_getElem, toNat_pred, DtInst.cells, DtId.cells, DtCmd.cells]) | (refine ⟨fun _ => ?_, fun _ => ?_⟩) | (refine ⟨by omega, ?_⟩) | (intro _)
                all_goals (refine hK _ ?_; clear hK K)
                all_goals
                  refine AW_cond rfl (fun hc2 => ?_) (fun hc2 => ?_)
                  · try simp [decB_true, decB_false, eqB_true, eqB_false, cmpI_lt, cmpI_ge] at hc2
                    all_goals
                      refine AW_r rfl rfl fun K hK => ?_
                      simp (disch := omega) [wrap64, List.getElem?_eq_getElem, toNat_pred, DtInst.cells, DtId.cells, DtCmd.cells]
                      repeat' first | (exfalso; omega) | (refine CKd_r1 0 (.inr rfl) (am1s_plain (DtId.cells id) rfl) (am2s_cons (am2_agg rfl) (am2s_cons am2_ptr0 am2s_nil)) (hf _) rfl ?_; simp (disch := omega) [wrap64, List.getElem?_eq_getElem, toNat_pred, DtInst.cells, DtId.cells, DtCmd.cells]) | (refine ⟨fun _ => ?_, fun _ => ?_⟩) | (refine ⟨by omega, ?_⟩) | (intro _)
                      all_goals (refine hK _ ?_; clear hK K)
                      all_goals
                        refine AW_ret (end_s ?_)
                        simp (disch := omega) [wrap64, List.getElem?_eq_getElem, toNat_pred, DtInst.cells, DtId.cells, DtCmd.cells]
                        all_goals first | (exact idxZ_found (by assumption) (by assumption) hpre) | (exact idxZ_none (fun j x h => hpre j x (by omega)))
                  · try simp [decB_true, decB_false, eqB_true, eqB_false, cmpI_lt, cmpI_ge] at hc2
                    all_goals
                      refine AW_skip ?_
                      refine AW_id ?_
                      refine AW_re rfl rfl fun K hK => ?_
                      simp (disch := omega) [wrap64, List.getElem?_eq_getElem, toNat_pred, DtInst.cells, DtId.cells, DtCmd.cells]
                      repeat' first | (exfalso; omega) | (refine CKd_r1 0 (.inr rfl) (am1s_plain (DtId.cells id) rfl) (am2s_cons (am2_agg rfl) (am2s_cons am2_ptr0 am2s_nil)) (hf _) rfl ?_; simp (disch := omega) [wrap64, List.getElem?_eq_getElem, toNat_pred, DtInst.cells, DtId.cells, DtCmd.cells]) | (refine ⟨fun _ => ?_, fun _ => ?_⟩) | (refine ⟨by omega, ?_⟩) | (intro _)
                      all_goals (refine hK _ ?_; clear hK K)
                      all_goals
                        refine ⟨_, LeS.kp [(0, .sl 16 (xs.map DtInst.cells)), (1, .fn F [] [.ptr 0 0]), (6, .sl 16 (xs.map DtInst.cells)), (7, (.g (.int .i64 ((xs.length : Nat))))), (8, (.g (.int .i64 (((i + 1) : Nat)))))] (by simp [KpE, upd_app, lkE_app, lk_cons]; try rfl), _, ?_, i + 1, rfl, ?_, rfl⟩
                        · omega
                        · refine ⟨by omega, ?_⟩; grind
          · try simp [decB_true, decB_false, eqB_true, eqB_false, cmpI_lt, cmpI_ge] at hc1
            all_goals
              refine AW_exit ?_
              refine AW_id ?_
              refine AW_r rfl rfl fun K hK => ?_
              simp (disch := omega) [wrap64, List.getElem?_eq_getElem, toNat_pred, DtInst.cells, DtId.cells, DtCmd.cells]
              repeat' first | (exfalso; omega) | (refine CKd_r1 0 (.inr rfl) (am1s_plain (DtId.cells id) rfl) (am2s_cons (am2_agg rfl) (am2s_cons am2_ptr0 am2s_nil)) (hf _) rfl ?_; simp (disch := omega) [wrap64, List.getElem?_eq_getElem, toNat_pred, DtInst.cells, DtId.cells, DtCmd.cells]) | (refine ⟨fun _ => ?_, fun _ => ?_⟩) | (refine ⟨by omega, ?_⟩) | (intro _)
              all_goals (refine hK _ ?_; clear hK K)
              all_goals
                refine AW_ret (end_s ?_)
                simp (disch := omega) [wrap64, List.getElem?_eq_getElem, toNat_pred, DtInst.cells, DtId.cells, DtCmd.cells]
                all_goals first | (exact idxZ_found (by assumption) (by assumption) hpre) | (exact idxZ_none (fun j x h => hpre j x (by omega)))
noncomputable def iAt (l : List DtInst) (id : DtId) : Int := idxZ (fun x => eqB x.fId id) l
theorem implInstIx (l : List DtInst) (id : DtId) (hn : l.length ≤ 1048576) : PCall Tryz.prog 29 [.sl 16 (l.map DtInst.cells), .agg (DtId.cells id)] (.g (.int .i64 (iAt l id))) := by
  refine gcall_of_walk Tryz.func29 (by rfl) (by rfl) (by rw [Tryz.ntmps29]; exact Nat.le_of_ble_eq_true rfl) rfl (by decide) ?_
  rw [Tryz.ntmps29]
  refine AW_k [(0, _), (1, _)] ⟨rfl, rfl, trivial⟩ ?_
  refine AW_r rfl rfl fun K hK => ?_
  simp [DtInst.cells, DtId.cells, DtCmd.cells]
  repeat' first | (refine ⟨fun _ => ?_, fun _ => ?_⟩) | (refine ⟨by omega, ?_⟩) | (intro _)
  all_goals (refine hK _ ?_; clear hK K)
  all_goals
    refine AW_r rfl rfl fun K hK => ?_
    simp [DtInst.cells, DtId.cells, DtCmd.cells]
    repeat' first | (refine CKd_r1 64 (.inl rfl) (am1s_plain (DtId.cells id) rfl) (am2s_cons am2_sl (am2s_cons am2_fn0 am2s_nil)) (indexFuncInst _ hn (fun x => inst1 x id)) rfl ?_; simp [DtInst.cells, DtId.cells, DtCmd.cells]) | (refine ⟨fun _ => ?_, fun _ => ?_⟩) | (refine ⟨by omega, ?_⟩) | (intro _)
    all_goals (refine hK _ ?_; clear hK K)
    all_goals
      refine AW_ret (end_s ?_)
      simp [DtInst.cells, DtId.cells, DtCmd.cells, iAt]
      all_goals first | omega | (simp_all; done) | (simp [List.take_of_length_le]; done) | ((try simp_all); (try simp (disch := omega) only [wrap64, Int.tdiv_eq_ediv_of_nonneg, Int.tmod_eq_emod_of_nonneg, and_true, true_and]); done) | ((try simp_all); (try simp (disch := omega) only [wrap64, Int.tdiv_eq_ediv_of_nonneg, Int.tmod_eq_emod_of_nonneg, and_true, true_and] at *); omega)
theorem iAt_spec (l : List DtInst) (id : DtId) : (∃ i, ∃ h : i < l.length, iAt l id = i ∧ instAt l id = l[i]) ∨ (iAt l id = -1 ∧ instAt l id = zeroInst id) := by
  unfold iAt idxZ instAt
  cases h : l.findIdx? (fun x => eqB x.fId id) with
  | none =>
    refine .inr ⟨rfl, ?_⟩
    rw [List.findIdx?_eq_none_iff] at h
    have : l.find? (fun x => eqB x.fId id) = none := List.find?_eq_none.2 fun x hx => by simp [h x hx]
    rw [this]; rfl
  | some i =>
    obtain ⟨h1, h2, h3⟩ := List.findIdx?_eq_some_iff_getElem.1 h
    refine .inl ⟨i, h1, rfl, ?_⟩
    have : l.find? (fun x => eqB x.fId id) = some l[i] := by
      rw [List.find?_eq_some_iff_getElem]
      exact ⟨h2, i, h1, rfl, fun j hj => by simpa using h3 j hj⟩
    rw [this]; rfl
theorem implInstAt (l : List DtInst) (id : DtId) (hn : l.length ≤ 1048576) (hm : ∀ x ∈ l, InstSm x) : PCall Tryz.prog 16 [.sl 16 (l.map DtInst.cells), .agg (DtId.cells id)] (.agg (DtInst.cells (instAt l id))) := by
  rcases iAt_spec l id with ⟨i, hi, h1, h2⟩ | ⟨h1, h2⟩
  · have hx := hm _ (List.getElem_mem hi)
    have hx1 := hx.1
    have hx2 := hx.2.1
    refine gcall_of_walk Tryz.func16 (by rfl) (by rfl) (by rw [Tryz.ntmps16]; exact Nat.le_of_ble_eq_true rfl) rfl (by decide) ?_
    rw [Tryz.ntmps16]
    refine AW_k [(0, _), (1, _)] ⟨rfl, rfl, trivial⟩ ?_
    refine AW_r rfl rfl fun K hK => ?_
    simp (disch := omega) [wrap64, List.getElem?_eq_getElem, toNat_pred, DtInst.cells, DtCmd.cells, DtId.cells, h1, h2]
    repeat' first | (exfalso; omega) | (refine ⟨fun _ => ?_, fun _ => ?_⟩) | (refine ⟨by omega, ?_⟩) | (intro _)
    all_goals (refine hK _ ?_; clear hK K)
    all_goals
      refine AW_seq ?_
      refine AW_r rfl rfl fun K hK => ?_
      simp (disch := omega) [wrap64, List.getElem?_eq_getElem, toNat_pred, DtInst.cells, DtCmd.cells, DtId.cells, h1, h2]
      repeat' first | (exfalso; omega) | (refine CKd_v (am2s_cons am2_sl (am2s_cons (am2_agg rfl) am2s_nil)) (implInstIx _ _ (by assumption)) rfl ?_; simp (disch := omega) [wrap64, List.getElem?_eq_getElem, toNat_pred, DtInst.cells, DtCmd.cells, DtId.cells, h1, h2]) | (refine ⟨fun _ => ?_, fun _ => ?_⟩) | (refine ⟨by omega, ?_⟩) | (intro _)
      all_goals (refine hK _ ?_; clear hK K)
      all_goals
        refine AW_r rfl rfl fun K hK => ?_
        simp (disch := omega) [wrap64, List.getElem?_eq_getElem, toNat_pred, DtInst.cells, DtCmd.cells, DtId.cells, h1, h2]
        repeat' first | (exfalso; omega) | (refine ⟨fun _ => ?_, fun _ => ?_⟩) | (refine ⟨by omega, ?_⟩) | (intro _)
        all_goals (refine hK _ ?_; clear hK K)
        all_goals
          refine AW_cond rfl (fun hc3 => ?_) (fun hc3 => ?_)
          · try simp [decB_true, decB_false, eqB_true, eqB_false, cmpI_lt, cmpI_ge] at hc3
            all_goals
              refine AW_r rfl rfl fun K hK => ?_
              simp (disch := omega) [wrap64, List.getElem?_eq_getElem, toNat_pred, DtInst.cells, DtCmd.cells, DtId.cells, h1, h2]
              repeat' first | (exfalso; omega) | (refine CKd_v (am2s_cons (am2_agg rfl) am2s_nil) (copyInst _ (by assumption) (by assumption)) rfl ?_; simp (disch := omega) [wrap64, List.getElem?_eq_getElem, toNat_pred, DtInst.cells, DtCmd.cells, DtId.cells, h1, h2]) | (refine ⟨fun _ => ?_, fun _ => ?_⟩) | (refine ⟨by omega, ?_⟩) | (intro _)
              all_goals (refine hK _ ?_; clear hK K)
              all_goals
                refine AW_ret (end_s ?_)
                simp (disch := omega) [wrap64, List.getElem?_eq_getElem, toNat_pred, DtInst.cells, DtCmd.cells, DtId.cells, h1, h2]
                all_goals simp
          · try simp [decB_true, decB_false, eqB_true, eqB_false, cmpI_lt, cmpI_ge] at hc3
            all_goals
              refine AW_skip ?_
              refine AW_id ?_
              refine AW_r rfl rfl fun K hK => ?_
              simp (disch := omega) [wrap64, List.getElem?_eq_getElem, toNat_pred, DtInst.cells, DtCmd.cells, DtId.cells, h1, h2]
              repeat' first | (exfalso; omega) | (refine ⟨fun _ => ?_, fun _ => ?_⟩) | (refine ⟨by omega, ?_⟩) | (intro _)
              all_goals (refine hK _ ?_; clear hK K)
              all_goals
                refine AW_ret (end_s ?_)
                simp (disch := omega) [wrap64, List.getElem?_eq_getElem, toNat_pred, DtInst.cells, DtCmd.cells, DtId.cells, h1, h2]
                all_goals simp
  · have e0 := h1
    refine gcall_of_walk Tryz.func16 (by rfl) (by rfl) (by rw [Tryz.ntmps16]; exact Nat.le_of_ble_eq_true rfl) rfl (by decide) ?_
    rw [Tryz.ntmps16]
    refine AW_k [(0, _), (1, _)] ⟨rfl, rfl, trivial⟩ ?_
    refine AW_r rfl rfl fun K hK => ?_
    simp (disch := omega) [wrap64, List.getElem?_eq_getElem, toNat_pred, DtInst.cells, DtCmd.cells, DtId.cells, h1, h2, zeroInst, zeroCmd]
    repeat' first | (exfalso; omega) | (refine ⟨fun _ => ?_, fun _ => ?_⟩) | (refine ⟨by omega, ?_⟩) | (intro _)
    all_goals (refine hK _ ?_; clear hK K)
    all_goals
      refine AW_seq ?_
      refine AW_r rfl rfl fun K hK => ?_
      simp (disch := omega) [wrap64, List.getElem?_eq_getElem, toNat_pred, DtInst.cells, DtCmd.cells, DtId.cells, h1, h2, zeroInst, zeroCmd]
      repeat' first | (exfalso; omega) | (refine CKd_v (am2s_cons am2_sl (am2s_cons (am2_agg rfl) am2s_nil)) (implInstIx _ _ (by assumption)) rfl ?_; simp (disch := omega) [wrap64, List.getElem?_eq_getElem, toNat_pred, DtInst.cells, DtCmd.cells, DtId.cells, h1, h2, zeroInst, zeroCmd]) | (refine ⟨fun _ => ?_, fun _ => ?_⟩) | (refine ⟨by omega, ?_⟩) | (intro _)
      all_goals (refine hK _ ?_; clear hK K)
      all_goals
        refine AW_r rfl rfl fun K hK => ?_
        simp (disch := omega) [wrap64, List.getElem?_eq_getElem, toNat_pred, DtInst.cells, DtCmd.cells, DtId.cells, h1, h2, zeroInst, zeroCmd]
        repeat' first | (exfalso; omega) | (refine ⟨fun _ => ?_, fun _ => ?_⟩) | (refine ⟨by omega, ?_⟩) | (intro _)
        all_goals (refine hK _ ?_; clear hK K)
        all_goals
          refine AW_cond rfl (fun hc4 => ?_) (fun hc4 => ?_)
          · try simp [decB_true, decB_false, eqB_true, eqB_false, cmpI_lt, cmpI_ge] at hc4
            all_goals
              refine AW_r rfl rfl fun K hK => ?_
              simp (disch := omega) [wrap64, List.getElem?_eq_getElem, toNat_pred, DtInst.cells, DtCmd.cells, DtId.cells, h1, h2, zeroInst, zeroCmd]
              repeat' first | (exfalso; omega) | (refine CKd_v (am2s_cons (am2_agg rfl) am2s_nil) (copyInst _ (by assumption) (by assumption)) rfl ?_; simp (disch := omega) [wrap64, List.getElem?_eq_getElem, toNat_pred, DtInst.cells, DtCmd.cells, DtId.cells, h1, h2, zeroInst, zeroCmd]) | (refine ⟨fun _ => ?_, fun _ => ?_⟩) | (refine ⟨by omega, ?_⟩) | (intro _)
              all_goals (refine hK _ ?_; clear hK K)
              all_goals
                refine AW_ret (end_s ?_)
                simp (disch := omega) [wrap64, List.getElem?_eq_getElem, toNat_pred, DtInst.cells, DtCmd.cells, DtId.cells, h1, h2, zeroInst, zeroCmd]
                all_goals simp
          · try simp [decB_true, decB_false, eqB_true, eqB_false, cmpI_lt, cmpI_ge] at hc4
            all_goals
              refine AW_skip ?_
              refine AW_id ?_
              refine AW_r rfl rfl fun K hK => ?_
              simp (disch := omega) [wrap64, List.getElem?_eq_getElem, toNat_pred, DtInst.cells, DtCmd.cells, DtId.cells, h1, h2, zeroInst, zeroCmd]
              repeat' first | (exfalso; omega) | (refine ⟨fun _ => ?_, fun _ => ?_⟩) | (refine ⟨by omega, ?_⟩) | (intro _)
              all_goals (refine hK _ ?_; clear hK K)
              all_goals
                refine AW_ret (end_s ?_)
                simp (disch := omega) [wrap64, List.getElem?_eq_getElem, toNat_pred, DtInst.cells, DtCmd.cells, DtId.cells, h1, h2, zeroInst, zeroCmd]
                all_goals simp
end Go.Proofs.YtopeonnaalpmjaaGreat.Vs
