import Derived.Test.YtopdaicfhfjmgaaSV1
open Go Go.Proofs Go.Proofs.Ytopdaicfhfjmgaa.Vs
namespace Go.Proofs.Ytopdaicfhfjmgaa.Vs
set_option linter.unusedVariables false
set_option linter.unusedSimpArgs false
set_option linter.unusedSectionVars false
set_option linter.unnecessarySimpa false
set_option linter.all false
set_option linter.unusedSimpArgs false
set_option linter.unusedVariables false
set_option maxRecDepth 100000
def catM {α : Type} (f : α → List UInt8) (l : List α) : List UInt8 := (l.map f).flatten
theorem catM_nil {α : Type} (f : α → List UInt8) : catM f [] = [] := rfl
theorem catM_take {α : Type} (f : α → List UInt8) (l : List α) (i : Nat) (h : i < l.length) : catM f (l.take (i + 1)) = catM f (l.take i) ++ f l[i] := by
  induction l generalizing i with
  | nil => simp at h
  | cons x xs ih =>
    cases i with
    | zero => simp [catM]
    | succ i =>
      have := ih i (by simpa using h)
      simp only [catM, List.take_succ_cons, List.map_cons, List.flatten_cons, List.getElem_cons_succ, List.append_assoc] at this ⊢
      rw [this]
theorem catM_len {α : Type} (f : α → List UInt8) (B : Nat) : ∀ (l : List α), (∀ x ∈ l, (f x).length ≤ B) → (catM f l).length ≤ l.length * B
  | [], _ => by simp [catM]
  | x :: xs, h => by
    have h1 := catM_len f B xs fun y hy => h y (by simp [hy])
    have h2 := h x (by simp)
    simp only [catM, List.map_cons, List.flatten_cons, List.length_append, List.length_cons] at h1 ⊢
    rw [Nat.succ_mul]; omega
theorem catM_bd {α : Type} (f : α → List UInt8) (B : Nat) (l : List α) (h : ∀ x ∈ l, (f x).length ≤ B) (i : Nat) : (catM f (l.take i)).length ≤ l.length * B := by
  have h1 := catM_len f B (l.take i) fun x hx => h x (List.mem_of_mem_take hx)
  have h2 : (l.take i).length ≤ l.length := by simp; omega
  exact Nat.le_trans h1 (Nat.mul_le_mul_right _ h2)
theorem piece_len (s : List UInt8) : (piece s).length ≤ 7 + s.length := by
  have := varZ_len s.length
  unfold piece; simp; omega
def showSnap (p : DtCSnap) : List UInt8 := piece p.fName ++ (piece p.fTag ++ (varZ p.fChunks.length ++ catM piece p.fChunks))
def showSet (s : DtCSet) : List UInt8 := piece s.fName ++ (varZ s.fSnaps.length ++ catM showSnap s.fSnaps)
def showSaid (x : DtSaid) : List UInt8 := varZ x.fClient ++ (varZ x.fNo ++ piece x.fText)
def showSt (s : DtState) : List UInt8 := varZ s.fCat.fSets.length ++ (catM showSet s.fCat.fSets ++ (varZ s.fSaid.length ++ catM showSaid s.fSaid))
noncomputable def showState (s : DtState) : List UInt8 := bif decB (StateP s) then showSt s else []
theorem mem_get {α : Type} {l : List α} {x : α} (h : x ∈ l) : ∃ i : Nat, l[i]? = some x := List.getElem?_of_mem h
theorem snap_bd {p : DtCSnap} (h : SnapP p) : p.fName.length ≤ 8 ∧ p.fTag.length ≤ 8 ∧ p.fChunks.length ≤ 4 ∧ (∀ x ∈ p.fChunks, x.length = 8) ∧ (showSnap p).length ≤ 97 := by
  obtain ⟨h1, h2, h3, h4, h5⟩ := h
  have a1 : p.fName.length ≤ 8 := h1.2.1
  have a2 : p.fTag.length ≤ 8 := by rcases h2 with h | h; simp [h]; exact h.2.1
  have a3 : ∀ x ∈ p.fChunks, x.length = 8 := by intro x hx; obtain ⟨i, hi⟩ := mem_get hx; exact h5 i x hi
  refine ⟨a1, a2, h4, a3, ?_⟩
  have b1 := piece_len p.fName
  have b2 := piece_len p.fTag
  have b3 := varZ_len p.fChunks.length
  have b4 := catM_len piece 15 p.fChunks (fun x hx => by have := piece_len x; have := a3 x hx; omega)
  unfold showSnap
  simp only [List.length_append]
  omega
theorem set_bd {s : DtCSet} (h : SetP s) : s.fName.length ≤ 8 ∧ s.fSnaps.length ≤ 5 ∧ (∀ p ∈ s.fSnaps, SnapP p) ∧ (showSet s).length ≤ 507 := by
  obtain ⟨h1, h2, h3⟩ := h
  have a3 : ∀ p ∈ s.fSnaps, SnapP p := by intro p hp; obtain ⟨i, hi⟩ := mem_get hp; exact (h3 i p hi).1
  refine ⟨h1.2.1, h2, a3, ?_⟩
  have b1 := piece_len s.fName
  have b2 := h1.2.1
  have b3 := varZ_len s.fSnaps.length
  have b4 := catM_len showSnap 97 s.fSnaps (fun p hp => (snap_bd (a3 p hp)).2.2.2.2)
  unfold showSet
  simp only [List.length_append]
  omega
theorem said_bd {x : DtSaid} (h : x.fText.length ≤ 1048576) : (showSaid x).length ≤ 1048597 := by
  have b1 := piece_len x.fText
  have b2 := varZ_len x.fClient
  have b3 := varZ_len x.fNo
  unfold showSaid
  simp only [List.length_append]
  omega
theorem saidSz (s : DtState) (hs : DtState.sz s ≤ 1048576) : s.fSaid.length ≤ 1048576 ∧ ∀ x ∈ s.fSaid, x.fText.length ≤ 1048576 := by
  have h0 := sumZ_nonneg DtSaid.sz_nonneg s.fSaid
  have h1 := DtCatalog.sz_nonneg s.fCat
  simp only [DtState.sz, szS] at hs
  refine ⟨by omega, fun x hx => ?_⟩
  have h2 := sumZ_mem_le DtSaid.sz_nonneg s.fSaid x hx
  simp only [DtSaid.sz] at h2
  omega
theorem l26Texts (xs : List (List UInt8)) (h4 : xs.length ≤ 4) (h8 : ∀ x ∈ xs, x.length = 8) : PCall Try.prog 53 [.sl 1 (xs.map cS)] (.s (catM piece xs)) := by
  refine gcall_of_walk Try.func53 (by rfl) (by rfl) (by rw [Try.ntmps53]; exact Nat.le_of_ble_eq_true rfl) rfl (by decide) ?_
  rw [Try.ntmps53]
  refine AW_k [(0, _)] ⟨rfl, trivial⟩ ?_
  refine AW_r rfl rfl fun K hK => ?_
  simp (disch := omega) [wrap64, List.getElem?_eq_getElem, toNat_pred]
  repeat' first | (exfalso; omega) | (refine ⟨fun _ => ?_, fun _ => ?_⟩) | (refine ⟨by omega, ?_⟩) | (intro _)
  all_goals (refine hK _ ?_; clear hK K)
  all_goals
    refine AW_r rfl rfl fun K hK => ?_
    simp (disch := omega) [wrap64, List.getElem?_eq_getElem, toNat_pred]
    repeat' first | (exfalso; omega) | (refine ⟨fun _ => ?_, fun _ => ?_⟩) | (refine ⟨by omega, ?_⟩) | (intro _)
    all_goals (refine hK _ ?_; clear hK K)
    all_goals
      refine AW_seq ?_
      refine AW_r rfl rfl fun K hK => ?_
      simp (disch := omega) [wrap64, List.getElem?_eq_getElem, toNat_pred]
      repeat' first | (exfalso; omega) | (refine ⟨fun _ => ?_, fun _ => ?_⟩) | (refine ⟨by omega, ?_⟩) | (intro _)
      all_goals (refine hK _ ?_; clear hK K)
      all_goals
        refine AW_block ?_
        refine AW_loopS (fun mM sS => ∃ (i : Nat), mM = xs.length - i ∧ (i ≤ xs.length) ∧ sS = { env := lkE [(0, .sl 1 (xs.map cS)), (3, .s (catM piece (xs.take i))), (4, (.g (.int .i64 ((i : Nat)))))], ob := formOb [] [] }) ?_ ?_
        · refine ⟨_, LeS.kp [(0, .sl 1 (xs.map cS)), (3, .s (catM piece (xs.take (0)))), (4, (.g (.int .i64 (((0) : Nat)))))] (by simp [KpE, upd_app, lkE_app, lk_cons]; try simp [catM_nil]), _, 0, rfl, ?_, rfl⟩
          · simp
        · rintro mM sS ⟨i, rfl, hi, rfl⟩
          have hj := catM_bd piece 15 xs (fun x hx => by have := piece_len x; have := h8 x hx; omega) i
          refine AW_seq ?_
          refine AW_r rfl rfl fun K hK => ?_
          simp (disch := omega) [wrap64, List.getElem?_eq_getElem, toNat_pred, cS]
          repeat' first | (exfalso; omega) | (refine ⟨fun _ => ?_, fun _ => ?_⟩) | (refine ⟨by omega, ?_⟩) | (intro _)
          all_goals (refine hK _ ?_; clear hK K)
          all_goals
            refine AW_cond rfl (fun hc1 => ?_) (fun hc1 => ?_)
            · try simp [decB_true, decB_false, eqB_true, eqB_false] at hc1
              all_goals
                have hst := catM_take piece xs i (by omega)
                have hx8 := h8 _ (List.getElem_mem (n := i) (h := by omega))
                have hp8 := piece_len xs[i]
                refine AW_skip ?_
                refine AW_id ?_
                refine AW_seq ?_
                refine AW_block ?_
                refine AW_re rfl rfl fun K hK => ?_
                simp (disch := omega) [wrap64, List.getElem?_eq_getElem, toNat_pred, cS]
                repeat' first | (exfalso; omega) | (refine CKd_v (am2s_cons am2_s am2s_nil) (l4Piece _ (by omega)) rfl ?_; simp (disch := omega) [wrap64, List.getElem?_eq_getElem, toNat_pred, cS]) | (refine ⟨fun _ => ?_, fun _ => ?_⟩) | (refine ⟨by omega, ?_⟩) | (intro _)
                all_goals (refine hK _ ?_; clear hK K)
                all_goals
                  refine AW_id ?_
                  refine AW_re rfl rfl fun K hK => ?_
                  simp (disch := omega) [wrap64, List.getElem?_eq_getElem, toNat_pred, cS]
                  repeat' first | (exfalso; omega) | (refine ⟨fun _ => ?_, fun _ => ?_⟩) | (refine ⟨by omega, ?_⟩) | (intro _)
                  all_goals (refine hK _ ?_; clear hK K)
                  all_goals
                    refine ⟨_, LeS.kp [(0, .sl 1 (xs.map cS)), (3, .s (catM piece (xs.take (i + 1)))), (4, (.g (.int .i64 (((i + 1) : Nat)))))] (by simp [KpE, upd_app, lkE_app, lk_cons]; try simp [hst, catM_nil]), _, ?_, i + 1, rfl, ?_, rfl⟩
                    · omega
                    · omega
            · try simp [decB_true, decB_false, eqB_true, eqB_false] at hc1
              all_goals
                have hi2 : i = xs.length := by omega
                subst hi2
                simp only [List.take_length] at *
                refine AW_exit ?_
                refine AW_id ?_
                refine AW_r rfl rfl fun K hK => ?_
                simp (disch := omega) [wrap64, List.getElem?_eq_getElem, toNat_pred, cS]
                repeat' first | (exfalso; omega) | (refine ⟨fun _ => ?_, fun _ => ?_⟩) | (refine ⟨by omega, ?_⟩) | (intro _)
                all_goals (refine hK _ ?_; clear hK K)
                all_goals
                  refine AW_ret (end_s ?_)
                  simp (disch := omega) [wrap64, List.getElem?_eq_getElem, toNat_pred, cS]
                  all_goals first | omega | (simp_all; done) | (simp [List.take_of_length_le]; done) | ((try simp_all); (try simp (disch := omega) only [wrap64, Int.tdiv_eq_ediv_of_nonneg, Int.tmod_eq_emod_of_nonneg, and_true, true_and]); done) | ((try simp_all); (try simp (disch := omega) only [wrap64, Int.tdiv_eq_ediv_of_nonneg, Int.tmod_eq_emod_of_nonneg, and_true, true_and] at *); omega)
theorem specShowState (s : DtState) (hs : DtState.sz s ≤ 1048576) : PCall Try.prog 26 [.agg (DtState.cells s)] (.s (showState s)) := by
  have ⟨hz, hl⟩ := stateSz s hs
  obtain ⟨-, hT⟩ := saidSz s hs
  by_cases hP : StateP s
  · have hS : ∀ x ∈ s.fCat.fSets, SetP x := by intro x hx; obtain ⟨i, hi⟩ := mem_get hx; exact (hP.1.2 i x hi).1
    have h5 : s.fCat.fSets.length ≤ 5 := hP.1.1
    have hd := decB_t hP
    have hm : s.fSaid.length * 1048597 ≤ 1048576 * 1048597 := Nat.mul_le_mul_right _ hl
    have v1 := varZ_len s.fCat.fSets.length
    have v2 := varZ_len s.fSaid.length
    have v3 := catM_len showSet 507 s.fCat.fSets (fun x hx => (set_bd (hS x hx)).2.2.2)
    refine gcall_of_walk Try.func26 (by rfl) (by rfl) (by rw [Try.ntmps26]; exact Nat.le_of_ble_eq_true rfl) rfl (by decide) ?_
    rw [Try.ntmps26]
    refine AW_k [(0, _)] ⟨rfl, trivial⟩ ?_
    refine AW_r rfl rfl fun K hK => ?_
    simp (disch := omega) [wrap64, List.getElem?_eq_getElem, toNat_pred, DtState.cells, DtCatalog.cells, DtCSet.cells, DtCSnap.cells, DtSaid.cells, hd]
    repeat' first | (exfalso; omega) | (refine ⟨fun _ => ?_, fun _ => ?_⟩) | (refine ⟨by omega, ?_⟩) | (intro _)
    all_goals (refine hK _ ?_; clear hK K)
    all_goals
      refine AW_seq ?_
      refine AW_r rfl rfl fun K hK => ?_
      simp (disch := omega) [wrap64, List.getElem?_eq_getElem, toNat_pred, DtState.cells, DtCatalog.cells, DtCSet.cells, DtCSnap.cells, DtSaid.cells, hd]
      repeat' first | (exfalso; omega) | (refine CKd_v (am2s_cons (am2_agg rfl) am2s_nil) (specStateOk _ (by omega)) rfl ?_; simp (disch := omega) [wrap64, List.getElem?_eq_getElem, toNat_pred, DtState.cells, DtCatalog.cells, DtCSet.cells, DtCSnap.cells, DtSaid.cells, hd]) | (refine ⟨fun _ => ?_, fun _ => ?_⟩) | (refine ⟨by omega, ?_⟩) | (intro _)
      all_goals (refine hK _ ?_; clear hK K)
      all_goals
        refine AW_cond rfl (fun hc2 => ?_) (fun hc2 => ?_)
        · try simp [decB_true, decB_false, eqB_true, eqB_false] at hc2
          all_goals
            refine AW_r rfl rfl fun K hK => ?_
            simp (disch := omega) [wrap64, List.getElem?_eq_getElem, toNat_pred, DtState.cells, DtCatalog.cells, DtCSet.cells, DtCSnap.cells, DtSaid.cells, hd]
            repeat' first | (exfalso; omega) | (refine ⟨fun _ => ?_, fun _ => ?_⟩) | (refine ⟨by omega, ?_⟩) | (intro _)
            all_goals (refine hK _ ?_; clear hK K)
            all_goals
              refine AW_ret (end_s ?_)
              simp (disch := omega) [wrap64, List.getElem?_eq_getElem, toNat_pred, DtState.cells, DtCatalog.cells, DtCSet.cells, DtCSnap.cells, DtSaid.cells, hd]
              all_goals first | (simp [showState, hd, showSt]; done)
        · try simp [decB_true, decB_false, eqB_true, eqB_false] at hc2
          all_goals
            refine AW_skip ?_
            refine AW_id ?_
            refine AW_r rfl rfl fun K hK => ?_
            simp (disch := omega) [wrap64, List.getElem?_eq_getElem, toNat_pred, DtState.cells, DtCatalog.cells, DtCSet.cells, DtCSnap.cells, DtSaid.cells, hd]
            repeat' first | (exfalso; omega) | (refine CKd_v (am2s_cons am2_g am2s_nil) (specVar _) rfl ?_; simp (disch := omega) [wrap64, List.getElem?_eq_getElem, toNat_pred, DtState.cells, DtCatalog.cells, DtCSet.cells, DtCSnap.cells, DtSaid.cells, hd]) | (refine ⟨fun _ => ?_, fun _ => ?_⟩) | (refine ⟨by omega, ?_⟩) | (intro _)
            all_goals (refine hK _ ?_; clear hK K)
            all_goals
              refine AW_seq ?_
              refine AW_r rfl rfl fun K hK => ?_
              simp (disch := omega) [wrap64, List.getElem?_eq_getElem, toNat_pred, DtState.cells, DtCatalog.cells, DtCSet.cells, DtCSnap.cells, DtSaid.cells, hd]
              repeat' first | (exfalso; omega) | (refine ⟨fun _ => ?_, fun _ => ?_⟩) | (refine ⟨by omega, ?_⟩) | (intro _)
              all_goals (refine hK _ ?_; clear hK K)
              all_goals
                refine AW_block ?_
                refine AW_loopS (fun mM sS => ∃ (i : Nat), mM = s.fCat.fSets.length - i ∧ (i ≤ s.fCat.fSets.length) ∧ sS = { env := lkE [(1, .ptr 32 0), (3, .s (varZ s.fCat.fSets.length ++ catM showSet (s.fCat.fSets.take i))), (4, (.g (.int .i64 ((i : Nat)))))], ob := lk [(32, .cells (DtState.cells s))] }) ?_ ?_
                · refine ⟨_, LeS.ko [(1, .ptr 32 0), (3, .s (varZ s.fCat.fSets.length ++ catM showSet (s.fCat.fSets.take (0)))), (4, (.g (.int .i64 (((0) : Nat)))))] [(32, .cells (DtState.cells s))] (by simp [KpE, upd_app, lkE_app, lk_cons, DtState.cells, DtCatalog.cells, DtCSet.cells, DtCSnap.cells]; try simp [catM_nil]) (by simp [KpO, upd_app, lk_cons, lk_nil, formOb_nn, DtState.cells, DtCatalog.cells, DtCSet.cells, DtCSnap.cells]; try rfl) (by rfl) (by simp) (by rfl), _, 0, rfl, ?_, rfl⟩
                  · simp
                · rintro mM sS ⟨i, rfl, hi, rfl⟩
                  have hb1 := catM_bd showSet 507 s.fCat.fSets (fun x hx => (set_bd (hS x hx)).2.2.2) i
                  refine AW_seq ?_
                  refine AW_r rfl rfl fun K hK => ?_
                  simp (disch := omega) [wrap64, List.getElem?_eq_getElem, toNat_pred, DtState.cells, DtCatalog.cells, DtCSet.cells, DtCSnap.cells, DtSaid.cells, hd]
                  repeat' first | (exfalso; omega) | (refine ⟨fun _ => ?_, fun _ => ?_⟩) | (refine ⟨by omega, ?_⟩) | (intro _)
                  all_goals (refine hK _ ?_; clear hK K)
                  all_goals
                    refine AW_cond rfl (fun hc3 => ?_) (fun hc3 => ?_)
                    · try simp [decB_true, decB_false, eqB_true, eqB_false] at hc3
                      all_goals
                        have hst := catM_take showSet s.fCat.fSets i (by omega)
                        have ⟨e1, e2, e3, e4⟩ := set_bd (hS _ (List.getElem_mem (n := i) (h := by omega)))
                        have e5 := piece_len (s.fCat.fSets[i]).fName
                        have e6 := varZ_len (s.fCat.fSets[i]).fSnaps.length
                        refine AW_skip ?_
                        refine AW_id ?_
                        refine AW_seq ?_
                        refine AW_block ?_
                        refine AW_r rfl rfl fun K hK => ?_
                        simp (disch := omega) [wrap64, List.getElem?_eq_getElem, toNat_pred, DtState.cells, DtCatalog.cells, DtCSet.cells, DtCSnap.cells, DtSaid.cells, hd]
                        repeat' first | (exfalso; omega) | (refine ⟨fun _ => ?_, fun _ => ?_⟩) | (refine ⟨by omega, ?_⟩) | (intro _)
                        all_goals (refine hK _ ?_; clear hK K)
                        all_goals
                          refine AW_q rfl mix (by kernel_rfl) rfl fun K hK => ?_
                          simp (disch := omega) [wrap64, List.getElem?_eq_getElem, toNat_pred, DtState.cells, DtCatalog.cells, DtCSet.cells, DtCSnap.cells, DtSaid.cells, hd]
                          repeat' first | (exfalso; omega) | (refine CKd_v (am2s_cons am2_s am2s_nil) (l4Piece _ (by omega)) rfl ?_; simp (disch := omega) [wrap64, List.getElem?_eq_getElem, toNat_pred, DtState.cells, DtCatalog.cells, DtCSet.cells, DtCSnap.cells, DtSaid.cells, hd]) | (refine CKd_v (am2s_cons am2_g am2s_nil) (specVar _) rfl ?_; simp (disch := omega) [wrap64, List.getElem?_eq_getElem, toNat_pred, DtState.cells, DtCatalog.cells, DtCSet.cells, DtCSnap.cells, DtSaid.cells, hd]) | (refine ⟨fun _ => ?_, fun _ => ?_⟩) | (refine ⟨by omega, ?_⟩) | (intro _)
                          all_goals (refine hK _ ?_; clear hK K)
                          all_goals
                            refine AW_r rfl rfl fun K hK => ?_
                            simp (disch := omega) [wrap64, List.getElem?_eq_getElem, toNat_pred, DtState.cells, DtCatalog.cells, DtCSet.cells, DtCSnap.cells, DtSaid.cells, hd]
                            repeat' first | (exfalso; omega) | (refine ⟨fun _ => ?_, fun _ => ?_⟩) | (refine ⟨by omega, ?_⟩) | (intro _)
                            all_goals (refine hK _ ?_; clear hK K)
                            all_goals
                              refine AW_block ?_
                              refine AW_loopS (fun mM sS => ∃ (k : Nat), mM = (s.fCat.fSets[i]).fSnaps.length - k ∧ (k ≤ (s.fCat.fSets[i]).fSnaps.length) ∧ sS = { env := lkE [(1, .ptr 32 0), (3, .s (varZ s.fCat.fSets.length ++ (catM showSet (s.fCat.fSets.take i) ++ (piece (s.fCat.fSets[i]).fName ++ (varZ (s.fCat.fSets[i]).fSnaps.length ++ catM showSnap ((s.fCat.fSets[i]).fSnaps.take k)))))), (4, (.g (.int .i64 ((i : Nat))))), (5, .ptr 96 0), (6, (.g (.int .i64 ((k : Nat)))))], ob := lk [(32, .cells (DtState.cells s)), (96, .cells (DtCSet.cells s.fCat.fSets[i]))] }) ?_ ?_
                              · refine ⟨_, LeS.ko [(1, .ptr 32 0), (3, .s (varZ s.fCat.fSets.length ++ (catM showSet (s.fCat.fSets.take i) ++ (piece (s.fCat.fSets[i]).fName ++ (varZ (s.fCat.fSets[i]).fSnaps.length ++ catM showSnap ((s.fCat.fSets[i]).fSnaps.take (0))))))), (4, (.g (.int .i64 ((i : Nat))))), (5, .ptr 96 0), (6, (.g (.int .i64 (((0) : Nat)))))] [(32, .cells (DtState.cells s)), (96, .cells (DtCSet.cells s.fCat.fSets[i]))] (by simp [KpE, upd_app, lkE_app, lk_cons, DtState.cells, DtCatalog.cells, DtCSet.cells, DtCSnap.cells]; try simp [catM_nil]) (by simp [KpO, upd_app, lk_cons, lk_nil, formOb_nn, DtState.cells, DtCatalog.cells, DtCSet.cells, DtCSnap.cells]; try rfl) (by rfl) (by simp) (by rfl), _, 0, rfl, ?_, rfl⟩
                                · simp
                              · rintro mM sS ⟨k, rfl, hk, rfl⟩
                                have hb2 := catM_bd showSnap 97 (s.fCat.fSets[i]).fSnaps (fun p hp => (snap_bd (e3 p hp)).2.2.2.2) k
                                refine AW_seq ?_
                                refine AW_r rfl rfl fun K hK => ?_
                                simp (disch := omega) [wrap64, List.getElem?_eq_getElem, toNat_pred, DtState.cells, DtCatalog.cells, DtCSet.cells, DtCSnap.cells, DtSaid.cells, hd]
                                repeat' first | (exfalso; omega) | (refine ⟨fun _ => ?_, fun _ => ?_⟩) | (refine ⟨by omega, ?_⟩) | (intro _)
                                all_goals (refine hK _ ?_; clear hK K)
                                all_goals
                                  refine AW_cond rfl (fun hc4 => ?_) (fun hc4 => ?_)
                                  · try simp [decB_true, decB_false, eqB_true, eqB_false] at hc4
                                    all_goals
                                      have hsp := catM_take showSnap (s.fCat.fSets[i]).fSnaps k (by omega)
                                      have ⟨f1, f2, f3, f4, f5⟩ := snap_bd (e3 _ (List.getElem_mem (n := k) (h := by omega)))
                                      have f6 := piece_len ((s.fCat.fSets[i]).fSnaps[k]).fName
                                      have f7 := piece_len ((s.fCat.fSets[i]).fSnaps[k]).fTag
                                      have f8 := varZ_len ((s.fCat.fSets[i]).fSnaps[k]).fChunks.length
                                      have f9 := catM_len piece 15 ((s.fCat.fSets[i]).fSnaps[k]).fChunks (fun x hx => by have := piece_len x; have := f4 x hx; omega)
                                      refine AW_skip ?_
                                      refine AW_id ?_
                                      refine AW_seq ?_
                                      refine AW_block ?_
                                      refine AW_r rfl rfl fun K hK => ?_
                                      simp (disch := omega) [wrap64, List.getElem?_eq_getElem, toNat_pred, DtState.cells, DtCatalog.cells, DtCSet.cells, DtCSnap.cells, DtSaid.cells, hd]
                                      repeat' first | (exfalso; omega) | (refine ⟨fun _ => ?_, fun _ => ?_⟩) | (refine ⟨by omega, ?_⟩) | (intro _)
                                      all_goals (refine hK _ ?_; clear hK K)
                                      all_goals
                                        refine AW_qe rfl mix (by kernel_rfl) rfl fun K hK => ?_
                                        simp (disch := omega) [wrap64, List.getElem?_eq_getElem, toNat_pred, DtState.cells, DtCatalog.cells, DtCSet.cells, DtCSnap.cells, DtSaid.cells, hd]
                                        repeat' first | (exfalso; omega) | (refine CKd_v (am2s_cons am2_s am2s_nil) (l4Piece _ (by omega)) rfl ?_; simp (disch := omega) [wrap64, List.getElem?_eq_getElem, toNat_pred, DtState.cells, DtCatalog.cells, DtCSet.cells, DtCSnap.cells, DtSaid.cells, hd]) | (refine CKd_v (am2s_cons am2_g am2s_nil) (specVar _) rfl ?_; simp (disch := omega) [wrap64, List.getElem?_eq_getElem, toNat_pred, DtState.cells, DtCatalog.cells, DtCSet.cells, DtCSnap.cells, DtSaid.cells, hd]) | (refine CKd_v (am2s_cons am2_sl am2s_nil) (l26Texts _ (by omega) (by assumption)) rfl ?_; simp (disch := omega) [wrap64, List.getElem?_eq_getElem, toNat_pred, DtState.cells, DtCatalog.cells, DtCSet.cells, DtCSnap.cells, DtSaid.cells, hd]) | (refine ⟨fun _ => ?_, fun _ => ?_⟩) | (refine ⟨by omega, ?_⟩) | (intro _)
                                        all_goals (refine hK _ ?_; clear hK K)
                                        all_goals
                                          refine AW_id ?_
                                          refine AW_re rfl rfl fun K hK => ?_
                                          simp (disch := omega) [wrap64, List.getElem?_eq_getElem, toNat_pred, DtState.cells, DtCatalog.cells, DtCSet.cells, DtCSnap.cells, DtSaid.cells, hd]
                                          repeat' first | (exfalso; omega) | (refine ⟨fun _ => ?_, fun _ => ?_⟩) | (refine ⟨by omega, ?_⟩) | (intro _)
                                          all_goals (refine hK _ ?_; clear hK K)
                                          all_goals
                                            refine ⟨_, LeS.ko [(1, .ptr 32 0), (3, .s (varZ s.fCat.fSets.length ++ (catM showSet (s.fCat.fSets.take i) ++ (piece (s.fCat.fSets[i]).fName ++ (varZ (s.fCat.fSets[i]).fSnaps.length ++ catM showSnap ((s.fCat.fSets[i]).fSnaps.take (k + 1))))))), (4, (.g (.int .i64 ((i : Nat))))), (5, .ptr 96 0), (6, (.g (.int .i64 (((k + 1) : Nat)))))] [(32, .cells (DtState.cells s)), (96, .cells (DtCSet.cells s.fCat.fSets[i]))] (by simp [KpE, upd_app, lkE_app, lk_cons, DtState.cells, DtCatalog.cells, DtCSet.cells, DtCSnap.cells]; try simp [hsp, catM_nil, showSnap]) (by simp [KpO, upd_app, lk_cons, lk_nil, formOb_nn, DtState.cells, DtCatalog.cells, DtCSet.cells, DtCSnap.cells]; try rfl) (by rfl) (by simp) (by rfl), _, ?_, k + 1, rfl, ?_, rfl⟩
                                            · omega
                                            · omega
                                  · try simp [decB_true, decB_false, eqB_true, eqB_false] at hc4
                                    all_goals
                                      have hk2 : k = (s.fCat.fSets[i]).fSnaps.length := by omega
                                      subst hk2
                                      simp only [List.take_length] at *
                                      refine AW_exit ?_
                                      refine AW_id ?_
                                      refine AW_re rfl rfl fun K hK => ?_
                                      simp (disch := omega) [wrap64, List.getElem?_eq_getElem, toNat_pred, DtState.cells, DtCatalog.cells, DtCSet.cells, DtCSnap.cells, DtSaid.cells, hd]
                                      repeat' first | (exfalso; omega) | (refine ⟨fun _ => ?_, fun _ => ?_⟩) | (refine ⟨by omega, ?_⟩) | (intro _)
                                      all_goals (refine hK _ ?_; clear hK K)
                                      all_goals
                                        refine ⟨_, LeS.ko [(1, .ptr 32 0), (3, .s (varZ s.fCat.fSets.length ++ catM showSet (s.fCat.fSets.take (i + 1)))), (4, (.g (.int .i64 (((i + 1) : Nat)))))] [(32, .cells (DtState.cells s))] (by simp [KpE, upd_app, lkE_app, lk_cons, DtState.cells, DtCatalog.cells, DtCSet.cells, DtCSnap.cells]; try simp [hst, catM_nil, showSet]) (by simp [KpO, upd_app, lk_cons, lk_nil, formOb_nn, DtState.cells, DtCatalog.cells, DtCSet.cells, DtCSnap.cells]; try rfl) (by rfl) (by simp) (by rfl), _, ?_, i + 1, rfl, ?_, rfl⟩
                                        · omega
                                        · omega
                    · try simp [decB_true, decB_false, eqB_true, eqB_false] at hc3
                      all_goals
                        have hi2 : i = s.fCat.fSets.length := by omega
                        subst hi2
                        simp only [List.take_length] at *
                        refine AW_exit ?_
                        refine AW_id ?_
                        refine AW_r rfl rfl fun K hK => ?_
                        simp (disch := omega) [wrap64, List.getElem?_eq_getElem, toNat_pred, DtState.cells, DtCatalog.cells, DtCSet.cells, DtCSnap.cells, DtSaid.cells, hd]
                        repeat' first | (exfalso; omega) | (refine CKd_v (am2s_cons am2_g am2s_nil) (specVar _) rfl ?_; simp (disch := omega) [wrap64, List.getElem?_eq_getElem, toNat_pred, DtState.cells, DtCatalog.cells, DtCSet.cells, DtCSnap.cells, DtSaid.cells, hd]) | (refine ⟨fun _ => ?_, fun _ => ?_⟩) | (refine ⟨by omega, ?_⟩) | (intro _)
                        all_goals (refine hK _ ?_; clear hK K)
                        all_goals
                          refine AW_seq ?_
                          refine AW_r rfl rfl fun K hK => ?_
                          simp (disch := omega) [wrap64, List.getElem?_eq_getElem, toNat_pred, DtState.cells, DtCatalog.cells, DtCSet.cells, DtCSnap.cells, DtSaid.cells, hd]
                          repeat' first | (exfalso; omega) | (refine ⟨fun _ => ?_, fun _ => ?_⟩) | (refine ⟨by omega, ?_⟩) | (intro _)
                          all_goals (refine hK _ ?_; clear hK K)
                          all_goals
                            refine AW_block ?_
                            refine AW_loopS (fun mM sS => ∃ (i : Nat), mM = s.fSaid.length - i ∧ (i ≤ s.fSaid.length) ∧ sS = { env := lkE [(1, .ptr 32 0), (3, .s (varZ s.fCat.fSets.length ++ (catM showSet s.fCat.fSets ++ (varZ s.fSaid.length ++ catM showSaid (s.fSaid.take i))))), (8, (.g (.int .i64 ((i : Nat)))))], ob := lk [(32, .cells (DtState.cells s))] }) ?_ ?_
                            · refine ⟨_, LeS.ko [(1, .ptr 32 0), (3, .s (varZ s.fCat.fSets.length ++ (catM showSet s.fCat.fSets ++ (varZ s.fSaid.length ++ catM showSaid (s.fSaid.take (0)))))), (8, (.g (.int .i64 (((0) : Nat)))))] [(32, .cells (DtState.cells s))] (by simp [KpE, upd_app, lkE_app, lk_cons, DtState.cells, DtCatalog.cells, DtSaid.cells]; try simp [catM_nil]) (by simp [KpO, upd_app, lk_cons, lk_nil, formOb_nn, DtState.cells, DtCatalog.cells, DtSaid.cells]; try rfl) (by rfl) (by simp) (by rfl), _, 0, rfl, ?_, rfl⟩
                              · simp
                            · rintro mM sS ⟨i, rfl, hi, rfl⟩
                              have hb3 := catM_bd showSaid 1048597 s.fSaid (fun x hx => said_bd (hT x hx)) i
                              refine AW_seq ?_
                              refine AW_r rfl rfl fun K hK => ?_
                              simp (disch := omega) [wrap64, List.getElem?_eq_getElem, toNat_pred, DtState.cells, DtCatalog.cells, DtCSet.cells, DtCSnap.cells, DtSaid.cells, hd]
                              repeat' first | (exfalso; omega) | (refine ⟨fun _ => ?_, fun _ => ?_⟩) | (refine ⟨by omega, ?_⟩) | (intro _)
                              all_goals (refine hK _ ?_; clear hK K)
                              all_goals
                                refine AW_cond rfl (fun hc5 => ?_) (fun hc5 => ?_)
                                · try simp [decB_true, decB_false, eqB_true, eqB_false] at hc5
                                  all_goals
                                    have hst := catM_take showSaid s.fSaid i (by omega)
                                    have g1 := hT _ (List.getElem_mem (n := i) (h := by omega))
                                    have g2 := piece_len (s.fSaid[i]).fText
                                    have g3 := varZ_len (s.fSaid[i]).fClient
                                    have g4 := varZ_len (s.fSaid[i]).fNo
                                    refine AW_skip ?_
                                    refine AW_id ?_
                                    refine AW_seq ?_
                                    refine AW_block ?_
                                    refine AW_qe rfl mix (by kernel_rfl) rfl fun K hK => ?_
                                    simp (disch := omega) [wrap64, List.getElem?_eq_getElem, toNat_pred, DtState.cells, DtCatalog.cells, DtCSet.cells, DtCSnap.cells, DtSaid.cells, hd]
                                    repeat' first | (exfalso; omega) | (refine CKd_v (am2s_cons am2_g am2s_nil) (specVar _) rfl ?_; simp (disch := omega) [wrap64, List.getElem?_eq_getElem, toNat_pred, DtState.cells, DtCatalog.cells, DtCSet.cells, DtCSnap.cells, DtSaid.cells, hd]) | (refine CKd_v (am2s_cons am2_s am2s_nil) (l4Piece _ (by omega)) rfl ?_; simp (disch := omega) [wrap64, List.getElem?_eq_getElem, toNat_pred, DtState.cells, DtCatalog.cells, DtCSet.cells, DtCSnap.cells, DtSaid.cells, hd]) | (refine ⟨fun _ => ?_, fun _ => ?_⟩) | (refine ⟨by omega, ?_⟩) | (intro _)
                                    all_goals (refine hK _ ?_; clear hK K)
                                    all_goals
                                      refine AW_id ?_
                                      refine AW_re rfl rfl fun K hK => ?_
                                      simp (disch := omega) [wrap64, List.getElem?_eq_getElem, toNat_pred, DtState.cells, DtCatalog.cells, DtCSet.cells, DtCSnap.cells, DtSaid.cells, hd]
                                      repeat' first | (exfalso; omega) | (refine ⟨fun _ => ?_, fun _ => ?_⟩) | (refine ⟨by omega, ?_⟩) | (intro _)
                                      all_goals (refine hK _ ?_; clear hK K)
                                      all_goals
                                        refine ⟨_, LeS.ko [(1, .ptr 32 0), (3, .s (varZ s.fCat.fSets.length ++ (catM showSet s.fCat.fSets ++ (varZ s.fSaid.length ++ catM showSaid (s.fSaid.take (i + 1)))))), (8, (.g (.int .i64 (((i + 1) : Nat)))))] [(32, .cells (DtState.cells s))] (by simp [KpE, upd_app, lkE_app, lk_cons, DtState.cells, DtCatalog.cells, DtSaid.cells]; try simp [hst, catM_nil, showSaid]) (by simp [KpO, upd_app, lk_cons, lk_nil, formOb_nn, DtState.cells, DtCatalog.cells, DtSaid.cells]; try rfl) (by rfl) (by simp) (by rfl), _, ?_, i + 1, rfl, ?_, rfl⟩
                                        · omega
                                        · omega
                                · try simp [decB_true, decB_false, eqB_true, eqB_false] at hc5
                                  all_goals
                                    have hi2 : i = s.fSaid.length := by omega
                                    subst hi2
                                    simp only [List.take_length] at *
                                    refine AW_exit ?_
                                    refine AW_id ?_
                                    refine AW_r rfl rfl fun K hK => ?_
                                    simp (disch := omega) [wrap64, List.getElem?_eq_getElem, toNat_pred, DtState.cells, DtCatalog.cells, DtCSet.cells, DtCSnap.cells, DtSaid.cells, hd]
                                    repeat' first | (exfalso; omega) | (refine ⟨fun _ => ?_, fun _ => ?_⟩) | (refine ⟨by omega, ?_⟩) | (intro _)
                                    all_goals (refine hK _ ?_; clear hK K)
                                    all_goals
                                      refine AW_ret (end_s ?_)
                                      simp (disch := omega) [wrap64, List.getElem?_eq_getElem, toNat_pred, DtState.cells, DtCatalog.cells, DtCSet.cells, DtCSnap.cells, DtSaid.cells, hd]
                                      all_goals first | (simp [showState, hd, showSt]; done)
  · have hd := decB_f hP
    refine gcall_of_walk Try.func26 (by rfl) (by rfl) (by rw [Try.ntmps26]; exact Nat.le_of_ble_eq_true rfl) rfl (by decide) ?_
    rw [Try.ntmps26]
    refine AW_k [(0, _)] ⟨rfl, trivial⟩ ?_
    refine AW_r rfl rfl fun K hK => ?_
    simp (disch := omega) [wrap64, List.getElem?_eq_getElem, toNat_pred, DtState.cells, DtCatalog.cells, hd]
    refine hK _ ?_; clear hK K
    refine AW_seq (AW_r rfl rfl fun K hK => ?_)
    simp (disch := omega) [wrap64, List.getElem?_eq_getElem, toNat_pred, DtState.cells, DtCatalog.cells, hd]
    refine CKd_v (am2s_cons (am2_agg rfl) am2s_nil) (specStateOk _ hs) rfl ?_
    simp (disch := omega) [wrap64, List.getElem?_eq_getElem, toNat_pred, DtState.cells, DtCatalog.cells, hd]
    refine hK _ ?_; clear hK K
    refine AW_cond_true (by simp) ?_
    refine AW_r rfl rfl fun K hK => ?_
    simp (disch := omega) [wrap64, List.getElem?_eq_getElem, toNat_pred, DtState.cells, DtCatalog.cells, hd]
    repeat' first | (exfalso; omega) | (refine ⟨fun _ => ?_, fun _ => ?_⟩) | (refine ⟨by omega, ?_⟩) | (intro _)
    all_goals (refine hK _ ?_; clear hK K)
    all_goals
      refine AW_ret (end_s ?_)
      simp (disch := omega) [wrap64, List.getElem?_eq_getElem, toNat_pred, DtState.cells, DtCatalog.cells, hd, showState, hd]
      all_goals first | omega | (simp_all; done) | (simp [List.take_of_length_le]; done) | ((try simp_all); (try simp (disch := omega) only [wrap64, Int.tdiv_eq_ediv_of_nonneg, Int.tmod_eq_emod_of_nonneg, and_true, true_and]); done) | ((try simp_all); (try simp (disch := omega) only [wrap64, Int.tdiv_eq_ediv_of_nonneg, Int.tmod_eq_emod_of_nonneg, and_true, true_and] at *); omega)
theorem implShowState (s : DtState) (hs : DtState.sz s ≤ 1048576) : PCall Try.prog 27 [.agg (DtState.cells s)] (.s (showState s)) := by
  have ⟨hz, hl⟩ := stateSz s hs
  obtain ⟨-, hT⟩ := saidSz s hs
  by_cases hP : StateP s
  · have hS : ∀ x ∈ s.fCat.fSets, SetP x := by intro x hx; obtain ⟨i, hi⟩ := mem_get hx; exact (hP.1.2 i x hi).1
    have h5 : s.fCat.fSets.length ≤ 5 := hP.1.1
    have hd := decB_t hP
    have hm : s.fSaid.length * 1048597 ≤ 1048576 * 1048597 := Nat.mul_le_mul_right _ hl
    have v1 := varZ_len s.fCat.fSets.length
    have v2 := varZ_len s.fSaid.length
    have v3 := catM_len showSet 507 s.fCat.fSets (fun x hx => (set_bd (hS x hx)).2.2.2)
    refine gcall_of_walk Try.func27 (by rfl) (by rfl) (by rw [Try.ntmps27]; exact Nat.le_of_ble_eq_true rfl) rfl (by decide) ?_
    rw [Try.ntmps27]
    refine AW_k [(0, _)] ⟨rfl, trivial⟩ ?_
    refine AW_r rfl rfl fun K hK => ?_
    simp (disch := omega) [wrap64, List.getElem?_eq_getElem, toNat_pred, DtState.cells, DtCatalog.cells, DtCSet.cells, DtCSnap.cells, DtSaid.cells, hd]
    repeat' first | (exfalso; omega) | (refine ⟨fun _ => ?_, fun _ => ?_⟩) | (refine ⟨by omega, ?_⟩) | (intro _)
    all_goals (refine hK _ ?_; clear hK K)
    all_goals
      refine AW_seq ?_
      refine AW_r rfl rfl fun K hK => ?_
      simp (disch := omega) [wrap64, List.getElem?_eq_getElem, toNat_pred, DtState.cells, DtCatalog.cells, DtCSet.cells, DtCSnap.cells, DtSaid.cells, hd]
      repeat' first | (exfalso; omega) | (refine CKd_v (am2s_cons (am2_agg rfl) am2s_nil) (implStateOk _ (by omega)) rfl ?_; simp (disch := omega) [wrap64, List.getElem?_eq_getElem, toNat_pred, DtState.cells, DtCatalog.cells, DtCSet.cells, DtCSnap.cells, DtSaid.cells, hd]) | (refine ⟨fun _ => ?_, fun _ => ?_⟩) | (refine ⟨by omega, ?_⟩) | (intro _)
      all_goals (refine hK _ ?_; clear hK K)
      all_goals
        refine AW_cond rfl (fun hc6 => ?_) (fun hc6 => ?_)
        · try simp [decB_true, decB_false, eqB_true, eqB_false] at hc6
          all_goals
            refine AW_r rfl rfl fun K hK => ?_
            simp (disch := omega) [wrap64, List.getElem?_eq_getElem, toNat_pred, DtState.cells, DtCatalog.cells, DtCSet.cells, DtCSnap.cells, DtSaid.cells, hd]
            repeat' first | (exfalso; omega) | (refine ⟨fun _ => ?_, fun _ => ?_⟩) | (refine ⟨by omega, ?_⟩) | (intro _)
            all_goals (refine hK _ ?_; clear hK K)
            all_goals
              refine AW_ret (end_s ?_)
              simp (disch := omega) [wrap64, List.getElem?_eq_getElem, toNat_pred, DtState.cells, DtCatalog.cells, DtCSet.cells, DtCSnap.cells, DtSaid.cells, hd]
              all_goals first | (simp [showState, hd, showSt]; done)
        · try simp [decB_true, decB_false, eqB_true, eqB_false] at hc6
          all_goals
            refine AW_skip ?_
            refine AW_id ?_
            refine AW_r rfl rfl fun K hK => ?_
            simp (disch := omega) [wrap64, List.getElem?_eq_getElem, toNat_pred, DtState.cells, DtCatalog.cells, DtCSet.cells, DtCSnap.cells, DtSaid.cells, hd]
            repeat' first | (exfalso; omega) | (refine CKd_v (am2s_cons am2_g am2s_nil) (implVar _) rfl ?_; simp (disch := omega) [wrap64, List.getElem?_eq_getElem, toNat_pred, DtState.cells, DtCatalog.cells, DtCSet.cells, DtCSnap.cells, DtSaid.cells, hd]) | (refine ⟨fun _ => ?_, fun _ => ?_⟩) | (refine ⟨by omega, ?_⟩) | (intro _)
            all_goals (refine hK _ ?_; clear hK K)
            all_goals
              refine AW_seq ?_
              refine AW_r rfl rfl fun K hK => ?_
              simp (disch := omega) [wrap64, List.getElem?_eq_getElem, toNat_pred, DtState.cells, DtCatalog.cells, DtCSet.cells, DtCSnap.cells, DtSaid.cells, hd]
              repeat' first | (exfalso; omega) | (refine ⟨fun _ => ?_, fun _ => ?_⟩) | (refine ⟨by omega, ?_⟩) | (intro _)
              all_goals (refine hK _ ?_; clear hK K)
              all_goals
                refine AW_block ?_
                refine AW_loopS (fun mM sS => ∃ (i : Nat), mM = s.fCat.fSets.length - i ∧ (i ≤ s.fCat.fSets.length) ∧ sS = { env := lkE [(1, .ptr 32 0), (3, .s (varZ s.fCat.fSets.length ++ catM showSet (s.fCat.fSets.take i))), (22, .sl 2 (s.fCat.fSets.map DtCSet.cells)), (23, (.g (.int .i64 ((s.fCat.fSets.length : Nat))))), (24, (.g (.int .i64 ((i : Nat)))))], ob := lk [(32, .cells (DtState.cells s))] }) ?_ ?_
                · refine ⟨_, LeS.ko [(1, .ptr 32 0), (3, .s (varZ s.fCat.fSets.length ++ catM showSet (s.fCat.fSets.take (0)))), (22, .sl 2 (s.fCat.fSets.map DtCSet.cells)), (23, (.g (.int .i64 ((s.fCat.fSets.length : Nat))))), (24, (.g (.int .i64 (((0) : Nat)))))] [(32, .cells (DtState.cells s))] (by simp [KpE, upd_app, lkE_app, lk_cons, DtState.cells, DtCatalog.cells, DtCSet.cells, DtCSnap.cells]; try simp [catM_nil]) (by simp [KpO, upd_app, lk_cons, lk_nil, formOb_nn, DtState.cells, DtCatalog.cells, DtCSet.cells, DtCSnap.cells]; try rfl) (by rfl) (by simp) (by rfl), _, 0, rfl, ?_, rfl⟩
                  · simp
                · rintro mM sS ⟨i, rfl, hi, rfl⟩
                  have hb1 := catM_bd showSet 507 s.fCat.fSets (fun x hx => (set_bd (hS x hx)).2.2.2) i
                  refine AW_r rfl rfl fun K hK => ?_
                  simp (disch := omega) [wrap64, List.getElem?_eq_getElem, toNat_pred, DtState.cells, DtCatalog.cells, DtCSet.cells, DtCSnap.cells, DtSaid.cells, hd]
                  repeat' first | (exfalso; omega) | (refine ⟨fun _ => ?_, fun _ => ?_⟩) | (refine ⟨by omega, ?_⟩) | (intro _)
                  all_goals (refine hK _ ?_; clear hK K)
                  all_goals
                    refine AW_seq ?_
                    refine AW_cond rfl (fun hc7 => ?_) (fun hc7 => ?_)
                    · try simp [decB_true, decB_false, eqB_true, eqB_false] at hc7
                      all_goals
                        have hst := catM_take showSet s.fCat.fSets i (by omega)
                        have ⟨e1, e2, e3, e4⟩ := set_bd (hS _ (List.getElem_mem (n := i) (h := by omega)))
                        have e5 := piece_len (s.fCat.fSets[i]).fName
                        have e6 := varZ_len (s.fCat.fSets[i]).fSnaps.length
                        refine AW_skip ?_
                        refine AW_id ?_
                        refine AW_seq ?_
                        refine AW_block ?_
                        refine AW_r rfl rfl fun K hK => ?_
                        simp (disch := omega) [wrap64, List.getElem?_eq_getElem, toNat_pred, DtState.cells, DtCatalog.cells, DtCSet.cells, DtCSnap.cells, DtSaid.cells, hd]
                        repeat' first | (exfalso; omega) | (refine ⟨fun _ => ?_, fun _ => ?_⟩) | (refine ⟨by omega, ?_⟩) | (intro _)
                        all_goals (refine hK _ ?_; clear hK K)
                        all_goals
                          refine AW_q rfl mix (by kernel_rfl) rfl fun K hK => ?_
                          simp (disch := omega) [wrap64, List.getElem?_eq_getElem, toNat_pred, DtState.cells, DtCatalog.cells, DtCSet.cells, DtCSnap.cells, DtSaid.cells, hd]
                          repeat' first | (exfalso; omega) | (refine CKd_v (am2s_cons am2_s am2s_nil) (sized _ (by omega)) rfl ?_; simp (disch := omega) [wrap64, List.getElem?_eq_getElem, toNat_pred, DtState.cells, DtCatalog.cells, DtCSet.cells, DtCSnap.cells, DtSaid.cells, hd]) | (refine CKd_v (am2s_cons am2_g am2s_nil) (implVar _) rfl ?_; simp (disch := omega) [wrap64, List.getElem?_eq_getElem, toNat_pred, DtState.cells, DtCatalog.cells, DtCSet.cells, DtCSnap.cells, DtSaid.cells, hd]) | (refine ⟨fun _ => ?_, fun _ => ?_⟩) | (refine ⟨by omega, ?_⟩) | (intro _)
                          all_goals (refine hK _ ?_; clear hK K)
                          all_goals
                            refine AW_r rfl rfl fun K hK => ?_
                            simp (disch := omega) [wrap64, List.getElem?_eq_getElem, toNat_pred, DtState.cells, DtCatalog.cells, DtCSet.cells, DtCSnap.cells, DtSaid.cells, hd]
                            repeat' first | (exfalso; omega) | (refine ⟨fun _ => ?_, fun _ => ?_⟩) | (refine ⟨by omega, ?_⟩) | (intro _)
                            all_goals (refine hK _ ?_; clear hK K)
                            all_goals
                              refine AW_block ?_
                              refine AW_loopS (fun mM sS => ∃ (k : Nat), mM = (s.fCat.fSets[i]).fSnaps.length - k ∧ (k ≤ (s.fCat.fSets[i]).fSnaps.length) ∧ sS = { env := lkE [(1, .ptr 32 0), (3, .s (varZ s.fCat.fSets.length ++ (catM showSet (s.fCat.fSets.take i) ++ (piece (s.fCat.fSets[i]).fName ++ (varZ (s.fCat.fSets[i]).fSnaps.length ++ catM showSnap ((s.fCat.fSets[i]).fSnaps.take k)))))), (22, .sl 2 (s.fCat.fSets.map DtCSet.cells)), (23, (.g (.int .i64 ((s.fCat.fSets.length : Nat))))), (24, (.g (.int .i64 ((i : Nat))))), (5, .ptr 96 0), (39, .sl 3 ((s.fCat.fSets[i]).fSnaps.map DtCSnap.cells)), (40, (.g (.int .i64 (((s.fCat.fSets[i]).fSnaps.length : Nat))))), (41, (.g (.int .i64 ((k : Nat)))))], ob := lk [(32, .cells (DtState.cells s)), (96, .cells (DtCSet.cells s.fCat.fSets[i]))] }) ?_ ?_
                              · refine ⟨_, LeS.ko [(1, .ptr 32 0), (3, .s (varZ s.fCat.fSets.length ++ (catM showSet (s.fCat.fSets.take i) ++ (piece (s.fCat.fSets[i]).fName ++ (varZ (s.fCat.fSets[i]).fSnaps.length ++ catM showSnap ((s.fCat.fSets[i]).fSnaps.take (0))))))), (22, .sl 2 (s.fCat.fSets.map DtCSet.cells)), (23, (.g (.int .i64 ((s.fCat.fSets.length : Nat))))), (24, (.g (.int .i64 ((i : Nat))))), (5, .ptr 96 0), (39, .sl 3 ((s.fCat.fSets[i]).fSnaps.map DtCSnap.cells)), (40, (.g (.int .i64 (((s.fCat.fSets[i]).fSnaps.length : Nat))))), (41, (.g (.int .i64 (((0) : Nat)))))] [(32, .cells (DtState.cells s)), (96, .cells (DtCSet.cells s.fCat.fSets[i]))] (by simp [KpE, upd_app, lkE_app, lk_cons, DtState.cells, DtCatalog.cells, DtCSet.cells, DtCSnap.cells]; try simp [catM_nil]) (by simp [KpO, upd_app, lk_cons, lk_nil, formOb_nn, DtState.cells, DtCatalog.cells, DtCSet.cells, DtCSnap.cells]; try rfl) (by rfl) (by simp) (by rfl), _, 0, rfl, ?_, rfl⟩
                                · simp
                              · rintro mM sS ⟨k, rfl, hk, rfl⟩
                                have hb2 := catM_bd showSnap 97 (s.fCat.fSets[i]).fSnaps (fun p hp => (snap_bd (e3 p hp)).2.2.2.2) k
                                refine AW_r rfl rfl fun K hK => ?_
                                simp (disch := omega) [wrap64, List.getElem?_eq_getElem, toNat_pred, DtState.cells, DtCatalog.cells, DtCSet.cells, DtCSnap.cells, DtSaid.cells, hd]
                                repeat' first | (exfalso; omega) | (refine ⟨fun _ => ?_, fun _ => ?_⟩) | (refine ⟨by omega, ?_⟩) | (intro _)
                                all_goals (refine hK _ ?_; clear hK K)
                                all_goals
                                  refine AW_seq ?_
                                  refine AW_cond rfl (fun hc8 => ?_) (fun hc8 => ?_)
                                  · try simp [decB_true, decB_false, eqB_true, eqB_false] at hc8
                                    all_goals
                                      have hsp := catM_take showSnap (s.fCat.fSets[i]).fSnaps k (by omega)
                                      have ⟨f1, f2, f3, f4, f5⟩ := snap_bd (e3 _ (List.getElem_mem (n := k) (h := by omega)))
                                      have f6 := piece_len ((s.fCat.fSets[i]).fSnaps[k]).fName
                                      have f7 := piece_len ((s.fCat.fSets[i]).fSnaps[k]).fTag
                                      have f8 := varZ_len ((s.fCat.fSets[i]).fSnaps[k]).fChunks.length
                                      have f9 := catM_len piece 15 ((s.fCat.fSets[i]).fSnaps[k]).fChunks (fun x hx => by have := piece_len x; have := f4 x hx; omega)
                                      refine AW_skip ?_
                                      refine AW_id ?_
                                      refine AW_seq ?_
                                      refine AW_block ?_
                                      refine AW_r rfl rfl fun K hK => ?_
                                      simp (disch := omega) [wrap64, List.getElem?_eq_getElem, toNat_pred, DtState.cells, DtCatalog.cells, DtCSet.cells, DtCSnap.cells, DtSaid.cells, hd]
                                      repeat' first | (exfalso; omega) | (refine ⟨fun _ => ?_, fun _ => ?_⟩) | (refine ⟨by omega, ?_⟩) | (intro _)
                                      all_goals (refine hK _ ?_; clear hK K)
                                      all_goals
                                        refine AW_q rfl mix (by kernel_rfl) rfl fun K hK => ?_
                                        simp (disch := omega) [wrap64, List.getElem?_eq_getElem, toNat_pred, DtState.cells, DtCatalog.cells, DtCSet.cells, DtCSnap.cells, DtSaid.cells, hd]
                                        repeat' first | (exfalso; omega) | (refine CKd_v (am2s_cons am2_s am2s_nil) (sized _ (by omega)) rfl ?_; simp (disch := omega) [wrap64, List.getElem?_eq_getElem, toNat_pred, DtState.cells, DtCatalog.cells, DtCSet.cells, DtCSnap.cells, DtSaid.cells, hd]) | (refine CKd_v (am2s_cons am2_g am2s_nil) (implVar _) rfl ?_; simp (disch := omega) [wrap64, List.getElem?_eq_getElem, toNat_pred, DtState.cells, DtCatalog.cells, DtCSet.cells, DtCSnap.cells, DtSaid.cells, hd]) | (refine ⟨fun _ => ?_, fun _ => ?_⟩) | (refine ⟨by omega, ?_⟩) | (intro _)
                                        all_goals (refine hK _ ?_; clear hK K)
                                        all_goals
                                          refine AW_r rfl rfl fun K hK => ?_
                                          simp (disch := omega) [wrap64, List.getElem?_eq_getElem, toNat_pred, DtState.cells, DtCatalog.cells, DtCSet.cells, DtCSnap.cells, DtSaid.cells, hd]
                                          repeat' first | (exfalso; omega) | (refine ⟨fun _ => ?_, fun _ => ?_⟩) | (refine ⟨by omega, ?_⟩) | (intro _)
                                          all_goals (refine hK _ ?_; clear hK K)
                                          all_goals
                                            refine AW_block ?_
                                            refine AW_loopS (fun mM sS => ∃ (j : Nat), mM = ((s.fCat.fSets[i]).fSnaps[k]).fChunks.length - j ∧ (j ≤ ((s.fCat.fSets[i]).fSnaps[k]).fChunks.length) ∧ sS = { env := lkE [(1, .ptr 32 0), (3, .s (varZ s.fCat.fSets.length ++ (catM showSet (s.fCat.fSets.take i) ++ (piece (s.fCat.fSets[i]).fName ++ (varZ (s.fCat.fSets[i]).fSnaps.length ++ (catM showSnap ((s.fCat.fSets[i]).fSnaps.take k) ++ (piece ((s.fCat.fSets[i]).fSnaps[k]).fName ++ (piece ((s.fCat.fSets[i]).fSnaps[k]).fTag ++ (varZ ((s.fCat.fSets[i]).fSnaps[k]).fChunks.length ++ catM piece (((s.fCat.fSets[i]).fSnaps[k]).fChunks.take j)))))))))), (22, .sl 2 (s.fCat.fSets.map DtCSet.cells)), (23, (.g (.int .i64 ((s.fCat.fSets.length : Nat))))), (24, (.g (.int .i64 ((i : Nat))))), (5, .ptr 96 0), (39, .sl 3 ((s.fCat.fSets[i]).fSnaps.map DtCSnap.cells)), (40, (.g (.int .i64 (((s.fCat.fSets[i]).fSnaps.length : Nat))))), (41, (.g (.int .i64 ((k : Nat))))), (60, .sl 1 (((s.fCat.fSets[i]).fSnaps[k]).fChunks.map cS)), (61, (.g (.int .i64 ((((s.fCat.fSets[i]).fSnaps[k]).fChunks.length : Nat))))), (62, (.g (.int .i64 ((j : Nat)))))], ob := lk [(32, .cells (DtState.cells s)), (96, .cells (DtCSet.cells s.fCat.fSets[i]))] }) ?_ ?_
                                            · refine ⟨_, LeS.ko [(1, .ptr 32 0), (3, .s (varZ s.fCat.fSets.length ++ (catM showSet (s.fCat.fSets.take i) ++ (piece (s.fCat.fSets[i]).fName ++ (varZ (s.fCat.fSets[i]).fSnaps.length ++ (catM showSnap ((s.fCat.fSets[i]).fSnaps.take k) ++ (piece ((s.fCat.fSets[i]).fSnaps[k]).fName ++ (piece ((s.fCat.fSets[i]).fSnaps[k]).fTag ++ (varZ ((s.fCat.fSets[i]).fSnaps[k]).fChunks.length ++ catM piece (((s.fCat.fSets[i]).fSnaps[k]).fChunks.take (0))))))))))), (22, .sl 2 (s.fCat.fSets.map DtCSet.cells)), (23, (.g (.int .i64 ((s.fCat.fSets.length : Nat))))), (24, (.g (.int .i64 ((i : Nat))))), (5, .ptr 96 0), (39, .sl 3 ((s.fCat.fSets[i]).fSnaps.map DtCSnap.cells)), (40, (.g (.int .i64 (((s.fCat.fSets[i]).fSnaps.length : Nat))))), (41, (.g (.int .i64 ((k : Nat))))), (60, .sl 1 (((s.fCat.fSets[i]).fSnaps[k]).fChunks.map cS)), (61, (.g (.int .i64 ((((s.fCat.fSets[i]).fSnaps[k]).fChunks.length : Nat))))), (62, (.g (.int .i64 (((0) : Nat)))))] [(32, .cells (DtState.cells s)), (96, .cells (DtCSet.cells s.fCat.fSets[i]))] (by simp [KpE, upd_app, lkE_app, lk_cons, DtState.cells, DtCatalog.cells, DtCSet.cells, DtCSnap.cells]; try simp [catM_nil]) (by simp [KpO, upd_app, lk_cons, lk_nil, formOb_nn, DtState.cells, DtCatalog.cells, DtCSet.cells, DtCSnap.cells]; try rfl) (by rfl) (by simp) (by rfl), _, 0, rfl, ?_, rfl⟩
                                              · simp
                                            · rintro mM sS ⟨j, rfl, hj, rfl⟩
                                              have hb4 := catM_bd piece 15 ((s.fCat.fSets[i]).fSnaps[k]).fChunks (fun x hx => by have := piece_len x; have := f4 x hx; omega) j
                                              refine AW_r rfl rfl fun K hK => ?_
                                              simp (disch := omega) [wrap64, List.getElem?_eq_getElem, toNat_pred, DtState.cells, DtCatalog.cells, DtCSet.cells, DtCSnap.cells, DtSaid.cells, hd, cS]
                                              repeat' first | (exfalso; omega) | (refine ⟨fun _ => ?_, fun _ => ?_⟩) | (refine ⟨by omega, ?_⟩) | (intro _)
                                              all_goals (refine hK _ ?_; clear hK K)
                                              all_goals
                                                refine AW_seq ?_
                                                refine AW_cond rfl (fun hc9 => ?_) (fun hc9 => ?_)
                                                · try simp [decB_true, decB_false, eqB_true, eqB_false] at hc9
                                                  all_goals
                                                    have hsc := catM_take piece ((s.fCat.fSets[i]).fSnaps[k]).fChunks j (by omega)
                                                    have p1 := piece_len (((s.fCat.fSets[i]).fSnaps[k]).fChunks[j])
                                                    have p2 := f4 _ (List.getElem_mem (n := j) (h := by omega))
                                                    refine AW_skip ?_
                                                    refine AW_id ?_
                                                    refine AW_seq ?_
                                                    refine AW_block ?_
                                                    refine AW_r rfl rfl fun K hK => ?_
                                                    simp (disch := omega) [wrap64, List.getElem?_eq_getElem, toNat_pred, DtState.cells, DtCatalog.cells, DtCSet.cells, DtCSnap.cells, DtSaid.cells, hd, cS]
                                                    repeat' first | (exfalso; omega) | (refine ⟨fun _ => ?_, fun _ => ?_⟩) | (refine ⟨by omega, ?_⟩) | (intro _)
                                                    all_goals (refine hK _ ?_; clear hK K)
                                                    all_goals
                                                      refine AW_re rfl rfl fun K hK => ?_
                                                      simp (disch := omega) [wrap64, List.getElem?_eq_getElem, toNat_pred, DtState.cells, DtCatalog.cells, DtCSet.cells, DtCSnap.cells, DtSaid.cells, hd, cS]
                                                      repeat' first | (exfalso; omega) | (refine CKd_v (am2s_cons am2_s am2s_nil) (sized _ (by omega)) rfl ?_; simp (disch := omega) [wrap64, List.getElem?_eq_getElem, toNat_pred, DtState.cells, DtCatalog.cells, DtCSet.cells, DtCSnap.cells, DtSaid.cells, hd, cS]) | (refine ⟨fun _ => ?_, fun _ => ?_⟩) | (refine ⟨by omega, ?_⟩) | (intro _)
                                                      all_goals (refine hK _ ?_; clear hK K)
                                                      all_goals
                                                        refine AW_id ?_
                                                        refine AW_re rfl rfl fun K hK => ?_
                                                        simp (disch := omega) [wrap64, List.getElem?_eq_getElem, toNat_pred, DtState.cells, DtCatalog.cells, DtCSet.cells, DtCSnap.cells, DtSaid.cells, hd, cS]
                                                        repeat' first | (exfalso; omega) | (refine ⟨fun _ => ?_, fun _ => ?_⟩) | (refine ⟨by omega, ?_⟩) | (intro _)
                                                        all_goals (refine hK _ ?_; clear hK K)
                                                        all_goals
                                                          refine ⟨_, LeS.ko [(1, .ptr 32 0), (3, .s (varZ s.fCat.fSets.length ++ (catM showSet (s.fCat.fSets.take i) ++ (piece (s.fCat.fSets[i]).fName ++ (varZ (s.fCat.fSets[i]).fSnaps.length ++ (catM showSnap ((s.fCat.fSets[i]).fSnaps.take k) ++ (piece ((s.fCat.fSets[i]).fSnaps[k]).fName ++ (piece ((s.fCat.fSets[i]).fSnaps[k]).fTag ++ (varZ ((s.fCat.fSets[i]).fSnaps[k]).fChunks.length ++ catM piece (((s.fCat.fSets[i]).fSnaps[k]).fChunks.take (j + 1))))))))))), (22, .sl 2 (s.fCat.fSets.map DtCSet.cells)), (23, (.g (.int .i64 ((s.fCat.fSets.length : Nat))))), (24, (.g (.int .i64 ((i : Nat))))), (5, .ptr 96 0), (39, .sl 3 ((s.fCat.fSets[i]).fSnaps.map DtCSnap.cells)), (40, (.g (.int .i64 (((s.fCat.fSets[i]).fSnaps.length : Nat))))), (41, (.g (.int .i64 ((k : Nat))))), (60, .sl 1 (((s.fCat.fSets[i]).fSnaps[k]).fChunks.map cS)), (61, (.g (.int .i64 ((((s.fCat.fSets[i]).fSnaps[k]).fChunks.length : Nat))))), (62, (.g (.int .i64 (((j + 1) : Nat)))))] [(32, .cells (DtState.cells s)), (96, .cells (DtCSet.cells s.fCat.fSets[i]))] (by simp [KpE, upd_app, lkE_app, lk_cons, DtState.cells, DtCatalog.cells, DtCSet.cells, DtCSnap.cells]; try simp [hsc, catM_nil]) (by simp [KpO, upd_app, lk_cons, lk_nil, formOb_nn, DtState.cells, DtCatalog.cells, DtCSet.cells, DtCSnap.cells]; try rfl) (by rfl) (by simp) (by rfl), _, ?_, j + 1, rfl, ?_, rfl⟩
                                                          · omega
                                                          · omega
                                                · try simp [decB_true, decB_false, eqB_true, eqB_false] at hc9
                                                  all_goals
                                                    have hj2 : j = ((s.fCat.fSets[i]).fSnaps[k]).fChunks.length := by omega
                                                    subst hj2
                                                    simp only [List.take_length] at *
                                                    refine AW_exit ?_
                                                    refine AW_id ?_
                                                    refine AW_re rfl rfl fun K hK => ?_
                                                    simp (disch := omega) [wrap64, List.getElem?_eq_getElem, toNat_pred, DtState.cells, DtCatalog.cells, DtCSet.cells, DtCSnap.cells, DtSaid.cells, hd, cS]
                                                    repeat' first | (exfalso; omega) | (refine ⟨fun _ => ?_, fun _ => ?_⟩) | (refine ⟨by omega, ?_⟩) | (intro _)
                                                    all_goals (refine hK _ ?_; clear hK K)
                                                    all_goals
                                                      refine ⟨_, LeS.ko [(1, .ptr 32 0), (3, .s (varZ s.fCat.fSets.length ++ (catM showSet (s.fCat.fSets.take i) ++ (piece (s.fCat.fSets[i]).fName ++ (varZ (s.fCat.fSets[i]).fSnaps.length ++ catM showSnap ((s.fCat.fSets[i]).fSnaps.take (k + 1))))))), (22, .sl 2 (s.fCat.fSets.map DtCSet.cells)), (23, (.g (.int .i64 ((s.fCat.fSets.length : Nat))))), (24, (.g (.int .i64 ((i : Nat))))), (5, .ptr 96 0), (39, .sl 3 ((s.fCat.fSets[i]).fSnaps.map DtCSnap.cells)), (40, (.g (.int .i64 (((s.fCat.fSets[i]).fSnaps.length : Nat))))), (41, (.g (.int .i64 (((k + 1) : Nat)))))] [(32, .cells (DtState.cells s)), (96, .cells (DtCSet.cells s.fCat.fSets[i]))] (by simp [KpE, upd_app, lkE_app, lk_cons, DtState.cells, DtCatalog.cells, DtCSet.cells, DtCSnap.cells]; try simp [hsp, catM_nil, showSnap]) (by simp [KpO, upd_app, lk_cons, lk_nil, formOb_nn, DtState.cells, DtCatalog.cells, DtCSet.cells, DtCSnap.cells]; try rfl) (by rfl) (by simp) (by rfl), _, ?_, k + 1, rfl, ?_, rfl⟩
                                                      · omega
                                                      · omega
                                  · try simp [decB_true, decB_false, eqB_true, eqB_false] at hc8
                                    all_goals
                                      have hk2 : k = (s.fCat.fSets[i]).fSnaps.length := by omega
                                      subst hk2
                                      simp only [List.take_length] at *
                                      refine AW_exit ?_
                                      refine AW_id ?_
                                      refine AW_re rfl rfl fun K hK => ?_
                                      simp (disch := omega) [wrap64, List.getElem?_eq_getElem, toNat_pred, DtState.cells, DtCatalog.cells, DtCSet.cells, DtCSnap.cells, DtSaid.cells, hd]
                                      repeat' first | (exfalso; omega) | (refine ⟨fun _ => ?_, fun _ => ?_⟩) | (refine ⟨by omega, ?_⟩) | (intro _)
                                      all_goals (refine hK _ ?_; clear hK K)
                                      all_goals
                                        refine ⟨_, LeS.ko [(1, .ptr 32 0), (3, .s (varZ s.fCat.fSets.length ++ catM showSet (s.fCat.fSets.take (i + 1)))), (22, .sl 2 (s.fCat.fSets.map DtCSet.cells)), (23, (.g (.int .i64 ((s.fCat.fSets.length : Nat))))), (24, (.g (.int .i64 (((i + 1) : Nat)))))] [(32, .cells (DtState.cells s))] (by simp [KpE, upd_app, lkE_app, lk_cons, DtState.cells, DtCatalog.cells, DtCSet.cells, DtCSnap.cells]; try simp [hst, catM_nil, showSet]) (by simp [KpO, upd_app, lk_cons, lk_nil, formOb_nn, DtState.cells, DtCatalog.cells, DtCSet.cells, DtCSnap.cells]; try rfl) (by rfl) (by simp) (by rfl), _, ?_, i + 1, rfl, ?_, rfl⟩
                                        · omega
                                        · omega
                    · try simp [decB_true, decB_false, eqB_true, eqB_false] at hc7
                      all_goals
                        have hi2 : i = s.fCat.fSets.length := by omega
                        subst hi2
                        simp only [List.take_length] at *
                        refine AW_exit ?_
                        refine AW_id ?_
                        refine AW_r rfl rfl fun K hK => ?_
                        simp (disch := omega) [wrap64, List.getElem?_eq_getElem, toNat_pred, DtState.cells, DtCatalog.cells, DtCSet.cells, DtCSnap.cells, DtSaid.cells, hd]
                        repeat' first | (exfalso; omega) | (refine CKd_v (am2s_cons am2_g am2s_nil) (implVar _) rfl ?_; simp (disch := omega) [wrap64, List.getElem?_eq_getElem, toNat_pred, DtState.cells, DtCatalog.cells, DtCSet.cells, DtCSnap.cells, DtSaid.cells, hd]) | (refine ⟨fun _ => ?_, fun _ => ?_⟩) | (refine ⟨by omega, ?_⟩) | (intro _)
                        all_goals (refine hK _ ?_; clear hK K)
                        all_goals
                          refine AW_seq ?_
                          refine AW_r rfl rfl fun K hK => ?_
                          simp (disch := omega) [wrap64, List.getElem?_eq_getElem, toNat_pred, DtState.cells, DtCatalog.cells, DtCSet.cells, DtCSnap.cells, DtSaid.cells, hd]
                          repeat' first | (exfalso; omega) | (refine ⟨fun _ => ?_, fun _ => ?_⟩) | (refine ⟨by omega, ?_⟩) | (intro _)
                          all_goals (refine hK _ ?_; clear hK K)
                          all_goals
                            refine AW_block ?_
                            refine AW_loopS (fun mM sS => ∃ (i : Nat), mM = s.fSaid.length - i ∧ (i ≤ s.fSaid.length) ∧ sS = { env := lkE [(1, .ptr 32 0), (3, .s (varZ s.fCat.fSets.length ++ (catM showSet s.fCat.fSets ++ (varZ s.fSaid.length ++ catM showSaid (s.fSaid.take i))))), (80, .sl 3 (s.fSaid.map DtSaid.cells)), (81, (.g (.int .i64 ((s.fSaid.length : Nat))))), (82, (.g (.int .i64 ((i : Nat)))))], ob := lk [(32, .cells (DtState.cells s))] }) ?_ ?_
                            · refine ⟨_, LeS.ko [(1, .ptr 32 0), (3, .s (varZ s.fCat.fSets.length ++ (catM showSet s.fCat.fSets ++ (varZ s.fSaid.length ++ catM showSaid (s.fSaid.take (0)))))), (80, .sl 3 (s.fSaid.map DtSaid.cells)), (81, (.g (.int .i64 ((s.fSaid.length : Nat))))), (82, (.g (.int .i64 (((0) : Nat)))))] [(32, .cells (DtState.cells s))] (by simp [KpE, upd_app, lkE_app, lk_cons, DtState.cells, DtCatalog.cells, DtSaid.cells]; try simp [catM_nil]) (by simp [KpO, upd_app, lk_cons, lk_nil, formOb_nn, DtState.cells, DtCatalog.cells, DtSaid.cells]; try rfl) (by rfl) (by simp) (by rfl), _, 0, rfl, ?_, rfl⟩
                              · simp
                            · rintro mM sS ⟨i, rfl, hi, rfl⟩
                              have hb3 := catM_bd showSaid 1048597 s.fSaid (fun x hx => said_bd (hT x hx)) i
                              refine AW_r rfl rfl fun K hK => ?_
                              simp (disch := omega) [wrap64, List.getElem?_eq_getElem, toNat_pred, DtState.cells, DtCatalog.cells, DtCSet.cells, DtCSnap.cells, DtSaid.cells, hd]
                              repeat' first | (exfalso; omega) | (refine ⟨fun _ => ?_, fun _ => ?_⟩) | (refine ⟨by omega, ?_⟩) | (intro _)
                              all_goals (refine hK _ ?_; clear hK K)
                              all_goals
                                refine AW_seq ?_
                                refine AW_cond rfl (fun hc10 => ?_) (fun hc10 => ?_)
                                · try simp [decB_true, decB_false, eqB_true, eqB_false] at hc10
                                  all_goals
                                    have hst := catM_take showSaid s.fSaid i (by omega)
                                    have g1 := hT _ (List.getElem_mem (n := i) (h := by omega))
                                    have g2 := piece_len (s.fSaid[i]).fText
                                    have g3 := varZ_len (s.fSaid[i]).fClient
                                    have g4 := varZ_len (s.fSaid[i]).fNo
                                    refine AW_skip ?_
                                    refine AW_id ?_
                                    refine AW_seq ?_
                                    refine AW_block ?_
                                    refine AW_r rfl rfl fun K hK => ?_
                                    simp (disch := omega) [wrap64, List.getElem?_eq_getElem, toNat_pred, DtState.cells, DtCatalog.cells, DtCSet.cells, DtCSnap.cells, DtSaid.cells, hd]
                                    repeat' first | (exfalso; omega) | (refine ⟨fun _ => ?_, fun _ => ?_⟩) | (refine ⟨by omega, ?_⟩) | (intro _)
                                    all_goals (refine hK _ ?_; clear hK K)
                                    all_goals
                                      refine AW_qe rfl mix (by kernel_rfl) rfl fun K hK => ?_
                                      simp (disch := omega) [wrap64, List.getElem?_eq_getElem, toNat_pred, DtState.cells, DtCatalog.cells, DtCSet.cells, DtCSnap.cells, DtSaid.cells, hd]
                                      repeat' first | (exfalso; omega) | (refine CKd_v (am2s_cons am2_g am2s_nil) (implVar _) rfl ?_; simp (disch := omega) [wrap64, List.getElem?_eq_getElem, toNat_pred, DtState.cells, DtCatalog.cells, DtCSet.cells, DtCSnap.cells, DtSaid.cells, hd]) | (refine CKd_v (am2s_cons am2_s am2s_nil) (sized _ (by omega)) rfl ?_; simp (disch := omega) [wrap64, List.getElem?_eq_getElem, toNat_pred, DtState.cells, DtCatalog.cells, DtCSet.cells, DtCSnap.cells, DtSaid.cells, hd]) | (refine ⟨fun _ => ?_, fun _ => ?_⟩) | (refine ⟨by omega, ?_⟩) | (intro _)
                                      all_goals (refine hK _ ?_; clear hK K)
                                      all_goals
                                        refine AW_id ?_
                                        refine AW_re rfl rfl fun K hK => ?_
                                        simp (disch := omega) [wrap64, List.getElem?_eq_getElem, toNat_pred, DtState.cells, DtCatalog.cells, DtCSet.cells, DtCSnap.cells, DtSaid.cells, hd]
                                        repeat' first | (exfalso; omega) | (refine ⟨fun _ => ?_, fun _ => ?_⟩) | (refine ⟨by omega, ?_⟩) | (intro _)
                                        all_goals (refine hK _ ?_; clear hK K)
                                        all_goals
                                          refine ⟨_, LeS.ko [(1, .ptr 32 0), (3, .s (varZ s.fCat.fSets.length ++ (catM showSet s.fCat.fSets ++ (varZ s.fSaid.length ++ catM showSaid (s.fSaid.take (i + 1)))))), (80, .sl 3 (s.fSaid.map DtSaid.cells)), (81, (.g (.int .i64 ((s.fSaid.length : Nat))))), (82, (.g (.int .i64 (((i + 1) : Nat)))))] [(32, .cells (DtState.cells s))] (by simp [KpE, upd_app, lkE_app, lk_cons, DtState.cells, DtCatalog.cells, DtSaid.cells]; try simp [hst, catM_nil, showSaid]) (by simp [KpO, upd_app, lk_cons, lk_nil, formOb_nn, DtState.cells, DtCatalog.cells, DtSaid.cells]; try rfl) (by rfl) (by simp) (by rfl), _, ?_, i + 1, rfl, ?_, rfl⟩
                                          · omega
                                          · omega
                                · try simp [decB_true, decB_false, eqB_true, eqB_false] at hc10
                                  all_goals
                                    have hi2 : i = s.fSaid.length := by omega
                                    subst hi2
                                    simp only [List.take_length] at *
                                    refine AW_exit ?_
                                    refine AW_id ?_
                                    refine AW_r rfl rfl fun K hK => ?_
                                    simp (disch := omega) [wrap64, List.getElem?_eq_getElem, toNat_pred, DtState.cells, DtCatalog.cells, DtCSet.cells, DtCSnap.cells, DtSaid.cells, hd]
                                    repeat' first | (exfalso; omega) | (refine ⟨fun _ => ?_, fun _ => ?_⟩) | (refine ⟨by omega, ?_⟩) | (intro _)
                                    all_goals (refine hK _ ?_; clear hK K)
                                    all_goals
                                      refine AW_ret (end_s ?_)
                                      simp (disch := omega) [wrap64, List.getElem?_eq_getElem, toNat_pred, DtState.cells, DtCatalog.cells, DtCSet.cells, DtCSnap.cells, DtSaid.cells, hd]
                                      all_goals first | (simp [showState, hd, showSt]; done)
  · have hd := decB_f hP
    refine gcall_of_walk Try.func27 (by rfl) (by rfl) (by rw [Try.ntmps27]; exact Nat.le_of_ble_eq_true rfl) rfl (by decide) ?_
    rw [Try.ntmps27]
    refine AW_k [(0, _)] ⟨rfl, trivial⟩ ?_
    refine AW_r rfl rfl fun K hK => ?_
    simp (disch := omega) [wrap64, List.getElem?_eq_getElem, toNat_pred, DtState.cells, DtCatalog.cells, hd]
    refine hK _ ?_; clear hK K
    refine AW_seq (AW_r rfl rfl fun K hK => ?_)
    simp (disch := omega) [wrap64, List.getElem?_eq_getElem, toNat_pred, DtState.cells, DtCatalog.cells, hd]
    refine CKd_v (am2s_cons (am2_agg rfl) am2s_nil) (implStateOk _ hs) rfl ?_
    simp (disch := omega) [wrap64, List.getElem?_eq_getElem, toNat_pred, DtState.cells, DtCatalog.cells, hd]
    refine hK _ ?_; clear hK K
    refine AW_cond_true (by simp) ?_
    refine AW_r rfl rfl fun K hK => ?_
    simp (disch := omega) [wrap64, List.getElem?_eq_getElem, toNat_pred, DtState.cells, DtCatalog.cells, hd]
    repeat' first | (exfalso; omega) | (refine ⟨fun _ => ?_, fun _ => ?_⟩) | (refine ⟨by omega, ?_⟩) | (intro _)
    all_goals (refine hK _ ?_; clear hK K)
    all_goals
      refine AW_ret (end_s ?_)
      simp (disch := omega) [wrap64, List.getElem?_eq_getElem, toNat_pred, DtState.cells, DtCatalog.cells, hd, showState, hd]
      all_goals first | omega | (simp_all; done) | (simp [List.take_of_length_le]; done) | ((try simp_all); (try simp (disch := omega) only [wrap64, Int.tdiv_eq_ediv_of_nonneg, Int.tmod_eq_emod_of_nonneg, and_true, true_and]); done) | ((try simp_all); (try simp (disch := omega) only [wrap64, Int.tdiv_eq_ediv_of_nonneg, Int.tmod_eq_emod_of_nonneg, and_true, true_and] at *); omega)
theorem lawShowState (u : DtState) (hw : DtState.wf u) : PCall Try.prog 7 [.agg (DtState.cells u)] (.g (.bool (true))) := by
  have hq := DtState.sz_nonneg u
  by_cases h : (1048576 : Int) - DtState.sz u < 0
  · have e : szR 1048576 (DtState.sz u) = -1 := by unfold szR; rw [if_pos h]
    refine gcall_of_walk Try.func7 (by rfl) (by rfl) (by rw [Try.ntmps7]; exact Nat.le_of_ble_eq_true rfl) rfl (by decide) ?_
    rw [Try.ntmps7]
    refine AW_k [(0, _)] ⟨rfl, trivial⟩ ?_
    refine AW_r rfl rfl fun K hK => ?_
    simp (disch := omega) [wrap64, List.getElem?_eq_getElem, toNat_pred, e, DtState.cells, DtCatalog.cells]
    repeat' first | (exfalso; omega) | (refine ⟨fun _ => ?_, fun _ => ?_⟩) | (refine ⟨by omega, ?_⟩) | (intro _)
    all_goals (refine hK _ ?_; clear hK K)
    all_goals
      refine AW_r rfl rfl fun K hK => ?_
      simp (disch := omega) [wrap64, List.getElem?_eq_getElem, toNat_pred, e, DtState.cells, DtCatalog.cells]
      repeat' first | (exfalso; omega) | (refine ⟨fun _ => ?_, fun _ => ?_⟩) | (refine ⟨by omega, ?_⟩) | (intro _)
      all_goals (refine hK _ ?_; clear hK K)
      all_goals
        refine AW_r rfl rfl fun K hK => ?_
        simp (disch := omega) [wrap64, List.getElem?_eq_getElem, toNat_pred, e, DtState.cells, DtCatalog.cells]
        repeat' first | (exfalso; omega) | (refine CKd_v (am2s_cons (am2_agg rfl) (am2s_cons am2_g am2s_nil)) (szState _ _ (by omega) hw) rfl ?_; simp (disch := omega) [wrap64, List.getElem?_eq_getElem, toNat_pred, e, DtState.cells, DtCatalog.cells]) | (refine ⟨fun _ => ?_, fun _ => ?_⟩) | (refine ⟨by omega, ?_⟩) | (intro _)
        all_goals (refine hK _ ?_; clear hK K)
        all_goals
          refine AW_seq ?_
          refine AW_r rfl rfl fun K hK => ?_
          simp (disch := omega) [wrap64, List.getElem?_eq_getElem, toNat_pred, e, DtState.cells, DtCatalog.cells]
          repeat' first | (exfalso; omega) | (refine ⟨fun _ => ?_, fun _ => ?_⟩) | (refine ⟨by omega, ?_⟩) | (intro _)
          all_goals (refine hK _ ?_; clear hK K)
          all_goals
            refine AW_cond rfl (fun hc11 => ?_) (fun hc11 => ?_)
            · try simp [decB_true, decB_false, eqB_true, eqB_false] at hc11
              all_goals
                refine AW_r rfl rfl fun K hK => ?_
                simp (disch := omega) [wrap64, List.getElem?_eq_getElem, toNat_pred, e, DtState.cells, DtCatalog.cells]
                repeat' first | (exfalso; omega) | (refine ⟨fun _ => ?_, fun _ => ?_⟩) | (refine ⟨by omega, ?_⟩) | (intro _)
                all_goals (refine hK _ ?_; clear hK K)
                all_goals
                  refine AW_ret (end_s ?_)
                  simp (disch := omega) [wrap64, List.getElem?_eq_getElem, toNat_pred, e, DtState.cells, DtCatalog.cells]
                  all_goals first | omega | (simp_all; done) | (simp [List.take_of_length_le]; done) | ((try simp_all); (try simp (disch := omega) only [wrap64, Int.tdiv_eq_ediv_of_nonneg, Int.tmod_eq_emod_of_nonneg, and_true, true_and]); done) | ((try simp_all); (try simp (disch := omega) only [wrap64, Int.tdiv_eq_ediv_of_nonneg, Int.tmod_eq_emod_of_nonneg, and_true, true_and] at *); omega)
            · try simp [decB_true, decB_false, eqB_true, eqB_false] at hc11
              all_goals
                refine AW_skip ?_
                refine AW_id ?_
                refine AW_r rfl rfl fun K hK => ?_
                simp (disch := omega) [wrap64, List.getElem?_eq_getElem, toNat_pred, e, DtState.cells, DtCatalog.cells]
                repeat' first | (exfalso; omega) | (refine ⟨fun _ => ?_, fun _ => ?_⟩) | (refine ⟨by omega, ?_⟩) | (intro _)
                all_goals (refine hK _ ?_; clear hK K)
                all_goals
                  refine AW_r rfl rfl fun K hK => ?_
                  simp (disch := omega) [wrap64, List.getElem?_eq_getElem, toNat_pred, e, DtState.cells, DtCatalog.cells]
                  repeat' first | (exfalso; omega) | (refine ⟨fun _ => ?_, fun _ => ?_⟩) | (refine ⟨by omega, ?_⟩) | (intro _)
                  all_goals (refine hK _ ?_; clear hK K)
                  all_goals
                    refine AW_r rfl rfl fun K hK => ?_
                    simp (disch := omega) [wrap64, List.getElem?_eq_getElem, toNat_pred, e, DtState.cells, DtCatalog.cells]
                    repeat' first | (exfalso; omega) | (refine ⟨fun _ => ?_, fun _ => ?_⟩) | (refine ⟨by omega, ?_⟩) | (intro _)
                    all_goals (refine hK _ ?_; clear hK K)
                    all_goals
                      refine AW_seq ?_
                      refine AW_r rfl rfl fun K hK => ?_
                      simp (disch := omega) [wrap64, List.getElem?_eq_getElem, toNat_pred, e, DtState.cells, DtCatalog.cells]
                      repeat' first | (exfalso; omega) | (refine ⟨fun _ => ?_, fun _ => ?_⟩) | (refine ⟨by omega, ?_⟩) | (intro _)
                      all_goals (refine hK _ ?_; clear hK K)
                      all_goals
                        refine AW_cond rfl (fun hc12 => ?_) (fun hc12 => ?_)
                        · try simp [decB_true, decB_false, eqB_true, eqB_false] at hc12
                          all_goals
                            refine AW_r rfl rfl fun K hK => ?_
                            simp (disch := omega) [wrap64, List.getElem?_eq_getElem, toNat_pred, e, DtState.cells, DtCatalog.cells]
                            repeat' first | (exfalso; omega) | (refine ⟨fun _ => ?_, fun _ => ?_⟩) | (refine ⟨by omega, ?_⟩) | (intro _)
                            all_goals (refine hK _ ?_; clear hK K)
                            all_goals
                              refine AW_ret (end_s ?_)
                              simp (disch := omega) [wrap64, List.getElem?_eq_getElem, toNat_pred, e, DtState.cells, DtCatalog.cells]
                              all_goals first | omega | (simp_all; done) | (simp [List.take_of_length_le]; done) | ((try simp_all); (try simp (disch := omega) only [wrap64, Int.tdiv_eq_ediv_of_nonneg, Int.tmod_eq_emod_of_nonneg, and_true, true_and]); done) | ((try simp_all); (try simp (disch := omega) only [wrap64, Int.tdiv_eq_ediv_of_nonneg, Int.tmod_eq_emod_of_nonneg, and_true, true_and] at *); omega)
                        · try simp [decB_true, decB_false, eqB_true, eqB_false] at hc12
                          all_goals
                            refine AW_skip ?_
                            refine AW_id ?_
                            refine AW_seq ?_
                            refine AW_q rfl mix (by kernel_rfl) rfl fun K hK => ?_
                            simp (disch := omega) [wrap64, List.getElem?_eq_getElem, toNat_pred, e, DtState.cells, DtCatalog.cells]
                            repeat' first | (exfalso; omega) | (refine ⟨fun _ => ?_, fun _ => ?_⟩) | (refine ⟨by omega, ?_⟩) | (intro _)
                            all_goals (refine hK _ ?_; clear hK K)
                            all_goals
                              refine AW_cond rfl (fun hc13 => ?_) (fun hc13 => ?_)
                              · try simp [decB_true, decB_false, eqB_true, eqB_false] at hc13
                                all_goals
                                  refine AW_r rfl rfl fun K hK => ?_
                                  simp (disch := omega) [wrap64, List.getElem?_eq_getElem, toNat_pred, e, DtState.cells, DtCatalog.cells]
                                  repeat' first | (exfalso; omega) | (refine ⟨fun _ => ?_, fun _ => ?_⟩) | (refine ⟨by omega, ?_⟩) | (intro _)
                                  all_goals (refine hK _ ?_; clear hK K)
                                  all_goals
                                    refine AW_ret (end_s ?_)
                                    simp (disch := omega) [wrap64, List.getElem?_eq_getElem, toNat_pred, e, DtState.cells, DtCatalog.cells]
                                    all_goals first | omega | (simp_all; done) | (simp [List.take_of_length_le]; done) | ((try simp_all); (try simp (disch := omega) only [wrap64, Int.tdiv_eq_ediv_of_nonneg, Int.tmod_eq_emod_of_nonneg, and_true, true_and]); done) | ((try simp_all); (try simp (disch := omega) only [wrap64, Int.tdiv_eq_ediv_of_nonneg, Int.tmod_eq_emod_of_nonneg, and_true, true_and] at *); omega)
                              · try simp [decB_true, decB_false, eqB_true, eqB_false] at hc13
                                all_goals
                                  refine AW_skip ?_
                                  refine AW_id ?_
                                  refine AW_r rfl rfl fun K hK => ?_
                                  simp (disch := omega) [wrap64, List.getElem?_eq_getElem, toNat_pred, e, DtState.cells, DtCatalog.cells]
                                  repeat' first | (exfalso; omega) | (refine ⟨fun _ => ?_, fun _ => ?_⟩) | (refine ⟨by omega, ?_⟩) | (intro _)
                                  all_goals (refine hK _ ?_; clear hK K)
                                  all_goals
                                    refine AW_ret (end_s ?_)
                                    simp (disch := omega) [wrap64, List.getElem?_eq_getElem, toNat_pred, e, DtState.cells, DtCatalog.cells]
                                    all_goals first | omega | (simp_all; done) | (simp [List.take_of_length_le]; done) | ((try simp_all); (try simp (disch := omega) only [wrap64, Int.tdiv_eq_ediv_of_nonneg, Int.tmod_eq_emod_of_nonneg, and_true, true_and]); done) | ((try simp_all); (try simp (disch := omega) only [wrap64, Int.tdiv_eq_ediv_of_nonneg, Int.tmod_eq_emod_of_nonneg, and_true, true_and] at *); omega)
  · have e : szR 1048576 (DtState.sz u) = 1048576 - DtState.sz u := by unfold szR; rw [if_neg h]
    have e2 : (0 : Int) ≤ 1048576 - DtState.sz u := by omega
    refine gcall_of_walk Try.func7 (by rfl) (by rfl) (by rw [Try.ntmps7]; exact Nat.le_of_ble_eq_true rfl) rfl (by decide) ?_
    rw [Try.ntmps7]
    refine AW_k [(0, _)] ⟨rfl, trivial⟩ ?_
    refine AW_r rfl rfl fun K hK => ?_
    simp (disch := omega) [wrap64, List.getElem?_eq_getElem, toNat_pred, e, e2, eqB_self, DtState.cells, DtCatalog.cells]
    repeat' first | (exfalso; omega) | (refine ⟨fun _ => ?_, fun _ => ?_⟩) | (refine ⟨by omega, ?_⟩) | (intro _)
    all_goals (refine hK _ ?_; clear hK K)
    all_goals
      refine AW_r rfl rfl fun K hK => ?_
      simp (disch := omega) [wrap64, List.getElem?_eq_getElem, toNat_pred, e, e2, eqB_self, DtState.cells, DtCatalog.cells]
      repeat' first | (exfalso; omega) | (refine ⟨fun _ => ?_, fun _ => ?_⟩) | (refine ⟨by omega, ?_⟩) | (intro _)
      all_goals (refine hK _ ?_; clear hK K)
      all_goals
        refine AW_r rfl rfl fun K hK => ?_
        simp (disch := omega) [wrap64, List.getElem?_eq_getElem, toNat_pred, e, e2, eqB_self, DtState.cells, DtCatalog.cells]
        repeat' first | (exfalso; omega) | (refine CKd_v (am2s_cons (am2_agg rfl) (am2s_cons am2_g am2s_nil)) (szState _ _ (by omega) hw) rfl ?_; simp (disch := omega) [wrap64, List.getElem?_eq_getElem, toNat_pred, e, e2, eqB_self, DtState.cells, DtCatalog.cells]) | (refine ⟨fun _ => ?_, fun _ => ?_⟩) | (refine ⟨by omega, ?_⟩) | (intro _)
        all_goals (refine hK _ ?_; clear hK K)
        all_goals
          refine AW_seq ?_
          refine AW_r rfl rfl fun K hK => ?_
          simp (disch := omega) [wrap64, List.getElem?_eq_getElem, toNat_pred, e, e2, eqB_self, DtState.cells, DtCatalog.cells]
          repeat' first | (exfalso; omega) | (refine ⟨fun _ => ?_, fun _ => ?_⟩) | (refine ⟨by omega, ?_⟩) | (intro _)
          all_goals (refine hK _ ?_; clear hK K)
          all_goals
            refine AW_cond rfl (fun hc14 => ?_) (fun hc14 => ?_)
            · try simp [decB_true, decB_false, eqB_true, eqB_false] at hc14
              all_goals
                refine AW_r rfl rfl fun K hK => ?_
                simp (disch := omega) [wrap64, List.getElem?_eq_getElem, toNat_pred, e, e2, eqB_self, DtState.cells, DtCatalog.cells]
                repeat' first | (exfalso; omega) | (refine ⟨fun _ => ?_, fun _ => ?_⟩) | (refine ⟨by omega, ?_⟩) | (intro _)
                all_goals (refine hK _ ?_; clear hK K)
                all_goals
                  refine AW_ret (end_s ?_)
                  simp (disch := omega) [wrap64, List.getElem?_eq_getElem, toNat_pred, e, e2, eqB_self, DtState.cells, DtCatalog.cells]
                  all_goals first | omega | (simp_all; done) | (simp [List.take_of_length_le]; done) | ((try simp_all); (try simp (disch := omega) only [wrap64, Int.tdiv_eq_ediv_of_nonneg, Int.tmod_eq_emod_of_nonneg, and_true, true_and]); done) | ((try simp_all); (try simp (disch := omega) only [wrap64, Int.tdiv_eq_ediv_of_nonneg, Int.tmod_eq_emod_of_nonneg, and_true, true_and] at *); omega)
            · try simp [decB_true, decB_false, eqB_true, eqB_false] at hc14
              all_goals
                refine AW_skip ?_
                refine AW_id ?_
                refine AW_r rfl rfl fun K hK => ?_
                simp (disch := omega) [wrap64, List.getElem?_eq_getElem, toNat_pred, e, e2, eqB_self, DtState.cells, DtCatalog.cells]
                repeat' first | (exfalso; omega) | (refine CKd_v (am2s_cons (am2_agg rfl) am2s_nil) (toState _ (by omega)) rfl ?_; simp (disch := omega) [wrap64, List.getElem?_eq_getElem, toNat_pred, e, e2, eqB_self, DtState.cells, DtCatalog.cells]) | (refine CKd_v (am2s_cons (am2_agg rfl) am2s_nil) (specShowState _ (by omega)) rfl ?_; simp (disch := omega) [wrap64, List.getElem?_eq_getElem, toNat_pred, e, e2, eqB_self, DtState.cells, DtCatalog.cells]) | (refine ⟨fun _ => ?_, fun _ => ?_⟩) | (refine ⟨by omega, ?_⟩) | (intro _)
                all_goals (refine hK _ ?_; clear hK K)
                all_goals
                  refine AW_r rfl rfl fun K hK => ?_
                  simp (disch := omega) [wrap64, List.getElem?_eq_getElem, toNat_pred, e, e2, eqB_self, DtState.cells, DtCatalog.cells]
                  repeat' first | (exfalso; omega) | (refine CKd_v (am2s_cons (am2_agg rfl) am2s_nil) (toState _ (by omega)) rfl ?_; simp (disch := omega) [wrap64, List.getElem?_eq_getElem, toNat_pred, e, e2, eqB_self, DtState.cells, DtCatalog.cells]) | (refine ⟨fun _ => ?_, fun _ => ?_⟩) | (refine ⟨by omega, ?_⟩) | (intro _)
                  all_goals (refine hK _ ?_; clear hK K)
                  all_goals
                    refine AW_r rfl rfl fun K hK => ?_
                    simp (disch := omega) [wrap64, List.getElem?_eq_getElem, toNat_pred, e, e2, eqB_self, DtState.cells, DtCatalog.cells]
                    repeat' first | (exfalso; omega) | (refine CKd_v (am2s_cons (am2_agg rfl) am2s_nil) (implShowState _ (by omega)) rfl ?_; simp (disch := omega) [wrap64, List.getElem?_eq_getElem, toNat_pred, e, e2, eqB_self, DtState.cells, DtCatalog.cells]) | (refine ⟨fun _ => ?_, fun _ => ?_⟩) | (refine ⟨by omega, ?_⟩) | (intro _)
                    all_goals (refine hK _ ?_; clear hK K)
                    all_goals
                      refine AW_seq ?_
                      refine AW_r rfl rfl fun K hK => ?_
                      simp (disch := omega) [wrap64, List.getElem?_eq_getElem, toNat_pred, e, e2, eqB_self, DtState.cells, DtCatalog.cells]
                      repeat' first | (exfalso; omega) | (refine ⟨fun _ => ?_, fun _ => ?_⟩) | (refine ⟨by omega, ?_⟩) | (intro _)
                      all_goals (refine hK _ ?_; clear hK K)
                      all_goals
                        refine AW_cond rfl (fun hc15 => ?_) (fun hc15 => ?_)
                        · try simp [decB_true, decB_false, eqB_true, eqB_false] at hc15
                          all_goals
                            refine AW_r rfl rfl fun K hK => ?_
                            simp (disch := omega) [wrap64, List.getElem?_eq_getElem, toNat_pred, e, e2, eqB_self, DtState.cells, DtCatalog.cells]
                            repeat' first | (exfalso; omega) | (refine ⟨fun _ => ?_, fun _ => ?_⟩) | (refine ⟨by omega, ?_⟩) | (intro _)
                            all_goals (refine hK _ ?_; clear hK K)
                            all_goals
                              refine AW_ret (end_s ?_)
                              simp (disch := omega) [wrap64, List.getElem?_eq_getElem, toNat_pred, e, e2, eqB_self, DtState.cells, DtCatalog.cells]
                              all_goals first | omega | (simp_all; done) | (simp [List.take_of_length_le]; done) | ((try simp_all); (try simp (disch := omega) only [wrap64, Int.tdiv_eq_ediv_of_nonneg, Int.tmod_eq_emod_of_nonneg, and_true, true_and]); done) | ((try simp_all); (try simp (disch := omega) only [wrap64, Int.tdiv_eq_ediv_of_nonneg, Int.tmod_eq_emod_of_nonneg, and_true, true_and] at *); omega)
                        · try simp [decB_true, decB_false, eqB_true, eqB_false] at hc15
                          all_goals
                            refine AW_skip ?_
                            refine AW_id ?_
                            refine AW_seq ?_
                            refine AW_q rfl mix (by kernel_rfl) rfl fun K hK => ?_
                            simp (disch := omega) [wrap64, List.getElem?_eq_getElem, toNat_pred, e, e2, eqB_self, DtState.cells, DtCatalog.cells]
                            repeat' first | (exfalso; omega) | (refine CKd_v (am2s_cons (am2_agg rfl) am2s_nil) (toState _ (by omega)) rfl ?_; simp (disch := omega) [wrap64, List.getElem?_eq_getElem, toNat_pred, e, e2, eqB_self, DtState.cells, DtCatalog.cells]) | (refine CKd_v (am2s_cons (am2_agg rfl) (am2s_cons (am2_agg rfl) am2s_nil)) (eqState _ _ (by omega)) rfl ?_; simp (disch := omega) [wrap64, List.getElem?_eq_getElem, toNat_pred, e, e2, eqB_self, DtState.cells, DtCatalog.cells]) | (refine ⟨fun _ => ?_, fun _ => ?_⟩) | (refine ⟨by omega, ?_⟩) | (intro _)
                            all_goals (refine hK _ ?_; clear hK K)
                            all_goals
                              refine AW_cond rfl (fun hc16 => ?_) (fun hc16 => ?_)
                              · try simp [decB_true, decB_false, eqB_true, eqB_false] at hc16
                                all_goals
                                  refine AW_r rfl rfl fun K hK => ?_
                                  simp (disch := omega) [wrap64, List.getElem?_eq_getElem, toNat_pred, e, e2, eqB_self, DtState.cells, DtCatalog.cells]
                                  repeat' first | (exfalso; omega) | (refine ⟨fun _ => ?_, fun _ => ?_⟩) | (refine ⟨by omega, ?_⟩) | (intro _)
                                  all_goals (refine hK _ ?_; clear hK K)
                                  all_goals
                                    refine AW_ret (end_s ?_)
                                    simp (disch := omega) [wrap64, List.getElem?_eq_getElem, toNat_pred, e, e2, eqB_self, DtState.cells, DtCatalog.cells]
                                    all_goals first | omega | (simp_all; done) | (simp [List.take_of_length_le]; done) | ((try simp_all); (try simp (disch := omega) only [wrap64, Int.tdiv_eq_ediv_of_nonneg, Int.tmod_eq_emod_of_nonneg, and_true, true_and]); done) | ((try simp_all); (try simp (disch := omega) only [wrap64, Int.tdiv_eq_ediv_of_nonneg, Int.tmod_eq_emod_of_nonneg, and_true, true_and] at *); omega)
                              · try simp [decB_true, decB_false, eqB_true, eqB_false] at hc16
                                all_goals
                                  refine AW_skip ?_
                                  refine AW_id ?_
                                  refine AW_r rfl rfl fun K hK => ?_
                                  simp (disch := omega) [wrap64, List.getElem?_eq_getElem, toNat_pred, e, e2, eqB_self, DtState.cells, DtCatalog.cells]
                                  repeat' first | (exfalso; omega) | (refine ⟨fun _ => ?_, fun _ => ?_⟩) | (refine ⟨by omega, ?_⟩) | (intro _)
                                  all_goals (refine hK _ ?_; clear hK K)
                                  all_goals
                                    refine AW_ret (end_s ?_)
                                    simp (disch := omega) [wrap64, List.getElem?_eq_getElem, toNat_pred, e, e2, eqB_self, DtState.cells, DtCatalog.cells]
                                    all_goals first | omega | (simp_all; done) | (simp [List.take_of_length_le]; done) | ((try simp_all); (try simp (disch := omega) only [wrap64, Int.tdiv_eq_ediv_of_nonneg, Int.tmod_eq_emod_of_nonneg, and_true, true_and]); done) | ((try simp_all); (try simp (disch := omega) only [wrap64, Int.tdiv_eq_ediv_of_nonneg, Int.tmod_eq_emod_of_nonneg, and_true, true_and] at *); omega)
end Go.Proofs.Ytopdaicfhfjmgaa.Vs
