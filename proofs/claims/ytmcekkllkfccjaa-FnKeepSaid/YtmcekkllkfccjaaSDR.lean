import Derived.Test.YtmcekkllkfccjaaVs8
import Derived.Test.YtmcekkllkfccjaaSCT
open Go Go.Proofs Go.Proofs.Ytmcekkllkfccjaa.Vs
namespace Go.Proofs.Ytmcekkllkfccjaa.Vs
set_option linter.unusedVariables false
set_option linter.unusedSimpArgs false
set_option linter.unusedSectionVars false
set_option linter.unnecessarySimpa false
set_option linter.all false
set_option linter.unusedSimpArgs false
set_option linter.unusedVariables false
set_option maxRecDepth 100000
/-! ### Draws -/
/-- A code of bytes, not a great one. -/
def Code (l : List Int) : Prop := l.length ≤ 1048576
def andZ (a b : Int) : Int := IntKind.i64.wrap (BitVec.ofInt IntKind.i64.bits a &&& BitVec.ofInt IntKind.i64.bits b).toNat
def xorZ (a b : Int) : Int := IntKind.i64.wrap (BitVec.ofInt IntKind.i64.bits a ^^^ BitVec.ofInt IntKind.i64.bits b).toNat
theorem andZ_eq (a b : Int) : IntKind.i64.wrap (BitVec.ofInt IntKind.i64.bits a &&& BitVec.ofInt IntKind.i64.bits b).toNat = andZ a b := (rfl)
theorem xorZ_eq (a b : Int) : IntKind.i64.wrap (BitVec.ofInt IntKind.i64.bits a ^^^ BitVec.ofInt IntKind.i64.bits b).toNat = xorZ a b := (rfl)
theorem andZ_bd (a b : Int) (n : Nat) (hb : (BitVec.ofInt 64 b).toNat = n) (hn : n < 9223372036854775808) : 0 ≤ andZ a b ∧ andZ a b ≤ n := by
  have h : (BitVec.ofInt IntKind.i64.bits a &&& BitVec.ofInt IntKind.i64.bits b).toNat ≤ n := by
    rw [BitVec.toNat_and]
    exact Nat.le_trans Nat.and_le_right (Nat.le_of_eq hb)
  unfold andZ
  rw [wrap64 (by omega) (by omega)]
  omega
/-- The number that a code is mixed to. -/
def mixN (l : List Int) : Nat → Int
  | 0 => IntKind.i64.wrap (10101 + l.length)
  | k + 1 => andZ (IntKind.i64.wrap (IntKind.i64.wrap (IntKind.i64.wrap (mixN l k * 131) + IntKind.i64.wrap (l.getD k 0)) + 7)) 1073741823
def cur0 (l : List Int) : Cur := ⟨0, mixN l (min l.length 4000)⟩
theorem l1New (l : List Int) (hl : Code l) : XCall Try.prog 26 [.sl 1 (l.map cU)] [] (.ptr 16 0) [] [.cells (curC l (cur0 l))] := by
  unfold Code at hl
  refine xcall_of_walk Try.func26 (by rfl) (by rfl) (by rw [Try.ntmps26]; exact Nat.le_of_ble_eq_true rfl) rfl (by simp) rfl rfl ?_
  rw [Try.ntmps26]
  refine AW_x0   ?_
  refine AW_k [(0, _)] ⟨rfl, trivial⟩ ?_
  refine AW_x rfl rfl fun K hK => ?_
  simp (disch := omega) [wrap64, List.getElem?_eq_getElem, toNat_pred, cU, ↓andZ_eq, ↓xorZ_eq]
  repeat' first | (exfalso; omega) | (refine ⟨fun _ => ?_, fun _ => ?_⟩) | (refine ⟨by omega, ?_⟩) | (intro _)
  all_goals (refine hK _ ?_; clear hK K)
  all_goals
    refine AW_x rfl rfl fun K hK => ?_
    simp (disch := omega) [wrap64, List.getElem?_eq_getElem, toNat_pred, cU, ↓andZ_eq, ↓xorZ_eq]
    repeat' first | (exfalso; omega) | (refine ⟨fun _ => ?_, fun _ => ?_⟩) | (refine ⟨by omega, ?_⟩) | (intro _)
    all_goals (refine hK _ ?_; clear hK K)
    all_goals
      refine AW_seq ?_
      refine AW_x rfl rfl fun K hK => ?_
      simp (disch := omega) [wrap64, List.getElem?_eq_getElem, toNat_pred, cU, ↓andZ_eq, ↓xorZ_eq]
      repeat' first | (exfalso; omega) | (refine ⟨fun _ => ?_, fun _ => ?_⟩) | (refine ⟨by omega, ?_⟩) | (intro _)
      all_goals (refine hK _ ?_; clear hK K)
      all_goals
        refine AW_block ?_
        refine AW_loopS (fun mM sS => ∃ (i : Nat), mM = l.length - i ∧ (i ≤ l.length ∧ i ≤ 4000) ∧ sS = { env := lkE [(0, .sl 1 (l.map cU)), (3, (.g (.int .i64 (mixN l i)))), (4, (.g (.int .i64 ((i : Nat)))))], ob := lk [] }) ?_ ?_
        · refine ⟨_, LeS.kx [] [(0, .sl 1 (l.map cU)), (3, (.g (.int .i64 (mixN l (0))))), (4, (.g (.int .i64 (((0) : Nat)))))] [] (by simp [KpR, renV2, renV, upd_app, lkE_app, lk_cons, lk_nil]; try (first | rfl | (simp (disch := omega) [mixN, wrap64]; done) | (rw [mixN]; simp [List.getElem?_eq_getElem, *]; done))) (by simp [KpOX, renO, plO, cvO, renV, pl1, lk_cons, lk_nil, upd_app]; try rfl) (by rfl) (by simp) (by simp) (by rfl) (by simp [formsX, List.range_succ, lk_cons, lk_nil]), _, 0, rfl, ?_, rfl⟩
          · simp
        · rintro mM sS ⟨i, rfl, ⟨hi, hi2⟩, rfl⟩
          refine AW_seq ?_
          refine AW_x rfl rfl fun K hK => ?_
          simp (disch := omega) [wrap64, List.getElem?_eq_getElem, toNat_pred, cU, ↓andZ_eq, ↓xorZ_eq]
          repeat' first | (exfalso; omega) | (refine ⟨fun _ => ?_, fun _ => ?_⟩) | (refine ⟨by omega, ?_⟩) | (intro _)
          all_goals (refine hK _ ?_; clear hK K)
          all_goals
            refine AW_cond rfl (fun hc1 => ?_) (fun hc1 => ?_)
            · try simp at hc1
              all_goals
                refine AW_skip ?_
                refine AW_id ?_
                refine AW_seq ?_
                refine AW_block ?_
                refine AW_xe rfl rfl fun K hK => ?_
                simp (disch := omega) [wrap64, List.getElem?_eq_getElem, toNat_pred, cU, ↓andZ_eq, ↓xorZ_eq]
                repeat' first | (exfalso; omega) | (refine ⟨fun _ => ?_, fun _ => ?_⟩) | (refine ⟨by omega, ?_⟩) | (intro _)
                all_goals (refine hK _ ?_; clear hK K)
                all_goals
                  refine AW_id ?_
                  refine AW_xe rfl rfl fun K hK => ?_
                  simp (disch := omega) [wrap64, List.getElem?_eq_getElem, toNat_pred, cU, ↓andZ_eq, ↓xorZ_eq]
                  repeat' first | (exfalso; omega) | (refine ⟨fun _ => ?_, fun _ => ?_⟩) | (refine ⟨by omega, ?_⟩) | (intro _)
                  all_goals (refine hK _ ?_; clear hK K)
                  all_goals
                    refine ⟨_, LeS.kx [] [(0, .sl 1 (l.map cU)), (3, (.g (.int .i64 (mixN l (i + 1))))), (4, (.g (.int .i64 (((i + 1) : Nat)))))] [] (by simp [KpR, renV2, renV, upd_app, lkE_app, lk_cons, lk_nil]; try (first | rfl | (simp (disch := omega) [mixN, wrap64]; done) | (rw [mixN]; simp [List.getElem?_eq_getElem, *]; done))) (by simp [KpOX, renO, plO, cvO, renV, pl1, lk_cons, lk_nil, upd_app]; try rfl) (by rfl) (by simp) (by simp) (by rfl) (by simp [formsX, List.range_succ, lk_cons, lk_nil]), _, ?_, i + 1, rfl, ?_, rfl⟩
                    · omega
                    · omega
            · try simp at hc1
              all_goals
                refine AW_exit ?_
                refine AW_id ?_
                refine AW_x rfl rfl fun K hK => ?_
                simp (disch := omega) [wrap64, List.getElem?_eq_getElem, toNat_pred, cU, ↓andZ_eq, ↓xorZ_eq]
                repeat' first | (exfalso; omega) | (refine ⟨fun _ => ?_, fun _ => ?_⟩) | (refine ⟨by omega, ?_⟩) | (intro _)
                all_goals (refine hK _ ?_; clear hK K)
                all_goals
                  refine AW_ret (end_x [512] [] (by simp [List.range_succ, lk_cons, lk_nil, upd_app]) (by simp) ?_)
                  simp (disch := omega) [wrap64, List.getElem?_eq_getElem, toNat_pred, cU, ↓andZ_eq, ↓xorZ_eq, curC]
                  all_goals (unfold cur0; have e : i = min l.length 4000 := (by omega); rw [← e]; exact ⟨rfl, rfl⟩)
def nxH (h : Int) : Int := IntKind.i64.wrap (IntKind.i64.wrap (h * 6364136223846793005) + 1442695040888963407)
def rawX (h : Int) : Int := andZ (xorZ (h.fdiv (2 ^ min 33 IntKind.i64.bits)) (h.fdiv (2 ^ min 45 IntKind.i64.bits))) 255
def byte (l : List Int) (c : Cur) : Int := if c.i < l.length then andZ (IntKind.i64.wrap (rawX (nxH c.h) + IntKind.i64.wrap (l.getD c.i 0))) 255 else rawX (nxH c.h)
def stp (l : List Int) (c : Cur) : Cur := ⟨if c.i < l.length then c.i + 1 else c.i, nxH c.h⟩
theorem byte_bd (l : List Int) (c : Cur) : 0 ≤ byte l c ∧ byte l c ≤ 255 := by
  unfold byte rawX
  split <;> exact andZ_bd _ _ 255 (by decide) (by decide)
theorem l1Byte (l : List Int) (hl : Code l) (c : Cur) : XCall Try.prog 34 [.ptr 8 0] [.cells (curC l c)] (.g (.int .i64 (byte l c))) [.cells (curC l (stp l c))] [] := by
  unfold Code at hl
  unfold curC
  refine xcall_of_walk Try.func34 (by rfl) (by rfl) (by rw [Try.ntmps34]; exact Nat.le_of_ble_eq_true rfl) rfl (by simp) rfl rfl ?_
  rw [Try.ntmps34]
  refine AW_x1 (.cells [.sl 1 (l.map cU), .g (.int .i64 (c.i : Int)), .g (.int .i64 c.h)]) (by simp [cvO]) ?_
  refine AW_k [(0, _)] ⟨rfl, trivial⟩ ?_
  refine AW_x rfl rfl fun K hK => ?_
  simp (disch := omega) [wrap64, List.getElem?_eq_getElem, toNat_pred, cU, curC, ↓andZ_eq, ↓xorZ_eq]
  repeat' first | (exfalso; omega) | (refine ⟨fun _ => ?_, fun _ => ?_⟩) | (refine ⟨by omega, ?_⟩) | (intro _)
  all_goals (refine hK _ ?_; clear hK K)
  all_goals
    refine AW_x rfl rfl fun K hK => ?_
    simp (disch := omega) [wrap64, List.getElem?_eq_getElem, toNat_pred, cU, curC, ↓andZ_eq, ↓xorZ_eq]
    repeat' first | (exfalso; omega) | (refine ⟨fun _ => ?_, fun _ => ?_⟩) | (refine ⟨by omega, ?_⟩) | (intro _)
    all_goals (refine hK _ ?_; clear hK K)
    all_goals
      refine AW_d rfl mix (by kernel_rfl) (by kernel_rfl) fun K hK => ?_
      simp (disch := omega) [wrap64, List.getElem?_eq_getElem, toNat_pred, cU, curC, ↓andZ_eq, ↓xorZ_eq]
      repeat' first | (exfalso; omega) | (refine ⟨fun _ => ?_, fun _ => ?_⟩) | (refine ⟨by omega, ?_⟩) | (intro _)
      all_goals (refine hK _ _ (by kernel_rfl) ?_; clear hK K)
      all_goals
        refine AW_seq ?_
        refine AW_d rfl mix (by kernel_rfl) (by kernel_rfl) fun K hK => ?_
        simp (disch := omega) [wrap64, List.getElem?_eq_getElem, toNat_pred, cU, curC, ↓andZ_eq, ↓xorZ_eq]
        repeat' first | (exfalso; omega) | (refine ⟨fun _ => ?_, fun _ => ?_⟩) | (refine ⟨by omega, ?_⟩) | (intro _)
        all_goals (refine hK _ _ (by kernel_rfl) ?_; clear hK K)
        all_goals
          refine AW_cond rfl (fun hc2 => ?_) (fun hc2 => ?_)
          · try simp at hc2
            all_goals
              refine AW_d rfl mix (by kernel_rfl) (by kernel_rfl) fun K hK => ?_
              simp (disch := omega) [wrap64, List.getElem?_eq_getElem, toNat_pred, cU, curC, ↓andZ_eq, ↓xorZ_eq]
              repeat' first | (exfalso; omega) | (refine ⟨fun _ => ?_, fun _ => ?_⟩) | (refine ⟨by omega, ?_⟩) | (intro _)
              all_goals (refine hK _ _ (by kernel_rfl) ?_; clear hK K)
              all_goals
                refine AW_xe rfl rfl fun K hK => ?_
                simp (disch := omega) [wrap64, List.getElem?_eq_getElem, toNat_pred, cU, curC, ↓andZ_eq, ↓xorZ_eq]
                repeat' first | (exfalso; omega) | (refine ⟨fun _ => ?_, fun _ => ?_⟩) | (refine ⟨by omega, ?_⟩) | (intro _)
                all_goals (refine hK _ ?_; clear hK K)
                all_goals
                  refine AW_id ?_
                  refine AW_x rfl rfl fun K hK => ?_
                  simp (disch := omega) [wrap64, List.getElem?_eq_getElem, toNat_pred, cU, curC, ↓andZ_eq, ↓xorZ_eq]
                  repeat' first | (exfalso; omega) | (refine ⟨fun _ => ?_, fun _ => ?_⟩) | (refine ⟨by omega, ?_⟩) | (intro _)
                  all_goals (refine hK _ ?_; clear hK K)
                  all_goals
                    refine AW_ret (end_x [] [] (by simp [List.range_succ, lk_cons, lk_nil, upd_app]) (by simp) ?_)
                    simp (disch := omega) [wrap64, List.getElem?_eq_getElem, toNat_pred, cU, curC, ↓andZ_eq, ↓xorZ_eq, curC]
                    all_goals first | (simp [byte, stp, rawX, nxH, hc2, List.getElem?_eq_getElem]; done) | (simp [byte, stp, rawX, nxH, Nat.not_lt.2 hc2]; done)
          · try simp at hc2
            all_goals
              refine AW_skip ?_
              refine AW_id ?_
              refine AW_x rfl rfl fun K hK => ?_
              simp (disch := omega) [wrap64, List.getElem?_eq_getElem, toNat_pred, cU, curC, ↓andZ_eq, ↓xorZ_eq]
              repeat' first | (exfalso; omega) | (refine ⟨fun _ => ?_, fun _ => ?_⟩) | (refine ⟨by omega, ?_⟩) | (intro _)
              all_goals (refine hK _ ?_; clear hK K)
              all_goals
                refine AW_ret (end_x [] [] (by simp [List.range_succ, lk_cons, lk_nil, upd_app]) (by simp) ?_)
                simp (disch := omega) [wrap64, List.getElem?_eq_getElem, toNat_pred, cU, curC, ↓andZ_eq, ↓xorZ_eq, curC]
                all_goals first | (simp [byte, stp, rawX, nxH, hc2, List.getElem?_eq_getElem]; done) | (simp [byte, stp, rawX, nxH, Nat.not_lt.2 hc2]; done)
def stp4 (l : List Int) (c : Cur) : Cur := stp l (stp l (stp l (stp l c)))
def four (l : List Int) (c : Cur) : Int := byte l c * 16777216 + byte l (stp l c) * 65536 + byte l (stp l (stp l c)) * 256 + byte l (stp l (stp l (stp l c)))
def below (l : List Int) (n : Int) (c : Cur) : Int := if n ≤ 0 then 0 else if n ≤ 256 then byte l c % n else four l c % n
def belowS (l : List Int) (n : Int) (c : Cur) : Cur := if n ≤ 0 then c else if n ≤ 256 then stp l c else stp4 l c
theorem below_bd (l : List Int) (n : Int) (c : Cur) : 0 ≤ below l n c ∧ (0 < n → below l n c < n) := by
  unfold below
  split
  · omega
  · split
    · have := Int.emod_nonneg (byte l c) (show n ≠ 0 by omega); have := Int.emod_lt_of_pos (byte l c) (show 0 < n by omega); omega
    · have := Int.emod_nonneg (four l c) (show n ≠ 0 by omega); have := Int.emod_lt_of_pos (four l c) (show 0 < n by omega); omega
theorem l1Below (l : List Int) (hl : Code l) (c : Cur) (n : Int) : XCall Try.prog 30 [.ptr 8 0, (.g (.int .i64 (n)))] [.cells (curC l c)] (.g (.int .i64 (below l n c))) [.cells (curC l (belowS l n c))] [] := by
  have h1 := byte_bd l c; have h2 := byte_bd l (stp l c); have h3 := byte_bd l (stp l (stp l c)); have h4 := byte_bd l (stp l (stp l (stp l c)))
  refine xcall_of_walk Try.func30 (by rfl) (by rfl) (by rw [Try.ntmps30]; exact Nat.le_of_ble_eq_true rfl) rfl (by simp) rfl rfl ?_
  rw [Try.ntmps30]
  refine AW_x1 (.cells (curC l c)) (by simp [cvO]) ?_
  refine AW_k [(0, _), (1, _)] ⟨rfl, rfl, trivial⟩ ?_
  refine AW_x rfl rfl fun K hK => ?_
  simp (disch := omega) [wrap64, List.getElem?_eq_getElem, toNat_pred, cU, ↓andZ_eq, ↓xorZ_eq]
  repeat' first | (exfalso; omega) | (refine ⟨fun _ => ?_, fun _ => ?_⟩) | (refine ⟨by omega, ?_⟩) | (intro _)
  all_goals (refine hK _ ?_; clear hK K)
  all_goals
    refine AW_seq ?_
    refine AW_x rfl rfl fun K hK => ?_
    simp (disch := omega) [wrap64, List.getElem?_eq_getElem, toNat_pred, cU, ↓andZ_eq, ↓xorZ_eq]
    repeat' first | (exfalso; omega) | (refine ⟨fun _ => ?_, fun _ => ?_⟩) | (refine ⟨by omega, ?_⟩) | (intro _)
    all_goals (refine hK _ ?_; clear hK K)
    all_goals
      refine AW_cond rfl (fun hc3 => ?_) (fun hc3 => ?_)
      · try simp at hc3
        all_goals
          refine AW_x rfl rfl fun K hK => ?_
          simp (disch := omega) [wrap64, List.getElem?_eq_getElem, toNat_pred, cU, ↓andZ_eq, ↓xorZ_eq]
          repeat' first | (exfalso; omega) | (refine ⟨fun _ => ?_, fun _ => ?_⟩) | (refine ⟨by omega, ?_⟩) | (intro _)
          all_goals (refine hK _ ?_; clear hK K)
          all_goals
            refine AW_ret (end_x [] [] (by simp [List.range_succ, lk_cons, lk_nil, upd_app]) (by simp) ?_)
            simp (disch := omega) [wrap64, List.getElem?_eq_getElem, toNat_pred, cU, ↓andZ_eq, ↓xorZ_eq]
            all_goals (unfold below belowS stp4 four; simp only [Int.not_le.2, *, if_true, if_false, ite_true, ite_false]; first | exact ⟨rfl, rfl⟩ | (simp (disch := omega) [Int.tmod_eq_emod_of_nonneg]; done) | trace_state)
      · try simp at hc3
        all_goals
          refine AW_skip ?_
          refine AW_id ?_
          refine AW_seq ?_
          refine AW_x rfl rfl fun K hK => ?_
          simp (disch := omega) [wrap64, List.getElem?_eq_getElem, toNat_pred, cU, ↓andZ_eq, ↓xorZ_eq]
          repeat' first | (exfalso; omega) | (refine ⟨fun _ => ?_, fun _ => ?_⟩) | (refine ⟨by omega, ?_⟩) | (intro _)
          all_goals (refine hK _ ?_; clear hK K)
          all_goals
            refine AW_cond rfl (fun hc4 => ?_) (fun hc4 => ?_)
            · try simp at hc4
              all_goals
                refine AW_x rfl rfl fun K hK => ?_
                simp (disch := omega) [wrap64, List.getElem?_eq_getElem, toNat_pred, cU, ↓andZ_eq, ↓xorZ_eq]
                repeat' first | (exfalso; omega) | (refine XKd_cur (fun _ => xs_p xs_z) (l1Byte l hl _) rfl rfl ?_; simp (disch := omega) [wrap64, List.getElem?_eq_getElem, toNat_pred, cU, ↓andZ_eq, ↓xorZ_eq]) | (refine ⟨fun _ => ?_, fun _ => ?_⟩) | (refine ⟨by omega, ?_⟩) | (intro _)
                all_goals (refine hK _ ?_; clear hK K)
                all_goals
                  refine AW_ret (end_x [] [] (by simp [List.range_succ, lk_cons, lk_nil, upd_app]) (by simp) ?_)
                  simp (disch := omega) [wrap64, List.getElem?_eq_getElem, toNat_pred, cU, ↓andZ_eq, ↓xorZ_eq]
                  all_goals (unfold below belowS stp4 four; simp only [Int.not_le.2, *, if_true, if_false, ite_true, ite_false]; first | exact ⟨rfl, rfl⟩ | (simp (disch := omega) [Int.tmod_eq_emod_of_nonneg]; done) | trace_state)
            · try simp at hc4
              all_goals
                refine AW_skip ?_
                refine AW_id ?_
                refine AW_x rfl rfl fun K hK => ?_
                simp (disch := omega) [wrap64, List.getElem?_eq_getElem, toNat_pred, cU, ↓andZ_eq, ↓xorZ_eq]
                repeat' first | (exfalso; omega) | (refine XKd_cur (fun _ => xs_p xs_z) (l1Byte l hl _) rfl rfl ?_; simp (disch := omega) [wrap64, List.getElem?_eq_getElem, toNat_pred, cU, ↓andZ_eq, ↓xorZ_eq]) | (refine ⟨fun _ => ?_, fun _ => ?_⟩) | (refine ⟨by omega, ?_⟩) | (intro _)
                all_goals (refine hK _ ?_; clear hK K)
                all_goals
                  refine AW_x rfl rfl fun K hK => ?_
                  simp (disch := omega) [wrap64, List.getElem?_eq_getElem, toNat_pred, cU, ↓andZ_eq, ↓xorZ_eq]
                  repeat' first | (exfalso; omega) | (refine XKd_cur (fun _ => xs_p xs_z) (l1Byte l hl _) rfl rfl ?_; simp (disch := omega) [wrap64, List.getElem?_eq_getElem, toNat_pred, cU, ↓andZ_eq, ↓xorZ_eq]) | (refine ⟨fun _ => ?_, fun _ => ?_⟩) | (refine ⟨by omega, ?_⟩) | (intro _)
                  all_goals (refine hK _ ?_; clear hK K)
                  all_goals
                    refine AW_x rfl rfl fun K hK => ?_
                    simp (disch := omega) [wrap64, List.getElem?_eq_getElem, toNat_pred, cU, ↓andZ_eq, ↓xorZ_eq]
                    repeat' first | (exfalso; omega) | (refine XKd_cur (fun _ => xs_p xs_z) (l1Byte l hl _) rfl rfl ?_; simp (disch := omega) [wrap64, List.getElem?_eq_getElem, toNat_pred, cU, ↓andZ_eq, ↓xorZ_eq]) | (refine ⟨fun _ => ?_, fun _ => ?_⟩) | (refine ⟨by omega, ?_⟩) | (intro _)
                    all_goals (refine hK _ ?_; clear hK K)
                    all_goals
                      refine AW_x rfl rfl fun K hK => ?_
                      simp (disch := omega) [wrap64, List.getElem?_eq_getElem, toNat_pred, cU, ↓andZ_eq, ↓xorZ_eq]
                      repeat' first | (exfalso; omega) | (refine XKd_cur (fun _ => xs_p xs_z) (l1Byte l hl _) rfl rfl ?_; simp (disch := omega) [wrap64, List.getElem?_eq_getElem, toNat_pred, cU, ↓andZ_eq, ↓xorZ_eq]) | (refine ⟨fun _ => ?_, fun _ => ?_⟩) | (refine ⟨by omega, ?_⟩) | (intro _)
                      all_goals (refine hK _ ?_; clear hK K)
                      all_goals
                        refine AW_x rfl rfl fun K hK => ?_
                        simp (disch := omega) [wrap64, List.getElem?_eq_getElem, toNat_pred, cU, ↓andZ_eq, ↓xorZ_eq]
                        repeat' first | (exfalso; omega) | (refine ⟨fun _ => ?_, fun _ => ?_⟩) | (refine ⟨by omega, ?_⟩) | (intro _)
                        all_goals (refine hK _ ?_; clear hK K)
                        all_goals
                          refine AW_ret (end_x [] [] (by simp [List.range_succ, lk_cons, lk_nil, upd_app]) (by simp) ?_)
                          simp (disch := omega) [wrap64, List.getElem?_eq_getElem, toNat_pred, cU, ↓andZ_eq, ↓xorZ_eq]
                          all_goals (unfold below belowS stp4 four; simp only [Int.not_le.2, *, if_true, if_false, ite_true, ite_false]; first | exact ⟨rfl, rfl⟩ | (simp (disch := omega) [Int.tmod_eq_emod_of_nonneg]; done) | trace_state)
theorem l1Once (l : List Int) (hl : Code l) (c : Cur) (n : Int) : XCall Try.prog 35 [.ptr 8 0, (.g (.int .i64 (n)))] [.cells (curC l c)] (.g (.bool (decide (below l n c = 0)))) [.cells (curC l (belowS l n c))] [] := by
  refine xcall_of_walk Try.func35 (by rfl) (by rfl) (by rw [Try.ntmps35]; exact Nat.le_of_ble_eq_true rfl) rfl (by simp) rfl rfl ?_
  rw [Try.ntmps35]
  refine AW_x1 (.cells (curC l c)) (by simp [cvO]) ?_
  refine AW_k [(0, _), (1, _)] ⟨rfl, rfl, trivial⟩ ?_
  refine AW_x rfl rfl fun K hK => ?_
  simp (disch := omega) [wrap64, List.getElem?_eq_getElem, toNat_pred, cU, ↓andZ_eq, ↓xorZ_eq]
  repeat' first | (exfalso; omega) | (refine ⟨fun _ => ?_, fun _ => ?_⟩) | (refine ⟨by omega, ?_⟩) | (intro _)
  all_goals (refine hK _ ?_; clear hK K)
  all_goals
    refine AW_x rfl rfl fun K hK => ?_
    simp (disch := omega) [wrap64, List.getElem?_eq_getElem, toNat_pred, cU, ↓andZ_eq, ↓xorZ_eq]
    repeat' first | (exfalso; omega) | (refine XKd_cur (fun _ => xs_p (xs_g xs_z)) (l1Below l hl _ _) rfl rfl ?_; simp (disch := omega) [wrap64, List.getElem?_eq_getElem, toNat_pred, cU, ↓andZ_eq, ↓xorZ_eq]) | (refine ⟨fun _ => ?_, fun _ => ?_⟩) | (refine ⟨by omega, ?_⟩) | (intro _)
    all_goals (refine hK _ ?_; clear hK K)
    all_goals
      refine AW_ret (end_x [] [] (by simp [List.range_succ, lk_cons, lk_nil, upd_app]) (by simp) ?_)
      simp (disch := omega) [wrap64, List.getElem?_eq_getElem, toNat_pred, cU, ↓andZ_eq, ↓xorZ_eq]
      all_goals first | rfl | (simp; done) | trace_state
def pickZ (xs : List Int) (n : Int) : Int := xs.getD n.toNat 0
theorem l1PickInt (l : List Int) (hl : Code l) (c : Cur) (xs : List Int) (hx : 0 < xs.length ∧ xs.length ≤ 1048576) : XCall Try.prog 33 [.ptr 8 0, .arr 9 0 xs.length] [.cells (curC l c), .own 1 (xs.map cI)] (.g (.int .i64 (pickZ xs (below l xs.length c)))) [.cells (curC l (belowS l xs.length c)), .own 1 (xs.map cI)] [] := by
  have hb := below_bd l xs.length c
  refine xcall_of_walk Try.func33 (by rfl) (by rfl) (by rw [Try.ntmps33]; exact Nat.le_of_ble_eq_true rfl) rfl (by simp) rfl rfl ?_
  rw [Try.ntmps33]
  refine AW_x2 (.cells (curC l c)) (.own 1 (xs.map cI)) (by simp [cvO]) (by simp [cvO]) ?_
  refine AW_k [(0, _), (1, _)] ⟨rfl, rfl, trivial⟩ ?_
  refine AW_x rfl rfl fun K hK => ?_
  simp (disch := omega) [wrap64, List.getElem?_eq_getElem, toNat_pred, cI, cS, cU, ↓andZ_eq, ↓xorZ_eq]
  repeat' first | (exfalso; omega) | (refine ⟨fun _ => ?_, fun _ => ?_⟩) | (refine ⟨by omega, ?_⟩) | (intro _)
  all_goals (refine hK _ ?_; clear hK K)
  all_goals
    refine AW_x rfl rfl fun K hK => ?_
    simp (disch := omega) [wrap64, List.getElem?_eq_getElem, toNat_pred, cI, cS, cU, ↓andZ_eq, ↓xorZ_eq]
    repeat' first | (exfalso; omega) | (refine XKd_cur (fun _ => xs_p (xs_g xs_z)) (l1Below l hl _ _) rfl rfl ?_; simp (disch := omega) [wrap64, List.getElem?_eq_getElem, toNat_pred, cI, cS, cU, ↓andZ_eq, ↓xorZ_eq]) | (refine ⟨fun _ => ?_, fun _ => ?_⟩) | (refine ⟨by omega, ?_⟩) | (intro _)
    all_goals (refine hK _ ?_; clear hK K)
    all_goals
      refine AW_ret (end_x [] [] (by simp [List.range_succ, lk_cons, lk_nil, upd_app]) (by simp) ?_)
      simp (disch := omega) [wrap64, List.getElem?_eq_getElem, toNat_pred, cI, cS, cU, ↓andZ_eq, ↓xorZ_eq, cI]
      all_goals (unfold pickZ; simp [List.getElem?_eq_getElem, *]; done)
end Go.Proofs.Ytmcekkllkfccjaa.Vs
