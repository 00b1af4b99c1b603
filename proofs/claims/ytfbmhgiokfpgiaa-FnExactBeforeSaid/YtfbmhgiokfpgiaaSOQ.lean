import Derived.Test.YtfbmhgiokfpgiaaSN1
import Derived.Test.YtfbmhgiokfpgiaaSDQ
open Go Go.Proofs Go.Proofs.Ytfbmhgiokfpgiaa.Vs
namespace Go.Proofs.Ytfbmhgiokfpgiaa.Vs
set_option linter.all false
set_option linter.unusedSimpArgs false
set_option linter.unusedVariables false
set_option maxRecDepth 100000
theorem zlz {α : Type} {f : α → Int} (hf : ∀ x, 0 ≤ f x) (l : List α) : (l.length : Int) ≤ szS f l := by have := zcp hf l; unfold szS; omega
def mkId (k : Int) (u : DtId) : DtId := { fRep := k, fSlot := k + 1 }
def cntId (u : DtId) : Int := 1 + 1
theorem toIdSX (us : List DtId) (hl : us.length ≤ 1048576) : XCall Try.prog 38 [.sl 2 (us.map DtId.cells)] [] (.arr 16 0 us.length) [] [.own 2 (us.map DtId.cells)] := by
 have hL := hl
 refine zc1 Try.func38 (by rfl) (by rfl) (by rw [Try.ntmps38]; exact Nat.le_of_ble_eq_true rfl) rfl (by simp) rfl rfl ?_
 rw [Try.ntmps38]
 refine zgt   ?_
 refine AW_k [(0, _)] ⟨rfl, trivial⟩ ?_
 refine AW_x rfl rfl fun K hK => ?_
 simp (disch := omega) [zbd, gE, tP, DtId.cells, zdm, zc2, List.range_succ]
 repeat' first | (refine ⟨by omega, ?_⟩) | (intro _)
 refine hK _ ?_; clear hK K
 refine AW_x rfl rfl fun K hK => ?_
 simp (disch := omega) [zbd, gE, tP, DtId.cells, zdm, zc2, List.range_succ]
 repeat' first | (refine ⟨by omega, ?_⟩) | (intro _)
 refine hK _ ?_; clear hK K
 refine zbt ?_
 refine AW_x rfl rfl fun K hK => ?_
 simp (disch := omega) [zbd, gE, tP, DtId.cells, zdm, zc2, List.range_succ]
 repeat' first | (refine ⟨by omega, ?_⟩) | (intro _)
 refine hK _ ?_; clear hK K
 refine zb0 ?_
 refine zcc (fun mM sS => ∃ (i : Nat), mM = us.length - i ∧ (i ≤ us.length) ∧ sS = { env := lkE [(0, .sl 2 (us.map DtId.cells)), (3, .arr 128 0 us.length), (4, (.g (.int .i64 ((i : Nat)))))], ob := lk [(128, .own 2 (cpS [.g (.int .i64 0), .g (.int .i64 0)] DtId.cells us i))] }) ?_ ?_
 ·refine ⟨_, LeS.kx [(128, 128)] [(0, .sl 2 (us.map DtId.cells)), (3, .arr 128 0 us.length), (4, (.g (.int .i64 (((0) : Nat)))))] [(128, .own 2 (cpS [.g (.int .i64 0), .g (.int .i64 0)] DtId.cells us (0)))] (by simp [KpR, renV2, renV, zbn, zb4, zbk, zbx, zq8, zgu]; try (first | rfl | (omega; done))) (by simp [KpOX, renO, plO, cvO, renV, pl1, zbk, zbx, zbn, zq8, zgu]; try (first | rfl | (rw [← zpf _ _ _ i (by omega)]; simp [DtId.cells]; done))) (by rfl) (by simp) (by simp) (by rfl) (by simp [formsX, List.range_succ, zbk, zbx]), _, 0, rfl, ?_, rfl⟩
  ·simp
 ·rintro mM sS ⟨i, rfl, hi, rfl⟩
  have hln : (cpS [.g (.int .i64 0), .g (.int .i64 0)] DtId.cells us i).length = us.length := zz7 _ _ _ _ hi
  refine zbt ?_
  refine AW_x rfl rfl fun K hK => ?_
  simp (disch := omega) [zbd, gE, tP, DtId.cells, zdm, zc2, List.range_succ]
  repeat' first | (refine ⟨by omega, ?_⟩) | (intro _)
  refine hK _ ?_; clear hK K
  refine zbv rfl (fun hc5 => ?_) (fun hc5 => ?_)
  ·try simp at hc5
   all_goals
    refine zbw ?_
    refine zb3 ?_
    refine zbt ?_
    refine zb0 ?_
    refine zdx rfl rfl fun K hK => ?_
    simp (disch := omega) [zbd, gE, tP, DtId.cells, zdm, zc2, List.range_succ]
    repeat' first | (exfalso; omega) | (refine zd1 (zbg (zb6 rfl) zbr) (toId _) rfl ?_; simp (disch := omega) [zbd, gE, tP, DtId.cells, zdm, zc2, List.range_succ]) | (refine zd2 (toId _) (by rfl) ?_ ?_; (focus (simp (disch := omega) [zbd, gE, tP, DtId.cells, zdm, zc2, List.range_succ, zbc]; done)); simp (disch := omega) [zbd, gE, tP, DtId.cells, zdm, zc2, List.range_succ]) | (refine ⟨fun _ => ?_, fun _ => ?_⟩) | (refine ⟨by omega, ?_⟩) | (intro _)
    all_goals (refine hK _ ?_; clear hK K)
    all_goals
     refine zb3 ?_
     refine zdx rfl rfl fun K hK => ?_
     simp (disch := omega) [zbd, gE, tP, DtId.cells, zdm, zc2, List.range_succ]
     repeat' first | (refine ⟨by omega, ?_⟩) | (intro _)
     refine hK _ ?_; clear hK K
     refine ⟨_, LeS.kx [(128, 128)] [(0, .sl 2 (us.map DtId.cells)), (3, .arr 128 0 us.length), (4, (.g (.int .i64 (((i + 1) : Nat)))))] [(128, .own 2 (cpS [.g (.int .i64 0), .g (.int .i64 0)] DtId.cells us (i + 1)))] (by simp [KpR, renV2, renV, zbn, zb4, zbk, zbx, zq8, zgu]; try (first | rfl | (omega; done))) (by simp [KpOX, renO, plO, cvO, renV, pl1, zbk, zbx, zbn, zq8, zgu]; try (first | rfl | (rw [← zpf _ _ _ i (by omega)]; simp [DtId.cells]; done))) (by rfl) (by simp) (by simp) (by rfl) (by simp [formsX, List.range_succ, zbk, zbx]), _, ?_, i + 1, rfl, ?_, rfl⟩
     ·omega
     ·omega
  try simp at hc5
  refine zce ?_
  refine zb3 ?_
  refine AW_x rfl rfl fun K hK => ?_
  simp (disch := omega) [zbd, gE, tP, DtId.cells, zdm, zc2, List.range_succ]
  repeat' first | (exfalso; omega) | (refine ⟨fun _ => ?_, fun _ => ?_⟩) | (refine ⟨by omega, ?_⟩) | (intro _)
  all_goals (refine hK _ ?_; clear hK K)
  all_goals
   refine zbz (zhc [128] [] (by simp [List.range_succ, zbk, zbx, zbn]) (by simp) ?_)
   simp (disch := omega) [zbd, gE, tP, DtId.cells, zdm, zc2, List.range_succ]
   all_goals (rw [cpS_n _ _ _ _ (by omega)])
def mkCmd (k : Int) (u : DtCmd) : DtCmd := { fKind := k, fClient := k + 1, fNo := k + 1 + 1, fSet := mT (k + 1 + 1 + 1), fName := mT (k + 1 + 1 + 1 + 1), fTag := mT (k + 1 + 1 + 1 + 1 + 1), fN := k + 1 + 1 + 1 + 1 + 1 + 1, fChunks := mkL mT (k + 1 + 1 + 1 + 1 + 1 + 1 + 1) u.fChunks.length }
def cntCmd (u : DtCmd) : Int := 1 + 1 + 1 + 1 + 1 + 1 + 1 + (u.fChunks.length : Nat)
theorem toCmdX (u : DtCmd) (hs : DtCmd.sz u ≤ 1048576) : XCall Try.prog 37 [.agg (DtCmd.cells u)] [] (.agg [.g (.int .i64 u.fKind), .g (.int .i64 u.fClient), .g (.int .i64 u.fNo), .s u.fSet, .s u.fName, .s u.fTag, .g (.int .i64 u.fN), .arr 16 0 u.fChunks.length]) [] [.own 1 (u.fChunks.map cS)] := by
 simp only [DtCmd.sz] at hs
 have hz1 := zlz zcy u.fChunks
 refine zc1 Try.func37 (by rfl) (by rfl) (by rw [Try.ntmps37]; exact Nat.le_of_ble_eq_true rfl) rfl (by simp) rfl rfl ?_
 rw [Try.ntmps37]
 refine zgt   ?_
 refine AW_k [(0, _)] ⟨rfl, trivial⟩ ?_
 refine AW_x rfl rfl fun K hK => ?_
 simp (disch := omega) [zbd, gE, tP, DtCmd.cells]
 repeat' first | (refine ⟨by omega, ?_⟩) | (intro _)
 refine hK _ ?_; clear hK K
 refine AW_x rfl rfl fun K hK => ?_
 simp (disch := omega) [zbd, gE, tP, DtCmd.cells]
 repeat' first | (refine ⟨by omega, ?_⟩) | (intro _)
 refine hK _ ?_; clear hK K
 refine AW_x rfl rfl fun K hK => ?_
 simp (disch := omega) [zbd, gE, tP, DtCmd.cells]
 repeat' first | (refine ⟨by omega, ?_⟩) | (intro _)
 refine hK _ ?_; clear hK K
 refine AW_x rfl rfl fun K hK => ?_
 simp (disch := omega) [zbd, gE, tP, DtCmd.cells]
 repeat' first | (refine ⟨by omega, ?_⟩) | (intro _)
 refine hK _ ?_; clear hK K
 refine AW_x rfl rfl fun K hK => ?_
 simp (disch := omega) [zbd, gE, tP, DtCmd.cells]
 repeat' first | (refine ⟨by omega, ?_⟩) | (intro _)
 refine hK _ ?_; clear hK K
 refine AW_x rfl rfl fun K hK => ?_
 simp (disch := omega) [zbd, gE, tP, DtCmd.cells]
 repeat' first | (refine ⟨by omega, ?_⟩) | (intro _)
 refine hK _ ?_; clear hK K
 refine AW_x rfl rfl fun K hK => ?_
 simp (disch := omega) [zbd, gE, tP, DtCmd.cells]
 repeat' first | (refine ⟨by omega, ?_⟩) | (intro _)
 refine hK _ ?_; clear hK K
 refine AW_x rfl rfl fun K hK => ?_
 simp (disch := omega) [zbd, gE, tP, DtCmd.cells]
 repeat' first | (refine ⟨by omega, ?_⟩) | (intro _)
 refine hK _ ?_; clear hK K
 refine AW_x rfl rfl fun K hK => ?_
 simp (disch := omega) [zbd, gE, tP, DtCmd.cells]
 repeat' first | (refine ⟨by omega, ?_⟩) | (intro _)
 refine hK _ ?_; clear hK K
 refine AW_x rfl rfl fun K hK => ?_
 simp (disch := omega) [zbd, gE, tP, DtCmd.cells]
 repeat' first | (exfalso; omega) | (refine zn2 [] true [] (zwg u.fChunks (by omega)) ?_ ?_ ?_; (focus (simp [List.range_succ, nmC]; done)); (focus (simp (disch := omega) [zbd, gE, tP, DtCmd.cells, zbc]; done)); simp (disch := omega) [zbd, gE, tP, DtCmd.cells]) | (refine ⟨by omega, ?_⟩) | (intro _)
 refine hK _ ?_; clear hK K
 refine AW_x rfl rfl fun K hK => ?_
 simp (disch := omega) [zbd, gE, tP, DtCmd.cells]
 repeat' first | (refine ⟨by omega, ?_⟩) | (intro _)
 refine hK _ ?_; clear hK K
 refine zbz (zhc [448] [] (by simp [List.range_succ, zbk, zbx, zbn]) (by simp) ?_)
 simp (disch := omega) [zbd, gE, tP, DtCmd.cells]
 all_goals skip
def mkInst (k : Int) (u : DtInst) : DtInst := { fId := { fRep := k, fSlot := k + 1 }, fBal := k + 1 + 1, fVBal := k + 1 + 1 + 1, fStatus := k + 1 + 1 + 1 + 1, fCmd := { fKind := k + 1 + 1 + 1 + 1 + 1, fClient := k + 1 + 1 + 1 + 1 + 1 + 1, fNo := k + 1 + 1 + 1 + 1 + 1 + 1 + 1, fSet := mT (k + 1 + 1 + 1 + 1 + 1 + 1 + 1 + 1), fName := mT (k + 1 + 1 + 1 + 1 + 1 + 1 + 1 + 1 + 1), fTag := mT (k + 1 + 1 + 1 + 1 + 1 + 1 + 1 + 1 + 1 + 1), fN := k + 1 + 1 + 1 + 1 + 1 + 1 + 1 + 1 + 1 + 1 + 1, fChunks := mkL mT (k + 1 + 1 + 1 + 1 + 1 + 1 + 1 + 1 + 1 + 1 + 1 + 1) u.fCmd.fChunks.length }, fSeq := k + 1 + 1 + 1 + 1 + 1 + 1 + 1 + 1 + 1 + 1 + 1 + 1 + (u.fCmd.fChunks.length : Nat), fDeps := mkS mkId cntId (k + 1 + 1 + 1 + 1 + 1 + 1 + 1 + 1 + 1 + 1 + 1 + 1 + (u.fCmd.fChunks.length : Nat) + 1) u.fDeps, fSame := mB (k + 1 + 1 + 1 + 1 + 1 + 1 + 1 + 1 + 1 + 1 + 1 + 1 + (u.fCmd.fChunks.length : Nat) + 1 + cntS cntId u.fDeps) }
def cntInst (u : DtInst) : Int := 1 + 1 + 1 + 1 + 1 + 1 + 1 + 1 + 1 + 1 + 1 + 1 + (u.fCmd.fChunks.length : Nat) + 1 + cntS cntId u.fDeps + 1
theorem toInstX (u : DtInst) (hs : DtInst.sz u ≤ 1048576) : XCall Try.prog 20 [.agg (DtInst.cells u)] [] (.agg [.g (.int .i64 u.fId.fRep), .g (.int .i64 u.fId.fSlot), .g (.int .i64 u.fBal), .g (.int .i64 u.fVBal), .g (.int .i64 u.fStatus), .g (.int .i64 u.fCmd.fKind), .g (.int .i64 u.fCmd.fClient), .g (.int .i64 u.fCmd.fNo), .s u.fCmd.fSet, .s u.fCmd.fName, .s u.fCmd.fTag, .g (.int .i64 u.fCmd.fN), .arr 16 0 u.fCmd.fChunks.length, .g (.int .i64 u.fSeq), .arr 17 0 u.fDeps.length, .g (.bool u.fSame)]) [] [.own 1 (u.fCmd.fChunks.map cS), .own 2 (u.fDeps.map DtId.cells)] := by
 simp only [DtInst.sz] at hs
 have hz1 := zlz zcy u.fCmd.fChunks
 have hz7 := DtCmd.sz_nonneg u.fCmd
 refine zc1 Try.func20 (by rfl) (by rfl) (by rw [Try.ntmps20]; exact Nat.le_of_ble_eq_true rfl) rfl (by simp) rfl rfl ?_
 rw [Try.ntmps20]
 refine zgt   ?_
 refine AW_k [(0, _)] ⟨rfl, trivial⟩ ?_
 refine AW_x rfl rfl fun K hK => ?_
 simp (disch := omega) [zbd, gE, tP, DtInst.cells, DtId.cells, DtCmd.cells]
 repeat' first | (refine ⟨by omega, ?_⟩) | (intro _)
 refine hK _ ?_; clear hK K
 refine AW_x rfl rfl fun K hK => ?_
 simp (disch := omega) [zbd, gE, tP, DtInst.cells, DtId.cells, DtCmd.cells]
 repeat' first | (refine ⟨by omega, ?_⟩) | (intro _)
 refine hK _ ?_; clear hK K
 refine AW_x rfl rfl fun K hK => ?_
 simp (disch := omega) [zbd, gE, tP, DtInst.cells, DtId.cells, DtCmd.cells]
 repeat' first | (exfalso; omega) | (refine zd1 (zbg (zb6 rfl) zbr) (toId _) rfl ?_; simp (disch := omega) [zbd, gE, tP, DtInst.cells, DtId.cells, DtCmd.cells]) | (refine zd2 (toId _) (by rfl) ?_ ?_; (focus (simp (disch := omega) [zbd, gE, tP, DtInst.cells, DtId.cells, DtCmd.cells, zbc]; done)); simp (disch := omega) [zbd, gE, tP, DtInst.cells, DtId.cells, DtCmd.cells]) | (refine ⟨by omega, ?_⟩) | (intro _)
 refine hK _ ?_; clear hK K
 refine AW_x rfl rfl fun K hK => ?_
 simp (disch := omega) [zbd, gE, tP, DtInst.cells, DtId.cells, DtCmd.cells]
 repeat' first | (refine ⟨by omega, ?_⟩) | (intro _)
 refine hK _ ?_; clear hK K
 refine AW_x rfl rfl fun K hK => ?_
 simp (disch := omega) [zbd, gE, tP, DtInst.cells, DtId.cells, DtCmd.cells]
 repeat' first | (refine ⟨by omega, ?_⟩) | (intro _)
 refine hK _ ?_; clear hK K
 refine AW_x rfl rfl fun K hK => ?_
 simp (disch := omega) [zbd, gE, tP, DtInst.cells, DtId.cells, DtCmd.cells]
 repeat' first | (refine ⟨by omega, ?_⟩) | (intro _)
 refine hK _ ?_; clear hK K
 refine AW_x rfl rfl fun K hK => ?_
 simp (disch := omega) [zbd, gE, tP, DtInst.cells, DtId.cells, DtCmd.cells]
 repeat' first | (exfalso; omega) | (refine zn2 [] true [] (toCmdX u.fCmd (by omega)) ?_ ?_ ?_; (focus (simp [List.range_succ, nmC]; done)); (focus (simp (disch := omega) [zbd, gE, tP, DtInst.cells, DtId.cells, DtCmd.cells, zbc]; done)); simp (disch := omega) [zbd, gE, tP, DtInst.cells, DtId.cells, DtCmd.cells]) | (refine ⟨by omega, ?_⟩) | (intro _)
 refine hK _ ?_; clear hK K
 refine AW_x rfl rfl fun K hK => ?_
 simp (disch := omega) [zbd, gE, tP, DtInst.cells, DtId.cells, DtCmd.cells]
 repeat' first | (refine ⟨by omega, ?_⟩) | (intro _)
 refine hK _ ?_; clear hK K
 refine AW_x rfl rfl fun K hK => ?_
 simp (disch := omega) [zbd, gE, tP, DtInst.cells, DtId.cells, DtCmd.cells]
 repeat' first | (exfalso; omega) | (refine zn2 [] true [] (toIdSX u.fDeps (by omega)) ?_ ?_ ?_; (focus (simp [List.range_succ, nmC]; done)); (focus (simp (disch := omega) [zbd, gE, tP, DtInst.cells, DtId.cells, DtCmd.cells, zbc]; done)); simp (disch := omega) [zbd, gE, tP, DtInst.cells, DtId.cells, DtCmd.cells]) | (refine ⟨by omega, ?_⟩) | (intro _)
 refine hK _ ?_; clear hK K
 refine AW_x rfl rfl fun K hK => ?_
 simp (disch := omega) [zbd, gE, tP, DtInst.cells, DtId.cells, DtCmd.cells]
 repeat' first | (refine ⟨by omega, ?_⟩) | (intro _)
 refine hK _ ?_; clear hK K
 refine AW_x rfl rfl fun K hK => ?_
 simp (disch := omega) [zbd, gE, tP, DtInst.cells, DtId.cells, DtCmd.cells]
 repeat' first | (refine ⟨by omega, ?_⟩) | (intro _)
 refine hK _ ?_; clear hK K
 refine zbz (zhc [320, 432] [] (by simp [List.range_succ, zbk, zbx, zbn]) (by simp) ?_)
 simp (disch := omega) [zbd, gE, tP, DtInst.cells, DtId.cells, DtCmd.cells]
 all_goals skip
theorem zpg (us : List DtInst) (hs : szS DtInst.sz us ≤ 1048576) : XCall Try.prog 7 [.sl 16 (us.map DtInst.cells)] [] (.arr 16 0 us.length) [] [.own 16 (us.map DtInst.cells)] := by
 have hL : us.length ≤ 1048576 := by have := zlz DtInst.sz_nonneg us; omega
 refine zc1 Try.func7 (by rfl) (by rfl) (by rw [Try.ntmps7]; exact Nat.le_of_ble_eq_true rfl) rfl (by simp) rfl rfl ?_
 rw [Try.ntmps7]
 refine zgt   ?_
 refine AW_k [(0, _)] ⟨rfl, trivial⟩ ?_
 refine AW_x rfl rfl fun K hK => ?_
 simp (disch := omega) [zbd, gE, tP, DtInst.cells, DtId.cells, DtCmd.cells, zdm, zc2, List.range_succ]
 repeat' first | (refine ⟨by omega, ?_⟩) | (intro _)
 refine hK _ ?_; clear hK K
 refine AW_x rfl rfl fun K hK => ?_
 simp (disch := omega) [zbd, gE, tP, DtInst.cells, DtId.cells, DtCmd.cells, zdm, zc2, List.range_succ]
 repeat' first | (refine ⟨by omega, ?_⟩) | (intro _)
 refine hK _ ?_; clear hK K
 refine zbt ?_
 refine AW_x rfl rfl fun K hK => ?_
 simp (disch := omega) [zbd, gE, tP, DtInst.cells, DtId.cells, DtCmd.cells, zdm, zc2, List.range_succ]
 repeat' first | (refine ⟨by omega, ?_⟩) | (intro _)
 refine hK _ ?_; clear hK K
 refine zb0 ?_
 refine zcc (fun mM sS => ∃ (i : Nat), mM = us.length - i ∧ (i ≤ us.length) ∧ sS = { env := lkE [(0, .sl 16 (us.map DtInst.cells)), (3, .arr 128 0 us.length), (4, (.g (.int .i64 ((i : Nat)))))], ob := lk [(128, .own 16 (cpS [.g (.int .i64 0), .g (.int .i64 0), .g (.int .i64 0), .g (.int .i64 0), .g (.int .i64 0), .g (.int .i64 0), .g (.int .i64 0), .g (.int .i64 0), .s [], .s [], .s [], .g (.int .i64 0), .g (.slice none 0 0), .g (.int .i64 0), .g (.slice none 0 0), .g (.bool false)] DtInst.cells us i))] }) ?_ ?_
 ·refine ⟨_, LeS.kx [(128, 128)] [(0, .sl 16 (us.map DtInst.cells)), (3, .arr 128 0 us.length), (4, (.g (.int .i64 (((0) : Nat)))))] [(128, .own 16 (cpS [.g (.int .i64 0), .g (.int .i64 0), .g (.int .i64 0), .g (.int .i64 0), .g (.int .i64 0), .g (.int .i64 0), .g (.int .i64 0), .g (.int .i64 0), .s [], .s [], .s [], .g (.int .i64 0), .g (.slice none 0 0), .g (.int .i64 0), .g (.slice none 0 0), .g (.bool false)] DtInst.cells us (0)))] (by simp [KpR, renV2, renV, zbn, zb4, zbk, zbx, zq8, zgu]; try (first | rfl | (omega; done))) (by simp [KpOX, renO, plO, cvO, renV, pl1, zbk, zbx, zbn, zq8, zgu]; try (first | rfl | (rw [← zpf _ _ _ i (by omega)]; simp [DtInst.cells, DtId.cells, DtCmd.cells]; done))) (by rfl) (by simp) (by simp) (by rfl) (by simp [formsX, List.range_succ, zbk, zbx]), _, 0, rfl, ?_, rfl⟩
  ·simp
 ·rintro mM sS ⟨i, rfl, hi, rfl⟩
  have hln : (cpS [.g (.int .i64 0), .g (.int .i64 0), .g (.int .i64 0), .g (.int .i64 0), .g (.int .i64 0), .g (.int .i64 0), .g (.int .i64 0), .g (.int .i64 0), .s [], .s [], .s [], .g (.int .i64 0), .g (.slice none 0 0), .g (.int .i64 0), .g (.slice none 0 0), .g (.bool false)] DtInst.cells us i).length = us.length := zz7 _ _ _ _ hi
  refine zbt ?_
  refine AW_x rfl rfl fun K hK => ?_
  simp (disch := omega) [zbd, gE, tP, DtInst.cells, DtId.cells, DtCmd.cells, zdm, zc2, List.range_succ]
  repeat' first | (refine ⟨by omega, ?_⟩) | (intro _)
  refine hK _ ?_; clear hK K
  refine zbv rfl (fun hc7 => ?_) (fun hc7 => ?_)
  ·try simp at hc7
   all_goals
    have hsE : DtInst.sz us[i] ≤ 1048576 := by have := zgh DtInst.sz_nonneg us us[i] (List.getElem_mem _); simp only [szS] at hs; omega
    refine zbw ?_
    refine zb3 ?_
    refine zbt ?_
    refine zb0 ?_
    refine zdx rfl rfl fun K hK => ?_
    simp (disch := omega) [zbd, gE, tP, DtInst.cells, DtId.cells, DtCmd.cells, zdm, zc2, List.range_succ]
    repeat' first | (exfalso; omega) | (refine zn2 [] true [] (toInstX us[i] (by omega)) ?_ ?_ ?_; (focus (simp [List.range_succ, nmC]; done)); (focus (simp (disch := omega) [zbd, gE, tP, DtInst.cells, DtId.cells, DtCmd.cells, zdm, zc2, List.range_succ, zbc]; done)); simp (disch := omega) [zbd, gE, tP, DtInst.cells, DtId.cells, DtCmd.cells, zdm, zc2, List.range_succ]) | (refine ⟨fun _ => ?_, fun _ => ?_⟩) | (refine ⟨by omega, ?_⟩) | (intro _)
    all_goals (refine hK _ ?_; clear hK K)
    all_goals
     refine zb3 ?_
     refine zdx rfl rfl fun K hK => ?_
     simp (disch := omega) [zbd, gE, tP, DtInst.cells, DtId.cells, DtCmd.cells, zdm, zc2, List.range_succ]
     repeat' first | (refine ⟨by omega, ?_⟩) | (intro _)
     refine hK _ ?_; clear hK K
     refine ⟨_, LeS.kx [(128, 128)] [(0, .sl 16 (us.map DtInst.cells)), (3, .arr 128 0 us.length), (4, (.g (.int .i64 (((i + 1) : Nat)))))] [(128, .own 16 (cpS [.g (.int .i64 0), .g (.int .i64 0), .g (.int .i64 0), .g (.int .i64 0), .g (.int .i64 0), .g (.int .i64 0), .g (.int .i64 0), .g (.int .i64 0), .s [], .s [], .s [], .g (.int .i64 0), .g (.slice none 0 0), .g (.int .i64 0), .g (.slice none 0 0), .g (.bool false)] DtInst.cells us (i + 1)))] (by simp [KpR, renV2, renV, zbn, zb4, zbk, zbx, zq8, zgu]; try (first | rfl | (omega; done))) (by simp [KpOX, renO, plO, cvO, renV, pl1, zbk, zbx, zbn, zq8, zgu]; try (first | rfl | (rw [← zpf _ _ _ i (by omega)]; simp [DtInst.cells, DtId.cells, DtCmd.cells]; done))) (by rfl) (by simp) (by simp) (by rfl) (by simp [formsX, List.range_succ, zbk, zbx]), _, ?_, i + 1, rfl, ?_, rfl⟩
     ·omega
     ·omega
  try simp at hc7
  refine zce ?_
  refine zb3 ?_
  refine AW_x rfl rfl fun K hK => ?_
  simp (disch := omega) [zbd, gE, tP, DtInst.cells, DtId.cells, DtCmd.cells, zdm, zc2, List.range_succ]
  repeat' first | (exfalso; omega) | (refine ⟨fun _ => ?_, fun _ => ?_⟩) | (refine ⟨by omega, ?_⟩) | (intro _)
  all_goals (refine hK _ ?_; clear hK K)
  all_goals
   refine zbz (zhc [128] [] (by simp [List.range_succ, zbk, zbx, zbn]) (by simp) ?_)
   simp (disch := omega) [zbd, gE, tP, DtInst.cells, DtId.cells, DtCmd.cells, zdm, zc2, List.range_succ]
   all_goals (rw [cpS_n _ _ _ _ (by omega)])
end Go.Proofs.Ytfbmhgiokfpgiaa.Vs
