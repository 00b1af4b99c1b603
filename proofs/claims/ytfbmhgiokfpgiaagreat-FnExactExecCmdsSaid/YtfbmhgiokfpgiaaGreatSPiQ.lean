import Derived.Test.YtfbmhgiokfpgiaaGreatSPhQ
import Derived.Test.YtfbmhgiokfpgiaaGreatSOQ
open Go Go.Proofs Go.Proofs.YtfbmhgiokfpgiaaGreat.Vs
namespace Go.Proofs.YtfbmhgiokfpgiaaGreat.Vs
set_option linter.all false
set_option linter.unusedSimpArgs false
set_option linter.unusedVariables false
set_option maxRecDepth 100000
set_option maxHeartbeats 4000000
/-! instances, copied into rows of the caller's own -/
def cmdO (c : DtCmd) (n : Nat) : List AV := [.g (.int .i64 c.fKind), .g (.int .i64 c.fClient), .g (.int .i64 c.fNo), .s c.fSet, .s c.fName, .s c.fTag, .g (.int .i64 c.fN), .arr n 0 c.fChunks.length]
def instO (u : DtInst) (n m : Nat) : List AV := [.g (.int .i64 u.fId.fRep), .g (.int .i64 u.fId.fSlot), .g (.int .i64 u.fBal), .g (.int .i64 u.fVBal), .g (.int .i64 u.fStatus), .g (.int .i64 u.fCmd.fKind), .g (.int .i64 u.fCmd.fClient), .g (.int .i64 u.fCmd.fNo), .s u.fCmd.fSet, .s u.fCmd.fName, .s u.fCmd.fTag, .g (.int .i64 u.fCmd.fN), .arr n 0 u.fCmd.fChunks.length, .g (.int .i64 u.fSeq), .arr m 0 u.fDeps.length, .g (.bool u.fSame)]
attribute [local simp] cmdO instO
theorem zxp (l : List (List UInt8)) (hl : l.length ≤ 1048576) : XCall Tryz.prog 71 [.sl 1 (l.map cS)] [] (.arr 16 0 l.length) [] [.own 1 (l.map cS)] := by
 refine zcg Tryz.func71 (by rfl) (by rfl) (by rw [Tryz.ntmps71]; exact Nat.le_of_ble_eq_true rfl) rfl (by simp) rfl rfl ?_
 rw [Tryz.ntmps71]
 refine zfb   ?_
 refine AW_k [(0, _)] ⟨rfl, trivial⟩ ?_
 refine AW_x rfl rfl fun K hK => ?_
 simp (disch := omega) [zbd, gE, tP, DtInst.cells, DtCmd.cells, DtId.cells, cmdO, instO, zba, zbe, and_assoc]
 repeat' first | (refine ⟨by omega, ?_⟩) | (intro _)
 refine hK _ ?_; clear hK K
 refine AW_x rfl rfl fun K hK => ?_
 simp (disch := omega) [zbd, gE, tP, DtInst.cells, DtCmd.cells, DtId.cells, cmdO, instO, zba, zbe, and_assoc]
 repeat' first | (refine ⟨by omega, ?_⟩) | (simp (disch := omega) [zbd, gE, tP, DtInst.cells, DtCmd.cells, DtId.cells, cmdO, instO, zba, zbe, and_assoc]) | (intro _)
 refine hK _ ?_; clear hK K
 refine zby (zdm [80] [] (by simp [List.range_succ, zbi, zbp, zbl]) (by simp) ?_)
 simp (disch := omega) [zbd, gE, tP, DtInst.cells, DtCmd.cells, DtId.cells, cmdO, instO, zba, zbe, and_assoc]
 all_goals first | omega | trace_state
theorem copyIdsX (l : List DtId) (hl : l.length ≤ 1048576) : XCall Tryz.prog 59 [.sl 2 (l.map DtId.cells)] [] (.arr 16 0 l.length) [] [.own 2 (l.map DtId.cells)] := by
 refine zcg Tryz.func59 (by rfl) (by rfl) (by rw [Tryz.ntmps59]; exact Nat.le_of_ble_eq_true rfl) rfl (by simp) rfl rfl ?_
 rw [Tryz.ntmps59]
 refine zfb   ?_
 refine AW_k [(0, _)] ⟨rfl, trivial⟩ ?_
 refine AW_x rfl rfl fun K hK => ?_
 simp (disch := omega) [zbd, gE, tP, DtInst.cells, DtCmd.cells, DtId.cells, cmdO, instO, zba, zbe, and_assoc]
 repeat' first | (refine ⟨by omega, ?_⟩) | (intro _)
 refine hK _ ?_; clear hK K
 refine AW_x rfl rfl fun K hK => ?_
 simp (disch := omega) [zbd, gE, tP, DtInst.cells, DtCmd.cells, DtId.cells, cmdO, instO, zba, zbe, and_assoc]
 repeat' first | (refine ⟨by omega, ?_⟩) | (simp (disch := omega) [zbd, gE, tP, DtInst.cells, DtCmd.cells, DtId.cells, cmdO, instO, zba, zbe, and_assoc]) | (intro _)
 refine hK _ ?_; clear hK K
 refine zby (zdm [80] [] (by simp [List.range_succ, zbi, zbp, zbl]) (by simp) ?_)
 simp (disch := omega) [zbd, gE, tP, DtInst.cells, DtCmd.cells, DtId.cells, cmdO, instO, zba, zbe, and_assoc]
 all_goals first | omega | trace_state
theorem copyCmdX (c : DtCmd) (hn : c.fChunks.length ≤ 1048576) : XCall Tryz.prog 58 [.agg (DtCmd.cells c)] [] (.agg (cmdO c 16)) [] [.own 1 (c.fChunks.map cS)] := by
 refine zcg Tryz.func58 (by rfl) (by rfl) (by rw [Tryz.ntmps58]; exact Nat.le_of_ble_eq_true rfl) rfl (by simp) rfl rfl ?_
 rw [Tryz.ntmps58]
 refine zfb   ?_
 refine AW_k [(0, _)] ⟨rfl, trivial⟩ ?_
 refine AW_x rfl rfl fun K hK => ?_
 simp (disch := omega) [zbd, gE, tP, DtInst.cells, DtCmd.cells, DtId.cells, cmdO, instO, zba, zbe, and_assoc]
 repeat' first | (refine ⟨by omega, ?_⟩) | (intro _)
 refine hK _ ?_; clear hK K
 refine AW_x rfl rfl fun K hK => ?_
 simp (disch := omega) [zbd, gE, tP, DtInst.cells, DtCmd.cells, DtId.cells, cmdO, instO, zba, zbe, and_assoc]
 repeat' first | (exfalso; omega) | (refine zfs [] true [] (zxp c.fChunks hn) ?_ ?_ ?_; (focus (simp [List.range_succ, nmC]; done)); (focus (simp (disch := omega) [zbd, gE, tP, DtInst.cells, DtCmd.cells, DtId.cells, cmdO, instO, zba, zbe, and_assoc, zba]; done)); simp (disch := omega) [zbd, gE, tP, DtInst.cells, DtCmd.cells, DtId.cells, cmdO, instO, zba, zbe, and_assoc]) | (refine ⟨by omega, ?_⟩) | (simp (disch := omega) [zbd, gE, tP, DtInst.cells, DtCmd.cells, DtId.cells, cmdO, instO, zba, zbe, and_assoc]) | (intro _)
 refine hK _ ?_; clear hK K
 refine AW_x rfl rfl fun K hK => ?_
 simp (disch := omega) [zbd, gE, tP, DtInst.cells, DtCmd.cells, DtId.cells, cmdO, instO, zba, zbe, and_assoc]
 repeat' first | (refine ⟨by omega, ?_⟩) | (simp (disch := omega) [zbd, gE, tP, DtInst.cells, DtCmd.cells, DtId.cells, cmdO, instO, zba, zbe, and_assoc]) | (intro _)
 refine hK _ ?_; clear hK K
 refine zby (zdm [96] [] (by simp [List.range_succ, zbi, zbp, zbl]) (by simp) ?_)
 simp (disch := omega) [zbd, gE, tP, DtInst.cells, DtCmd.cells, DtId.cells, cmdO, instO, zba, zbe, and_assoc]
 all_goals first | omega | trace_state
theorem copyInstX (x : DtInst) (hn : x.fCmd.fChunks.length ≤ 1048576) (hd : x.fDeps.length ≤ 1048576) : XCall Tryz.prog 34 [.agg (DtInst.cells x)] [] (.agg (instO x 16 17)) [] [.own 1 (x.fCmd.fChunks.map cS), .own 2 (x.fDeps.map DtId.cells)] := by
 refine zcg Tryz.func34 (by rfl) (by rfl) (by rw [Tryz.ntmps34]; exact Nat.le_of_ble_eq_true rfl) rfl (by simp) rfl rfl ?_
 rw [Tryz.ntmps34]
 refine zfb   ?_
 refine AW_k [(0, _)] ⟨rfl, trivial⟩ ?_
 refine AW_x rfl rfl fun K hK => ?_
 simp (disch := omega) [zbd, gE, tP, DtInst.cells, DtCmd.cells, DtId.cells, cmdO, instO, zba, zbe, and_assoc]
 repeat' first | (refine ⟨by omega, ?_⟩) | (intro _)
 refine hK _ ?_; clear hK K
 refine AW_x rfl rfl fun K hK => ?_
 simp (disch := omega) [zbd, gE, tP, DtInst.cells, DtCmd.cells, DtId.cells, cmdO, instO, zba, zbe, and_assoc]
 repeat' first | (exfalso; omega) | (refine zfs [] true [] (copyCmdX x.fCmd hn) ?_ ?_ ?_; (focus (simp [List.range_succ, nmC]; done)); (focus (simp (disch := omega) [zbd, gE, tP, DtInst.cells, DtCmd.cells, DtId.cells, cmdO, instO, zba, zbe, and_assoc, zba]; done)); simp (disch := omega) [zbd, gE, tP, DtInst.cells, DtCmd.cells, DtId.cells, cmdO, instO, zba, zbe, and_assoc]) | (refine ⟨by omega, ?_⟩) | (simp (disch := omega) [zbd, gE, tP, DtInst.cells, DtCmd.cells, DtId.cells, cmdO, instO, zba, zbe, and_assoc]) | (intro _)
 refine hK _ ?_; clear hK K
 refine AW_x rfl rfl fun K hK => ?_
 simp (disch := omega) [zbd, gE, tP, DtInst.cells, DtCmd.cells, DtId.cells, cmdO, instO, zba, zbe, and_assoc]
 repeat' first | (exfalso; omega) | (refine zfs [] true [] (copyIdsX x.fDeps hd) ?_ ?_ ?_; (focus (simp [List.range_succ, nmC]; done)); (focus (simp (disch := omega) [zbd, gE, tP, DtInst.cells, DtCmd.cells, DtId.cells, cmdO, instO, zba, zbe, and_assoc, zba]; done)); simp (disch := omega) [zbd, gE, tP, DtInst.cells, DtCmd.cells, DtId.cells, cmdO, instO, zba, zbe, and_assoc]) | (refine ⟨by omega, ?_⟩) | (simp (disch := omega) [zbd, gE, tP, DtInst.cells, DtCmd.cells, DtId.cells, cmdO, instO, zba, zbe, and_assoc]) | (intro _)
 refine hK _ ?_; clear hK K
 refine AW_x rfl rfl fun K hK => ?_
 simp (disch := omega) [zbd, gE, tP, DtInst.cells, DtCmd.cells, DtId.cells, cmdO, instO, zba, zbe, and_assoc]
 repeat' first | (refine ⟨by omega, ?_⟩) | (simp (disch := omega) [zbd, gE, tP, DtInst.cells, DtCmd.cells, DtId.cells, cmdO, instO, zba, zbe, and_assoc]) | (intro _)
 refine hK _ ?_; clear hK K
 refine zby (zdm [96, 160] [] (by simp [List.range_succ, zbi, zbp, zbl]) (by simp) ?_)
 simp (disch := omega) [zbd, gE, tP, DtInst.cells, DtCmd.cells, DtId.cells, cmdO, instO, zba, zbe, and_assoc]
 all_goals first | omega | trace_state
theorem l4CopyX (c : DtCmd) (hn : c.fChunks.length ≤ 1048576) : XCall Tryz.prog 44 [.agg (DtCmd.cells c)] [] (.agg (cmdO c 16)) [] [.own 1 (c.fChunks.map cS)] := by
 refine zcg Tryz.func44 (by rfl) (by rfl) (by rw [Tryz.ntmps44]; exact Nat.le_of_ble_eq_true rfl) rfl (by simp) rfl rfl ?_
 rw [Tryz.ntmps44]
 refine zfb   ?_
 refine AW_k [(0, _)] ⟨rfl, trivial⟩ ?_
 refine AW_x rfl rfl fun K hK => ?_
 simp (disch := omega) [zbd, gE, tP, DtInst.cells, DtCmd.cells, DtId.cells, cmdO, instO, zba, zbe, and_assoc]
 repeat' first | (refine ⟨by omega, ?_⟩) | (intro _)
 refine hK _ ?_; clear hK K
 refine AW_x rfl rfl fun K hK => ?_
 simp (disch := omega) [zbd, gE, tP, DtInst.cells, DtCmd.cells, DtId.cells, cmdO, instO, zba, zbe, and_assoc]
 repeat' first | (refine ⟨by omega, ?_⟩) | (simp (disch := omega) [zbd, gE, tP, DtInst.cells, DtCmd.cells, DtId.cells, cmdO, instO, zba, zbe, and_assoc]) | (intro _)
 refine hK _ ?_; clear hK K
 refine AW_x rfl rfl fun K hK => ?_
 simp (disch := omega) [zbd, gE, tP, DtInst.cells, DtCmd.cells, DtId.cells, cmdO, instO, zba, zbe, and_assoc]
 repeat' first | (refine ⟨by omega, ?_⟩) | (simp (disch := omega) [zbd, gE, tP, DtInst.cells, DtCmd.cells, DtId.cells, cmdO, instO, zba, zbe, and_assoc]) | (intro _)
 refine hK _ ?_; clear hK K
 refine zby (zdm [112] [] (by simp [List.range_succ, zbi, zbp, zbl]) (by simp) ?_)
 simp (disch := omega) [zbd, gE, tP, DtInst.cells, DtCmd.cells, DtId.cells, cmdO, instO, zba, zbe, and_assoc]
 all_goals first | omega | trace_state
end Go.Proofs.YtfbmhgiokfpgiaaGreat.Vs
