import Derived.Test.YtfbmhgiokfpgiaaGreatSRcQ
import Derived.Test.YtfbmhgiokfpgiaaGreatSRyV
open Go Go.Proofs Go.Proofs.YtfbmhgiokfpgiaaGreat.Vs
namespace Go.Proofs.YtfbmhgiokfpgiaaGreat.Vs
set_option linter.all false
set_option linter.unusedSimpArgs false
set_option linter.unusedVariables false
set_option maxRecDepth 100000
theorem zgq {l : List DtInst} (hp : InstsP l) (id : DtId) : (reachL l id).length ≤ 18 := by
 have := zdj hp id
 exact zv3 ⟨this.1, fun x hx => zts hp ((this.2 x).1 hx)⟩
theorem implReady (l : List DtInst) (id : DtId) (hs : szS DtInst.sz l ≤ 1048576) (hn : l.length ≤ 1048576) (hm : ∀ x ∈ l, InstSm x) (hp : InstsP l) : XCall Tryz.prog 50 [.sl 16 (l.map DtInst.cells), .agg (DtId.cells id)] [] (.g (.bool (decB (RdyP l id)))) [] [] := by
 have hpb := zcu hp
 have hrl := zgq hp id
 have hri := zv6 hp id
 refine zcg Tryz.func50 (by rfl) (by rfl) (by rw [Tryz.ntmps50]; exact Nat.le_of_ble_eq_true rfl) rfl (by simp) rfl rfl ?_
 rw [Tryz.ntmps50]
 refine zfb   ?_
 refine AW_k [(0, _), (1, _)] ⟨rfl, rfl, trivial⟩ ?_
 refine AW_x rfl rfl fun K hK => ?_
 simp (disch := omega) [zbd, gE, tP, DtInst.cells, DtCmd.cells, DtId.cells, zba, zbe, and_assoc, zcc, zbc, zbb]
 repeat' first | (refine ⟨by omega, ?_⟩) | (intro _)
 refine hK _ ?_; clear hK K
 refine zbr ?_
 refine AW_x rfl rfl fun K hK => ?_
 simp (disch := omega) [zbd, gE, tP, DtInst.cells, DtCmd.cells, DtId.cells, zba, zbe, and_assoc, zcc, zbc, zbb]
 repeat' first | (exfalso; omega) | (refine zde (zbh zce zbs) (zdq _ (by assumption)) rfl ?_; simp (disch := omega) [zbd, gE, tP, DtInst.cells, DtCmd.cells, DtId.cells, zba, zbe, and_assoc, zcc, zbc, zbb]) | (refine zdf (zdq _ (by assumption)) (by rfl) ?_ ?_; (focus (simp (disch := omega) [zbd, gE, tP, DtInst.cells, DtCmd.cells, DtId.cells, zba, zbe, and_assoc, zcc, zbc, zbb, zba]; done)); simp (disch := omega) [zbd, gE, tP, DtInst.cells, DtCmd.cells, DtId.cells, zba, zbe, and_assoc, zcc, zbc, zbb]) | (refine ⟨by omega, ?_⟩) | (simp (disch := omega) [zbd, gE, tP, DtInst.cells, DtCmd.cells, DtId.cells, zba, zbe, and_assoc, zcc, zbc, zbb]) | (intro _)
 refine hK _ ?_; clear hK K
 refine zbu rfl (fun hc1 => ?_) (fun hc1 => ?_)
 ·try simp [zbc, zbb, zbg, zbf, zbq, zbt] at hc1
  all_goals
   refine AW_x rfl rfl fun K hK => ?_
   simp (disch := omega) [zbd, gE, tP, DtInst.cells, DtCmd.cells, DtId.cells, zba, zbe, and_assoc, zcc, zbc, zbb]
   repeat' first | (exfalso; omega) | (refine ⟨fun _ => ?_, fun _ => ?_⟩) | (refine ⟨by omega, ?_⟩) | (simp (disch := omega) [zbd, gE, tP, DtInst.cells, DtCmd.cells, DtId.cells, zba, zbe, and_assoc, zcc, zbc, zbb]) | (intro _)
   all_goals (refine hK _ ?_; clear hK K)
   all_goals
    refine zby (zdm [] [] (by simp [List.range_succ, zbi, zbp, zbl]) (by simp) ?_)
    simp (disch := omega) [zbd, gE, tP, DtInst.cells, DtCmd.cells, DtId.cells, zba, zbe, and_assoc, zcc, zbc, zbb, hpb]
    all_goals first | (exfalso; exact absurd hp (by assumption)) | exact hri.2 fun j x hx => hpre j x (by have := (List.getElem?_eq_some_iff.1 hx).1; simp at this; omega) (by rw [hys]; exact hx) | exact fun h => hc3 (hri.1 h i _ (by rw [← hys]; exact hgx)) | trace_state
 ·try simp [zbc, zbb, zbg, zbf, zbq, zbt] at hc1
  all_goals
   refine zbv ?_
   refine zb4 ?_
   refine zbr ?_
   refine AW_d rfl mix (by kernel_rfl) (by kernel_rfl) fun K hK => ?_
   simp (disch := omega) [zbd, gE, tP, DtInst.cells, DtCmd.cells, DtId.cells, zba, zbe, and_assoc, zcc, zbc, zbb]
   repeat' first | (exfalso; omega) | (refine DKd_y [] true [] (zry l id hs hn hm hp) ?_ (fun st' hst => ?_) ?_; (focus (simp [List.range_succ, nmC]; done)); (focus (simp (disch := omega) [zbd, gE, tP, DtInst.cells, DtCmd.cells, DtId.cells, zba, zbe, and_assoc, zcc, zbc, zbb, nmC, List.range_succ] at hst; simp (disch := omega) [zbd, gE, tP, DtInst.cells, DtCmd.cells, DtId.cells, zba, zbe, and_assoc, zcc, zbc, zbb, hst, zba, nmC, List.range_succ]; done)); simp (disch := omega) [zbd, gE, tP, DtInst.cells, DtCmd.cells, DtId.cells, zba, zbe, and_assoc, zcc, zbc, zbb]) | (refine ⟨fun _ => ?_, fun _ => ?_⟩) | (refine ⟨by omega, ?_⟩) | (simp (disch := omega) [zbd, gE, tP, DtInst.cells, DtCmd.cells, DtId.cells, zba, zbe, and_assoc, zcc, zbc, zbb]) | (intro _)
   all_goals (refine hK _ _ (by kernel_rfl) ?_; clear hK K)
   all_goals
    refine zb0 ?_
    refine zcf (fun mM sS => ∃ (i : Nat) (ys : List DtId), mM = ys.length - i ∧ (i ≤ ys.length ∧ ys = reachL l id ++ [id] ∧ ∀ (j : Nat) x, j < i → ys[j]? = some x → (instAt l x).fStatus = 3) ∧ sS = { env := lkE [(0, .sl 16 (l.map DtInst.cells)), (15, .arr 501 0 ys.length), (16, (.g (.int .i64 ((ys.length : Nat))))), (17, (.g (.int .i64 ((i : Nat)))))], ob := lk [(501, .win 2 (ys.map DtId.cells))] }) ?_ ?_
    ·refine ⟨_, LeS.kx [(501, 256)] [(0, .sl 16 (l.map DtInst.cells)), (15, .arr 501 0 (reachL l id ++ [id]).length), (16, (.g (.int .i64 (((reachL l id ++ [id]).length : Nat))))), (17, (.g (.int .i64 (((0) : Nat)))))] [(501, .win 2 ((reachL l id ++ [id]).map DtId.cells))] (by simp [KpR, renV2, renV, zbl, zb5, zbi, zbp, DtId.cells, zbe]; try rfl) (by simp [KpOX, renO, plO, cvO, renV, pl1, zbi, zbp, zbl, DtId.cells, zbe]; try rfl) (by rfl) (by simp) (by simp) (by rfl) (by simp [formsX, List.range_succ, zbi, zbp]), _, 0, reachL l id ++ [id], rfl, ?_, rfl⟩
     ·simp
    ·rintro mM sS ⟨i, ys, rfl, ⟨hi, hys, hpre⟩, rfl⟩
     have hyl : ys.length = (reachL l id).length + 1 := by rw [hys]; simp
     refine AW_x rfl rfl fun K hK => ?_
     simp (disch := omega) [zbd, gE, tP, DtInst.cells, DtCmd.cells, DtId.cells, zba, zbe, and_assoc, zcc, zbc, zbb]
     repeat' first | (refine ⟨by omega, ?_⟩) | (intro _)
     refine hK _ ?_; clear hK K
     refine zbr ?_
     refine zbu rfl (fun hc2 => ?_) (fun hc2 => ?_)
     ·try simp [zbc, zbb, zbg, zbf, zbq, zbt] at hc2
      all_goals
       have hgx : ys[i]? = some ys[i] := List.getElem?_eq_getElem (by omega)
       refine zbv ?_
       refine zb4 ?_
       refine zbr ?_
       refine zb0 ?_
       refine AW_x rfl rfl fun K hK => ?_
       simp (disch := omega) [zbd, gE, tP, DtInst.cells, DtCmd.cells, DtId.cells, zba, zbe, and_assoc, zcc, zbc, zbb]
       repeat' first | (exfalso; omega) | (refine ⟨fun _ => ?_, fun _ => ?_⟩) | (refine ⟨by omega, ?_⟩) | (simp (disch := omega) [zbd, gE, tP, DtInst.cells, DtCmd.cells, DtId.cells, zba, zbe, and_assoc, zcc, zbc, zbb]) | (intro _)
       all_goals (refine hK _ ?_; clear hK K)
       all_goals
        refine AW_x rfl rfl fun K hK => ?_
        simp (disch := omega) [zbd, gE, tP, DtInst.cells, DtCmd.cells, DtId.cells, zba, zbe, and_assoc, zcc, zbc, zbb]
        repeat' first | (exfalso; omega) | (refine zde (zbh zce (zbh (zcb rfl) zbs)) (zfw _ _ (by assumption) (by assumption)) rfl ?_; simp (disch := omega) [zbd, gE, tP, DtInst.cells, DtCmd.cells, DtId.cells, zba, zbe, and_assoc, zcc, zbc, zbb]) | (refine zdf (zfw _ _ (by assumption) (by assumption)) (by rfl) ?_ ?_; (focus (simp (disch := omega) [zbd, gE, tP, DtInst.cells, DtCmd.cells, DtId.cells, zba, zbe, and_assoc, zcc, zbc, zbb, zba]; done)); simp (disch := omega) [zbd, gE, tP, DtInst.cells, DtCmd.cells, DtId.cells, zba, zbe, and_assoc, zcc, zbc, zbb]) | (refine ⟨by omega, ?_⟩) | (simp (disch := omega) [zbd, gE, tP, DtInst.cells, DtCmd.cells, DtId.cells, zba, zbe, and_assoc, zcc, zbc, zbb]) | (intro _)
        refine hK _ ?_; clear hK K
        refine zbu rfl (fun hc3 => ?_) (fun hc3 => ?_)
        ·try simp [zbc, zbb, zbg, zbf, zbq, zbt] at hc3
         all_goals
          refine AW_x rfl rfl fun K hK => ?_
          simp (disch := omega) [zbd, gE, tP, DtInst.cells, DtCmd.cells, DtId.cells, zba, zbe, and_assoc, zcc, zbc, zbb]
          repeat' first | (exfalso; omega) | (refine ⟨fun _ => ?_, fun _ => ?_⟩) | (refine ⟨by omega, ?_⟩) | (simp (disch := omega) [zbd, gE, tP, DtInst.cells, DtCmd.cells, DtId.cells, zba, zbe, and_assoc, zcc, zbc, zbb]) | (intro _)
          all_goals (refine hK _ ?_; clear hK K)
          all_goals
           refine zby (zdm [] [] (by simp [List.range_succ, zbi, zbp, zbl]) (by simp) ?_)
           simp (disch := omega) [zbd, gE, tP, DtInst.cells, DtCmd.cells, DtId.cells, zba, zbe, and_assoc, zcc, zbc, zbb, hpb]
           all_goals first | (exfalso; exact absurd hp (by assumption)) | exact hri.2 fun j x hx => hpre j x (by have := (List.getElem?_eq_some_iff.1 hx).1; simp at this; omega) (by rw [hys]; exact hx) | exact fun h => hc3 (hri.1 h i _ (by rw [← hys]; exact hgx)) | trace_state
        ·try simp [zbc, zbb, zbg, zbf, zbq, zbt] at hc3
         all_goals
          refine zbv ?_
          refine zb4 ?_
          refine zdd rfl rfl fun K hK => ?_
          simp (disch := omega) [zbd, gE, tP, DtInst.cells, DtCmd.cells, DtId.cells, zba, zbe, and_assoc, zcc, zbc, zbb]
          repeat' first | (exfalso; omega) | (refine ⟨fun _ => ?_, fun _ => ?_⟩) | (refine ⟨by omega, ?_⟩) | (simp (disch := omega) [zbd, gE, tP, DtInst.cells, DtCmd.cells, DtId.cells, zba, zbe, and_assoc, zcc, zbc, zbb]) | (intro _)
          all_goals (refine hK _ ?_; clear hK K)
          all_goals
           refine ⟨_, LeS.kx [(501, 501)] [(0, .sl 16 (l.map DtInst.cells)), (15, .arr 501 0 (ys).length), (16, (.g (.int .i64 (((ys).length : Nat))))), (17, (.g (.int .i64 (((i + 1) : Nat)))))] [(501, .win 2 ((ys).map DtId.cells))] (by simp [KpR, renV2, renV, zbl, zb5, zbi, zbp, DtId.cells, zbe]; try rfl) (by simp [KpOX, renO, plO, cvO, renV, pl1, zbi, zbp, zbl, DtId.cells, zbe]; try rfl) (by rfl) (by simp) (by simp) (by rfl) (by simp [formsX, List.range_succ, zbi, zbp]), _, ?_, i + 1, ys, rfl, ?_, rfl⟩
           ·omega
           ·refine ⟨by omega, hys, fun j x hj hx => ?_⟩; by_cases hji : j = i
            ·subst hji; rw [hgx] at hx; cases hx; assumption
            ·exact hpre j x (by omega) hx
     ·try simp [zbc, zbb, zbg, zbf, zbq, zbt] at hc2
      all_goals
       refine zch ?_
       refine zb4 ?_
       refine AW_x rfl rfl fun K hK => ?_
       simp (disch := omega) [zbd, gE, tP, DtInst.cells, DtCmd.cells, DtId.cells, zba, zbe, and_assoc, zcc, zbc, zbb]
       repeat' first | (exfalso; omega) | (refine ⟨fun _ => ?_, fun _ => ?_⟩) | (refine ⟨by omega, ?_⟩) | (simp (disch := omega) [zbd, gE, tP, DtInst.cells, DtCmd.cells, DtId.cells, zba, zbe, and_assoc, zcc, zbc, zbb]) | (intro _)
       all_goals (refine hK _ ?_; clear hK K)
       all_goals
        refine zby (zdm [] [] (by simp [List.range_succ, zbi, zbp, zbl]) (by simp) ?_)
        simp (disch := omega) [zbd, gE, tP, DtInst.cells, DtCmd.cells, DtId.cells, zba, zbe, and_assoc, zcc, zbc, zbb, hpb]
        all_goals first | (exfalso; exact absurd hp (by assumption)) | exact hri.2 fun j x hx => hpre j x (by have := (List.getElem?_eq_some_iff.1 hx).1; simp at this; omega) (by rw [hys]; exact hx) | exact fun h => hc3 (hri.1 h i _ (by rw [← hys]; exact hgx)) | trace_state
end Go.Proofs.YtfbmhgiokfpgiaaGreat.Vs
