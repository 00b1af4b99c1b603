import Derived.Test.YtfbmhgiokfpgiaaGreatSPiQ
open Go Go.Proofs Go.Proofs.YtfbmhgiokfpgiaaGreat.Vs
namespace Go.Proofs.YtfbmhgiokfpgiaaGreat.Vs
set_option linter.all false
set_option linter.unusedSimpArgs false
set_option linter.unusedVariables false
set_option maxRecDepth 100000
set_option maxHeartbeats 4000000
attribute [local simp] cmdO instO
theorem l8CopyX (x : DtInst) (hn : x.fCmd.fChunks.length ≤ 1048576) (hd : x.fDeps.length ≤ 1048576) : XCall Tryz.prog 28 [.agg (DtInst.cells x)] [] (.agg (instO x 16 17)) [] [.own 1 (x.fCmd.fChunks.map cS), .own 2 (x.fDeps.map DtId.cells)] := by
 refine zcg Tryz.func28 (by rfl) (by rfl) (by rw [Tryz.ntmps28]; exact Nat.le_of_ble_eq_true rfl) rfl (by simp) rfl rfl ?_
 rw [Tryz.ntmps28]
 refine zfb   ?_
 refine AW_k [(0, _)] ⟨rfl, trivial⟩ ?_
 refine AW_x rfl rfl fun K hK => ?_
 simp (disch := omega) [zbd, gE, tP, DtInst.cells, DtCmd.cells, DtId.cells, cmdO, instO, zba, zbe, and_assoc, List.range_succ]
 repeat' first | (refine ⟨by omega, ?_⟩) | (intro _)
 refine hK _ ?_; clear hK K
 refine AW_x rfl rfl fun K hK => ?_
 simp (disch := omega) [zbd, gE, tP, DtInst.cells, DtCmd.cells, DtId.cells, cmdO, instO, zba, zbe, and_assoc, List.range_succ]
 repeat' first | (exfalso; omega) | (refine zfs [] true [] (l4CopyX x.fCmd hn) ?_ ?_ ?_; (focus (simp [List.range_succ, nmC]; done)); (focus (simp (disch := omega) [zbd, gE, tP, DtInst.cells, DtCmd.cells, DtId.cells, cmdO, instO, zba, zbe, and_assoc, List.range_succ, zba]; done)); simp (disch := omega) [zbd, gE, tP, DtInst.cells, DtCmd.cells, DtId.cells, cmdO, instO, zba, zbe, and_assoc, List.range_succ]) | (refine ⟨by omega, ?_⟩) | (simp (disch := omega) [zbd, gE, tP, DtInst.cells, DtCmd.cells, DtId.cells, cmdO, instO, zba, zbe, and_assoc, List.range_succ]) | (intro _)
 refine hK _ ?_; clear hK K
 refine AW_x rfl rfl fun K hK => ?_
 simp (disch := omega) [zbd, gE, tP, DtInst.cells, DtCmd.cells, DtId.cells, cmdO, instO, zba, zbe, and_assoc, List.range_succ]
 repeat' first | (refine ⟨by omega, ?_⟩) | (simp (disch := omega) [zbd, gE, tP, DtInst.cells, DtCmd.cells, DtId.cells, cmdO, instO, zba, zbe, and_assoc, List.range_succ]) | (intro _)
 refine hK _ ?_; clear hK K
 refine AW_x rfl rfl fun K hK => ?_
 simp (disch := omega) [zbd, gE, tP, DtInst.cells, DtCmd.cells, DtId.cells, cmdO, instO, zba, zbe, and_assoc, List.range_succ]
 repeat' first | (refine ⟨by omega, ?_⟩) | (simp (disch := omega) [zbd, gE, tP, DtInst.cells, DtCmd.cells, DtId.cells, cmdO, instO, zba, zbe, and_assoc, List.range_succ]) | (intro _)
 refine hK _ ?_; clear hK K
 refine zby (zdm [96, 176] [] (by simp [List.range_succ, zbi, zbp, zbl]) (by simp) ?_)
 simp (disch := omega) [zbd, gE, tP, DtInst.cells, DtCmd.cells, DtId.cells, cmdO, instO, zba, zbe, and_assoc, List.range_succ]
 all_goals first | omega | trace_state
theorem zt6 (l : List DtInst) (id : DtId) (hn : l.length ≤ 1048576) (hm : ∀ x ∈ l, InstSm x) (h3 : (instAt l id).fStatus = 3) : XCall Tryz.prog 18 [.sl 16 (l.map DtInst.cells), .agg (DtId.cells id)] [] (.agg (instO (instAt l id) 16 17)) [] [.own 1 ((instAt l id).fCmd.fChunks.map cS), .own 2 ((instAt l id).fDeps.map DtId.cells)] := by
 rcases zp4 l id with ⟨i, hi, h1, h2⟩ | ⟨h1, h2⟩
 ·rw [h2]
  have hx := hm _ (List.getElem_mem hi)
  have hx1 := hx.1
  have hx2 := hx.2.1
  refine zcg Tryz.func18 (by rfl) (by rfl) (by rw [Tryz.ntmps18]; exact Nat.le_of_ble_eq_true rfl) rfl (by simp) rfl rfl ?_
  rw [Tryz.ntmps18]
  refine zfb   ?_
  refine AW_k [(0, _), (1, _)] ⟨rfl, rfl, trivial⟩ ?_
  refine AW_x rfl rfl fun K hK => ?_
  simp (disch := omega) [zbd, gE, tP, DtInst.cells, DtCmd.cells, DtId.cells, cmdO, instO, zba, zbe, and_assoc, List.range_succ, h1]
  repeat' first | (refine ⟨by omega, ?_⟩) | (intro _)
  refine hK _ ?_; clear hK K
  refine zbr ?_
  refine AW_x rfl rfl fun K hK => ?_
  simp (disch := omega) [zbd, gE, tP, DtInst.cells, DtCmd.cells, DtId.cells, cmdO, instO, zba, zbe, and_assoc, List.range_succ, h1]
  repeat' first | (exfalso; omega) | (refine zde (zbh zce (zbh (zcb rfl) zbs)) (zhq _ _ (by assumption)) rfl ?_; simp (disch := omega) [zbd, gE, tP, DtInst.cells, DtCmd.cells, DtId.cells, cmdO, instO, zba, zbe, and_assoc, List.range_succ, h1]) | (refine zdf (zhq _ _ (by assumption)) (by rfl) ?_ ?_; (focus (simp (disch := omega) [zbd, gE, tP, DtInst.cells, DtCmd.cells, DtId.cells, cmdO, instO, zba, zbe, and_assoc, List.range_succ, h1, zba]; done)); simp (disch := omega) [zbd, gE, tP, DtInst.cells, DtCmd.cells, DtId.cells, cmdO, instO, zba, zbe, and_assoc, List.range_succ, h1]) | (refine ⟨by omega, ?_⟩) | (simp (disch := omega) [zbd, gE, tP, DtInst.cells, DtCmd.cells, DtId.cells, cmdO, instO, zba, zbe, and_assoc, List.range_succ, h1]) | (intro _)
  refine hK _ ?_; clear hK K
  refine AW_x rfl rfl fun K hK => ?_
  simp (disch := omega) [zbd, gE, tP, DtInst.cells, DtCmd.cells, DtId.cells, cmdO, instO, zba, zbe, and_assoc, List.range_succ, h1]
  repeat' first | (refine ⟨by omega, ?_⟩) | (intro _)
  refine hK _ ?_; clear hK K
  refine zbu rfl (fun hc1 => ?_) (fun hc1 => ?_)
  ·try simp [zbc, zbb, zbg, zbf, zbq, zbt] at hc1
   all_goals
    refine AW_x rfl rfl fun K hK => ?_
    simp (disch := omega) [zbd, gE, tP, DtInst.cells, DtCmd.cells, DtId.cells, cmdO, instO, zba, zbe, and_assoc, List.range_succ, h1]
    repeat' first | (exfalso; omega) | (refine zfs [] true [] (copyInstX l[i] hx.1 hx.2.1) ?_ ?_ ?_; (focus (simp [List.range_succ, nmC]; done)); (focus (simp (disch := omega) [zbd, gE, tP, DtInst.cells, DtCmd.cells, DtId.cells, cmdO, instO, zba, zbe, and_assoc, List.range_succ, h1, zba]; done)); simp (disch := omega) [zbd, gE, tP, DtInst.cells, DtCmd.cells, DtId.cells, cmdO, instO, zba, zbe, and_assoc, List.range_succ, h1]) | (refine ⟨fun _ => ?_, fun _ => ?_⟩) | (refine ⟨by omega, ?_⟩) | (simp (disch := omega) [zbd, gE, tP, DtInst.cells, DtCmd.cells, DtId.cells, cmdO, instO, zba, zbe, and_assoc, List.range_succ, h1]) | (intro _)
    all_goals (refine hK _ ?_; clear hK K)
    all_goals
     refine zby (zdm [256, 257] [] (by simp [List.range_succ, zbi, zbp, zbl]) (by simp) ?_)
     simp (disch := omega) [zbd, gE, tP, DtInst.cells, DtCmd.cells, DtId.cells, cmdO, instO, zba, zbe, and_assoc, List.range_succ, h1]
     all_goals first | omega | (simp; done) | trace_state
  ·try simp [zbc, zbb, zbg, zbf, zbq, zbt] at hc1
 ·rw [h2] at h3; simp [zeroInst] at h3
theorem zt7 (l : List DtInst) (id : DtId) (hn : l.length ≤ 1048576) (hm : ∀ x ∈ l, InstSm x) (h3 : (instAt l id).fStatus = 3) : XCall Tryz.prog 15 [.sl 16 (l.map DtInst.cells), .agg (DtId.cells id)] [] (.agg (instO (instAt l id) 16 17)) [] [.own 1 ((instAt l id).fCmd.fChunks.map cS), .own 2 ((instAt l id).fDeps.map DtId.cells)] := by
 obtain ⟨k, hk, hk2⟩ : ∃ k, ∃ hk : k < l.length, l[k].fId = id := by
  rcases zgp l id with ⟨hm2, he⟩ | e
  ·obtain ⟨k, hk, h⟩ := List.getElem_of_mem hm2
   exact ⟨k, hk, by rw [h]; exact he⟩
  ·rw [e] at h3; simp [zeroInst] at h3
 refine zcg Tryz.func15 (by rfl) (by rfl) (by rw [Tryz.ntmps15]; exact Nat.le_of_ble_eq_true rfl) rfl (by simp) rfl rfl ?_
 rw [Tryz.ntmps15]
 refine zfb   ?_
 refine AW_k [(0, _), (1, _)] ⟨rfl, rfl, trivial⟩ ?_
 refine AW_x rfl rfl fun K hK => ?_
 simp (disch := omega) [zbd, gE, tP, DtInst.cells, DtCmd.cells, DtId.cells, cmdO, instO, zba, zbe, and_assoc, List.range_succ, zbx]
 repeat' first | (exfalso; omega) | (refine ⟨fun _ => ?_, fun _ => ?_⟩) | (refine ⟨by omega, ?_⟩) | (simp (disch := omega) [zbd, gE, tP, DtInst.cells, DtCmd.cells, DtId.cells, cmdO, instO, zba, zbe, and_assoc, List.range_succ, zbx]) | (intro _)
 all_goals (refine hK _ ?_; clear hK K)
 all_goals
  refine zbr ?_
  refine AW_x rfl rfl fun K hK => ?_
  simp (disch := omega) [zbd, gE, tP, DtInst.cells, DtCmd.cells, DtId.cells, cmdO, instO, zba, zbe, and_assoc, List.range_succ, zbx]
  repeat' first | (refine ⟨by omega, ?_⟩) | (intro _)
  refine hK _ ?_; clear hK K
  refine zb0 ?_
  refine zcf (fun mM sS => ∃ (i : Nat), mM = l.length - i ∧ (i ≤ k ∧ ∀ (j : Nat) x, j < i → l[j]? = some x → ¬ x.fId = id) ∧ sS = { env := lkE [(0, .sl 16 (l.map DtInst.cells)), (3, .ptr 64 0), (4, .ptr 80 0), (5, (.g (.int .i64 ((i : Nat)))))], ob := lk [(64, .cells (DtId.cells id)), (80, .cells [.g (.int .i64 0), .g (.int .i64 0), .g (.int .i64 0), .g (.int .i64 0), .g (.int .i64 0), .g (.int .i64 0), .g (.int .i64 0), .g (.int .i64 0), .s [], .s [], .s [], .g (.int .i64 0), .g (.slice none 0 0), .g (.int .i64 0), .g (.slice none 0 0), .g (.bool false)])] }) ?_ ?_
  ·refine ⟨_, LeS.kx [(64, 64), (80, 80)] [(0, .sl 16 (l.map DtInst.cells)), (3, .ptr 64 0), (4, .ptr 80 0), (5, (.g (.int .i64 (((0) : Nat)))))] [(64, .cells (DtId.cells id)), (80, .cells [.g (.int .i64 0), .g (.int .i64 0), .g (.int .i64 0), .g (.int .i64 0), .g (.int .i64 0), .g (.int .i64 0), .g (.int .i64 0), .g (.int .i64 0), .s [], .s [], .s [], .g (.int .i64 0), .g (.slice none 0 0), .g (.int .i64 0), .g (.slice none 0 0), .g (.bool false)])] (by simp [KpR, renV2, renV, zbl, zb5, zbi, zbp, DtId.cells, DtInst.cells]; try rfl) (by simp [KpOX, renO, plO, cvO, renV, pl1, zbi, zbp, zbl, DtId.cells, DtInst.cells]; try rfl) (by rfl) (by simp) (by simp) (by rfl) (by simp [formsX, List.range_succ, zbi, zbp]), _, 0, rfl, ?_, rfl⟩
   ·simp
  ·rintro mM sS ⟨i, rfl, ⟨hi, hpre⟩, rfl⟩
   have hil : i < l.length := by omega
   refine zbr ?_
   refine AW_x rfl rfl fun K hK => ?_
   simp (disch := omega) [zbd, gE, tP, DtInst.cells, DtCmd.cells, DtId.cells, cmdO, instO, zba, zbe, and_assoc, List.range_succ, zbx]
   repeat' first | (refine ⟨by omega, ?_⟩) | (simp (disch := omega) [zbd, gE, tP, DtInst.cells, DtCmd.cells, DtId.cells, cmdO, instO, zba, zbe, and_assoc, List.range_succ, zbx]) | (intro _)
   refine hK _ ?_; clear hK K
   refine zbu rfl (fun hc2 => ?_) (fun hc2 => ?_)
   ·try simp [zbc, zbb, zbg, zbf, hil] at hc2
    all_goals
     have hg : l[i]? = some l[i] := List.getElem?_eq_getElem (by omega)
     have hx := zgo l[i].fId id
     obtain ⟨hx1, hx2, -⟩ := hm _ (List.getElem_mem (n := i) (h := by omega))
     refine zbv ?_
     refine zb4 ?_
     refine zbr ?_
     refine zb0 ?_
     refine AW_d rfl mix (by kernel_rfl) (by kernel_rfl) fun K hK => ?_
     simp (disch := omega) [zbd, gE, tP, DtInst.cells, DtCmd.cells, DtId.cells, cmdO, instO, zba, zbe, and_assoc, List.range_succ, zbx]
     repeat' first | (exfalso; omega) | (refine ⟨fun _ => ?_, fun _ => ?_⟩) | (refine ⟨by omega, ?_⟩) | (simp (disch := omega) [zbd, gE, tP, DtInst.cells, DtCmd.cells, DtId.cells, cmdO, instO, zba, zbe, and_assoc, List.range_succ, zbx]) | (intro _)
     all_goals (refine hK _ _ (by kernel_rfl) ?_; clear hK K)
     all_goals
      refine zbu rfl (fun hc3 => ?_) (fun hc3 => ?_)
      ·try simp [zbc, zbb, zbg, zbf, hil] at hc3
       all_goals
        refine AW_x rfl rfl fun K hK => ?_
        simp (disch := omega) [zbd, gE, tP, DtInst.cells, DtCmd.cells, DtId.cells, cmdO, instO, zba, zbe, and_assoc, List.range_succ, zbx]
        repeat' first | (exfalso; omega) | (refine zfs [] true [] (l8CopyX l[i] hx1 hx2) ?_ ?_ ?_; (focus (simp [List.range_succ, nmC]; done)); (focus (simp (disch := omega) [zbd, gE, tP, DtInst.cells, DtCmd.cells, DtId.cells, cmdO, instO, zba, zbe, and_assoc, List.range_succ, zbx, zba]; done)); simp (disch := omega) [zbd, gE, tP, DtInst.cells, DtCmd.cells, DtId.cells, cmdO, instO, zba, zbe, and_assoc, List.range_succ, zbx]) | (refine ⟨fun _ => ?_, fun _ => ?_⟩) | (refine ⟨by omega, ?_⟩) | (simp (disch := omega) [zbd, gE, tP, DtInst.cells, DtCmd.cells, DtId.cells, cmdO, instO, zba, zbe, and_assoc, List.range_succ, zbx]) | (intro _)
        all_goals (refine hK _ ?_; clear hK K)
        all_goals
         refine zby (zdm [384, 385] [] (by simp [List.range_succ, zbi, zbp, zbl]) (by simp) ?_)
         simp (disch := omega) [zbd, gE, tP, DtInst.cells, DtCmd.cells, DtId.cells, cmdO, instO, zba, zbe, and_assoc, List.range_succ, zbx]
         all_goals first | (rw [zkn (by assumption) (hx.mpr (by assumption)) hpre]; simp; done) | trace_state
      ·try simp [zbc, zbb, zbg, zbf, hil] at hc3
       all_goals
        refine zbv ?_
        refine zb4 ?_
        refine zdd rfl rfl fun K hK => ?_
        simp (disch := omega) [zbd, gE, tP, DtInst.cells, DtCmd.cells, DtId.cells, cmdO, instO, zba, zbe, and_assoc, List.range_succ, zbx]
        repeat' first | (exfalso; omega) | (refine ⟨fun _ => ?_, fun _ => ?_⟩) | (refine ⟨by omega, ?_⟩) | (simp (disch := omega) [zbd, gE, tP, DtInst.cells, DtCmd.cells, DtId.cells, cmdO, instO, zba, zbe, and_assoc, List.range_succ, zbx]) | (intro _)
        all_goals (refine hK _ ?_; clear hK K)
        all_goals
         refine ⟨_, LeS.kx [(64, 64), (80, 80)] [(0, .sl 16 (l.map DtInst.cells)), (3, .ptr 64 0), (4, .ptr 80 0), (5, (.g (.int .i64 (((i + 1) : Nat)))))] [(64, .cells (DtId.cells id)), (80, .cells [.g (.int .i64 0), .g (.int .i64 0), .g (.int .i64 0), .g (.int .i64 0), .g (.int .i64 0), .g (.int .i64 0), .g (.int .i64 0), .g (.int .i64 0), .s [], .s [], .s [], .g (.int .i64 0), .g (.slice none 0 0), .g (.int .i64 0), .g (.slice none 0 0), .g (.bool false)])] (by simp [KpR, renV2, renV, zbl, zb5, zbi, zbp, DtId.cells, DtInst.cells]; try rfl) (by simp [KpOX, renO, plO, cvO, renV, pl1, zbi, zbp, zbl, DtId.cells, DtInst.cells]; try rfl) (by rfl) (by simp) (by simp) (by rfl) (by simp [formsX, List.range_succ, zbi, zbp]), _, ?_, i + 1, rfl, ?_, rfl⟩
         ·omega
         ·refine ⟨by have hik : i ≠ k := (by rintro rfl; exact absurd (hx.mp hk2) (by grind)); omega, fun j x hj hxx => ?_⟩
          by_cases hji : j = i
          ·subst hji; rw [hg] at hxx; cases hxx; rw [hx]; grind
          ·exact hpre j x (by omega) hxx
   ·try simp [zbc, zbb, zbg, zbf, hil] at hc2
noncomputable def cmT (l : List DtInst) (i : Nat) : List DtCmd := (((ordR l).take i).map fun x => (instAt l x).fCmd).filter fun c => !decide (c.fKind = 0)
noncomputable def cmA (l : List DtInst) : List DtCmd := ((ordR l).map fun x => (instAt l x).fCmd).filter fun c => !decide (c.fKind = 0)
theorem zkz (l : List DtInst) : cmT l 0 = [] := by unfold cmT; simp
theorem cmT_e (l : List DtInst) (i : Nat) (h : (ordR l).length ≤ i) : cmT l i = cmA l := by unfold cmT cmA; rw [List.take_of_length_le h]
theorem cmT_len (l : List DtInst) (i : Nat) : (cmT l i).length ≤ i := by
 unfold cmT
 refine Nat.le_trans (List.length_filter_le _ _) ?_
 rw [List.length_map, List.length_take]; omega
theorem cmT_s (l : List DtInst) (i : Nat) (h : i < (ordR l).length) : (¬ (instAt l (ordR l)[i]).fCmd.fKind = 0 → cmT l (i + 1) = cmT l i ++ [(instAt l (ordR l)[i]).fCmd]) ∧ ((instAt l (ordR l)[i]).fCmd.fKind = 0 → cmT l (i + 1) = cmT l i) := by
 unfold cmT
 rw [List.take_succ_eq_append_getElem h, List.map_append, List.filter_append]
 constructor
 ·intro hk
  simp [hk]
 ·intro hk
  simp [hk]
theorem ordR_st {l : List DtInst} {x : DtId} (hx : x ∈ ordR l) : (instAt l x).fStatus = 3 := by
 unfold ordR at hx
 by_cases h : InstsP l
 ·rw [zhu h, List.mem_flatten] at hx
  obtain ⟨p, hp, hx⟩ := hx
  exact (zt2 h (zhe h (zjt h) p hp) x hx).2
 ·rw [zhv h] at hx; simp at hx
theorem zr8 (l : List DtInst) (hs : szS DtInst.sz l ≤ 1048576) (hn : l.length ≤ 1048576) (hm : ∀ x ∈ l, InstSm x) : XCall Tryz.prog 7 [.sl 16 (l.map DtInst.cells)] [] (.arr 16 0 (cmA l).length) [] [.own 8 ((cmA l).map DtCmd.cells)] := by
 have hor := zwf l
 refine zcg Tryz.func7 (by rfl) (by rfl) (by rw [Tryz.ntmps7]; exact Nat.le_of_ble_eq_true rfl) rfl (by simp) rfl rfl ?_
 rw [Tryz.ntmps7]
 refine zfb   ?_
 refine AW_k [(0, _)] ⟨rfl, trivial⟩ ?_
 refine AW_x rfl rfl fun K hK => ?_
 simp (disch := omega) [zbd, gE, tP, DtInst.cells, DtCmd.cells, DtId.cells, cmdO, instO, zba, zbe, and_assoc, List.range_succ, zbx]
 repeat' first | (exfalso; omega) | (refine ⟨fun _ => ?_, fun _ => ?_⟩) | (refine ⟨by omega, ?_⟩) | (simp (disch := omega) [zbd, gE, tP, DtInst.cells, DtCmd.cells, DtId.cells, cmdO, instO, zba, zbe, and_assoc, List.range_succ, zbx]) | (intro _)
 all_goals (refine hK _ ?_; clear hK K)
 all_goals
  refine AW_x rfl rfl fun K hK => ?_
  simp (disch := omega) [zbd, gE, tP, DtInst.cells, DtCmd.cells, DtId.cells, cmdO, instO, zba, zbe, and_assoc, List.range_succ, zbx]
  repeat' first | (refine ⟨by omega, ?_⟩) | (simp (disch := omega) [zbd, gE, tP, DtInst.cells, DtCmd.cells, DtId.cells, cmdO, instO, zba, zbe, and_assoc, List.range_succ, zbx]) | (intro _)
  refine hK _ ?_; clear hK K
  refine zbr ?_
  refine AW_x rfl rfl fun K hK => ?_
  simp (disch := omega) [zbd, gE, tP, DtInst.cells, DtCmd.cells, DtId.cells, cmdO, instO, zba, zbe, and_assoc, List.range_succ, zbx]
  repeat' first | (exfalso; omega) | (refine zde (zbh zce zbs) (zwg l hs hn hm) rfl ?_; simp (disch := omega) [zbd, gE, tP, DtInst.cells, DtCmd.cells, DtId.cells, cmdO, instO, zba, zbe, and_assoc, List.range_succ, zbx]) | (refine zdf (zwg l hs hn hm) (by rfl) ?_ ?_; (focus (simp (disch := omega) [zbd, gE, tP, DtInst.cells, DtCmd.cells, DtId.cells, cmdO, instO, zba, zbe, and_assoc, List.range_succ, zbx, zba]; done)); simp (disch := omega) [zbd, gE, tP, DtInst.cells, DtCmd.cells, DtId.cells, cmdO, instO, zba, zbe, and_assoc, List.range_succ, zbx]) | (refine ⟨by omega, ?_⟩) | (simp (disch := omega) [zbd, gE, tP, DtInst.cells, DtCmd.cells, DtId.cells, cmdO, instO, zba, zbe, and_assoc, List.range_succ, zbx]) | (intro _)
  refine hK _ ?_; clear hK K
  refine zb0 ?_
  refine zcf (fun mM sS => ∃ (i : Nat), mM = (ordR l).length - i ∧ (i ≤ (ordR l).length) ∧ sS = { env := lkE [(0, .sl 16 (l.map DtInst.cells)), (3, .arr 501 0 (cmT l i).length), (9, .sl 2 ((ordR l).map DtId.cells)), (10, (.g (.int .i64 (((ordR l).length : Nat))))), (11, (.g (.int .i64 ((i : Nat)))))], ob := lk [(501, .own 8 ((cmT l i).map DtCmd.cells))] }) ?_ ?_
  ·refine ⟨_, LeS.kx [(501, 128)] [(0, .sl 16 (l.map DtInst.cells)), (3, .arr 501 0 (cmT l (0)).length), (9, .sl 2 ((ordR l).map DtId.cells)), (10, (.g (.int .i64 (((ordR l).length : Nat))))), (11, (.g (.int .i64 (((0) : Nat)))))] [(501, .own 8 ((cmT l (0)).map DtCmd.cells))] (by simp [KpR, renV2, renV, zbl, zb5, zbi, zbp, DtCmd.cells, DtId.cells, zkz]; try (first | rfl | (rw [hsx]; done) | (rw [hsx]; simp; done))) (by simp [KpOX, renO, plO, cvO, renV, pl1, zbi, zbp, zbl, DtCmd.cells, DtId.cells, zkz]; try (first | rfl | (rw [hsx]; done) | (rw [hsx]; simp [DtCmd.cells]; done))) (by rfl) (by simp) (by simp) (by rfl) (by simp [formsX, List.range_succ, zbi, zbp]), _, 0, rfl, ?_, rfl⟩
   ·simp
  ·rintro mM sS ⟨i, rfl, hi, rfl⟩
   have hcl := cmT_len l i
   refine AW_x rfl rfl fun K hK => ?_
   simp (disch := omega) [zbd, gE, tP, DtInst.cells, DtCmd.cells, DtId.cells, cmdO, instO, zba, zbe, and_assoc, List.range_succ, zbx]
   repeat' first | (refine ⟨by omega, ?_⟩) | (intro _)
   refine hK _ ?_; clear hK K
   refine zbr ?_
   refine zbu rfl (fun hc4 => ?_) (fun hc4 => ?_)
   ·try simp [zbc, zbb, zbg, zbf] at hc4
    all_goals
     have hst := ordR_st (l := l) (x := (ordR l)[i]) (List.getElem_mem _)
     have hcs := cmT_s l i (by omega)
     refine zbv ?_
     refine zb4 ?_
     refine zbr ?_
     refine zb0 ?_
     refine AW_x rfl rfl fun K hK => ?_
     simp (disch := omega) [zbd, gE, tP, DtInst.cells, DtCmd.cells, DtId.cells, cmdO, instO, zba, zbe, and_assoc, List.range_succ, zbx]
     repeat' first | (exfalso; omega) | (refine ⟨fun _ => ?_, fun _ => ?_⟩) | (refine ⟨by omega, ?_⟩) | (simp (disch := omega) [zbd, gE, tP, DtInst.cells, DtCmd.cells, DtId.cells, cmdO, instO, zba, zbe, and_assoc, List.range_succ, zbx]) | (intro _)
     all_goals (refine hK _ ?_; clear hK K)
     all_goals
      refine AW_x rfl rfl fun K hK => ?_
      simp (disch := omega) [zbd, gE, tP, DtInst.cells, DtCmd.cells, DtId.cells, cmdO, instO, zba, zbe, and_assoc, List.range_succ, zbx]
      repeat' first | (exfalso; omega) | (refine zfs [] true [] (zt6 l (ordR l)[i] hn hm hst) ?_ ?_ ?_; (focus (simp [List.range_succ, nmC]; done)); (focus (simp (disch := omega) [zbd, gE, tP, DtInst.cells, DtCmd.cells, DtId.cells, cmdO, instO, zba, zbe, and_assoc, List.range_succ, zbx, zba]; done)); simp (disch := omega) [zbd, gE, tP, DtInst.cells, DtCmd.cells, DtId.cells, cmdO, instO, zba, zbe, and_assoc, List.range_succ, zbx]) | (refine ⟨by omega, ?_⟩) | (simp (disch := omega) [zbd, gE, tP, DtInst.cells, DtCmd.cells, DtId.cells, cmdO, instO, zba, zbe, and_assoc, List.range_succ, zbx]) | (intro _)
      refine hK _ ?_; clear hK K
      refine AW_x rfl rfl fun K hK => ?_
      simp (disch := omega) [zbd, gE, tP, DtInst.cells, DtCmd.cells, DtId.cells, cmdO, instO, zba, zbe, and_assoc, List.range_succ, zbx]
      repeat' first | (refine ⟨by omega, ?_⟩) | (intro _)
      refine hK _ ?_; clear hK K
      refine zbu rfl (fun hc5 => ?_) (fun hc5 => ?_)
      ·try simp [zbc, zbb, zbg, zbf] at hc5
       all_goals
        refine zdd rfl rfl fun K hK => ?_
        simp (disch := omega) [zbd, gE, tP, DtInst.cells, DtCmd.cells, DtId.cells, cmdO, instO, zba, zbe, and_assoc, List.range_succ, zbx]
        repeat' first | (exfalso; omega) | (refine ⟨fun _ => ?_, fun _ => ?_⟩) | (refine ⟨by omega, ?_⟩) | (simp (disch := omega) [zbd, gE, tP, DtInst.cells, DtCmd.cells, DtId.cells, cmdO, instO, zba, zbe, and_assoc, List.range_succ, zbx]) | (intro _)
        all_goals (refine hK _ ?_; clear hK K)
        all_goals
         refine zb4 ?_
         refine zdd rfl rfl fun K hK => ?_
         simp (disch := omega) [zbd, gE, tP, DtInst.cells, DtCmd.cells, DtId.cells, cmdO, instO, zba, zbe, and_assoc, List.range_succ, zbx]
         repeat' first | (refine ⟨by omega, ?_⟩) | (intro _)
         refine hK _ ?_; clear hK K
         first | have hsx := hcs.1 (by assumption) | have hsx := hcs.2 (by assumption)
         refine ⟨_, LeS.kx [(501, 416)] [(0, .sl 16 (l.map DtInst.cells)), (3, .arr 501 0 (cmT l (i + 1)).length), (9, .sl 2 ((ordR l).map DtId.cells)), (10, (.g (.int .i64 (((ordR l).length : Nat))))), (11, (.g (.int .i64 (((i + 1) : Nat)))))] [(501, .own 8 ((cmT l (i + 1)).map DtCmd.cells))] (by simp [KpR, renV2, renV, zbl, zb5, zbi, zbp, DtCmd.cells, DtId.cells, zkz]; try (first | rfl | (rw [hsx]; done) | (rw [hsx]; simp; done))) (by simp [KpOX, renO, plO, cvO, renV, pl1, zbi, zbp, zbl, DtCmd.cells, DtId.cells, zkz]; try (first | rfl | (rw [hsx]; done) | (rw [hsx]; simp [DtCmd.cells]; done))) (by rfl) (by simp) (by simp) (by rfl) (by simp [formsX, List.range_succ, zbi, zbp]), _, ?_, i + 1, rfl, ?_, rfl⟩
         ·omega
         ·omega
      ·try simp [zbc, zbb, zbg, zbf] at hc5
       all_goals
        refine zbv ?_
        refine zb4 ?_
        refine zdd rfl rfl fun K hK => ?_
        simp (disch := omega) [zbd, gE, tP, DtInst.cells, DtCmd.cells, DtId.cells, cmdO, instO, zba, zbe, and_assoc, List.range_succ, zbx]
        repeat' first | (exfalso; omega) | (refine ⟨fun _ => ?_, fun _ => ?_⟩) | (refine ⟨by omega, ?_⟩) | (simp (disch := omega) [zbd, gE, tP, DtInst.cells, DtCmd.cells, DtId.cells, cmdO, instO, zba, zbe, and_assoc, List.range_succ, zbx]) | (intro _)
        all_goals (refine hK _ ?_; clear hK K)
        all_goals
         first | have hsx := hcs.1 (by assumption) | have hsx := hcs.2 (by assumption)
         refine ⟨_, LeS.kx [(501, 501)] [(0, .sl 16 (l.map DtInst.cells)), (3, .arr 501 0 (cmT l (i + 1)).length), (9, .sl 2 ((ordR l).map DtId.cells)), (10, (.g (.int .i64 (((ordR l).length : Nat))))), (11, (.g (.int .i64 (((i + 1) : Nat)))))] [(501, .own 8 ((cmT l (i + 1)).map DtCmd.cells))] (by simp [KpR, renV2, renV, zbl, zb5, zbi, zbp, DtCmd.cells, DtId.cells, zkz]; try (first | rfl | (rw [hsx]; done) | (rw [hsx]; simp; done))) (by simp [KpOX, renO, plO, cvO, renV, pl1, zbi, zbp, zbl, DtCmd.cells, DtId.cells, zkz]; try (first | rfl | (rw [hsx]; done) | (rw [hsx]; simp [DtCmd.cells]; done))) (by rfl) (by simp) (by simp) (by rfl) (by simp [formsX, List.range_succ, zbi, zbp]), _, ?_, i + 1, rfl, ?_, rfl⟩
         ·omega
         ·omega
   ·try simp [zbc, zbb, zbg, zbf] at hc4
    all_goals
     refine zch ?_
     refine zb4 ?_
     refine AW_x rfl rfl fun K hK => ?_
     simp (disch := omega) [zbd, gE, tP, DtInst.cells, DtCmd.cells, DtId.cells, cmdO, instO, zba, zbe, and_assoc, List.range_succ, zbx]
     repeat' first | (exfalso; omega) | (refine ⟨fun _ => ?_, fun _ => ?_⟩) | (refine ⟨by omega, ?_⟩) | (simp (disch := omega) [zbd, gE, tP, DtInst.cells, DtCmd.cells, DtId.cells, cmdO, instO, zba, zbe, and_assoc, List.range_succ, zbx]) | (intro _)
     all_goals (refine hK _ ?_; clear hK K)
     all_goals
      refine zby (zdm [501] [] (by simp [List.range_succ, zbi, zbp, zbl]) (by simp) ?_)
      simp (disch := omega) [zbd, gE, tP, DtInst.cells, DtCmd.cells, DtId.cells, cmdO, instO, zba, zbe, and_assoc, List.range_succ, zbx]
      all_goals first | (rw [cmT_e l i (by omega)]; exact ⟨rfl, rfl⟩) | (rw [cmT_e l i (by omega)]; done) | trace_state
theorem specExecX (l : List DtInst) (hs : szS DtInst.sz l ≤ 1048576) (hn : l.length ≤ 1048576) (hm : ∀ x ∈ l, InstSm x) : XCall Tryz.prog 5 [.sl 16 (l.map DtInst.cells)] [] (.arr 16 0 (cmA l).length) [] [.own 8 ((cmA l).map DtCmd.cells)] := by
 have hor := zwf l
 refine zcg Tryz.func5 (by rfl) (by rfl) (by rw [Tryz.ntmps5]; exact Nat.le_of_ble_eq_true rfl) rfl (by simp) rfl rfl ?_
 rw [Tryz.ntmps5]
 refine zfb   ?_
 refine AW_k [(0, _)] ⟨rfl, trivial⟩ ?_
 refine AW_x rfl rfl fun K hK => ?_
 simp (disch := omega) [zbd, gE, tP, DtInst.cells, DtCmd.cells, DtId.cells, cmdO, instO, zba, zbe, and_assoc, List.range_succ, zbx]
 repeat' first | (refine ⟨by omega, ?_⟩) | (intro _)
 refine hK _ ?_; clear hK K
 refine AW_x rfl rfl fun K hK => ?_
 simp (disch := omega) [zbd, gE, tP, DtInst.cells, DtCmd.cells, DtId.cells, cmdO, instO, zba, zbe, and_assoc, List.range_succ, zbx]
 repeat' first | (refine ⟨by omega, ?_⟩) | (simp (disch := omega) [zbd, gE, tP, DtInst.cells, DtCmd.cells, DtId.cells, cmdO, instO, zba, zbe, and_assoc, List.range_succ, zbx]) | (intro _)
 refine hK _ ?_; clear hK K
 refine AW_x rfl rfl fun K hK => ?_
 simp (disch := omega) [zbd, gE, tP, DtInst.cells, DtCmd.cells, DtId.cells, cmdO, instO, zba, zbe, and_assoc, List.range_succ, zbx]
 repeat' first | (exfalso; omega) | (refine zde (zbh zce zbs) (zwh l hs hn) rfl ?_; simp (disch := omega) [zbd, gE, tP, DtInst.cells, DtCmd.cells, DtId.cells, cmdO, instO, zba, zbe, and_assoc, List.range_succ, zbx]) | (refine zdf (zwh l hs hn) (by rfl) ?_ ?_; (focus (simp (disch := omega) [zbd, gE, tP, DtInst.cells, DtCmd.cells, DtId.cells, cmdO, instO, zba, zbe, and_assoc, List.range_succ, zbx, zba]; done)); simp (disch := omega) [zbd, gE, tP, DtInst.cells, DtCmd.cells, DtId.cells, cmdO, instO, zba, zbe, and_assoc, List.range_succ, zbx]) | (refine ⟨by omega, ?_⟩) | (simp (disch := omega) [zbd, gE, tP, DtInst.cells, DtCmd.cells, DtId.cells, cmdO, instO, zba, zbe, and_assoc, List.range_succ, zbx]) | (intro _)
 refine hK _ ?_; clear hK K
 refine zbr ?_
 refine AW_x rfl rfl fun K hK => ?_
 simp (disch := omega) [zbd, gE, tP, DtInst.cells, DtCmd.cells, DtId.cells, cmdO, instO, zba, zbe, and_assoc, List.range_succ, zbx]
 repeat' first | (refine ⟨by omega, ?_⟩) | (intro _)
 refine hK _ ?_; clear hK K
 refine zb0 ?_
 refine zcf (fun mM sS => ∃ (i : Nat), mM = (ordR l).length - i ∧ (i ≤ (ordR l).length) ∧ sS = { env := lkE [(0, .sl 16 (l.map DtInst.cells)), (3, .arr 501 0 (cmT l i).length), (4, .sl 2 ((ordR l).map DtId.cells)), (5, (.g (.int .i64 ((i : Nat)))))], ob := lk [(501, .own 8 ((cmT l i).map DtCmd.cells))] }) ?_ ?_
 ·refine ⟨_, LeS.kx [(501, 128)] [(0, .sl 16 (l.map DtInst.cells)), (3, .arr 501 0 (cmT l (0)).length), (4, .sl 2 ((ordR l).map DtId.cells)), (5, (.g (.int .i64 (((0) : Nat)))))] [(501, .own 8 ((cmT l (0)).map DtCmd.cells))] (by simp [KpR, renV2, renV, zbl, zb5, zbi, zbp, DtCmd.cells, DtId.cells, zkz]; try (first | rfl | (rw [hsx]; done) | (rw [hsx]; simp; done))) (by simp [KpOX, renO, plO, cvO, renV, pl1, zbi, zbp, zbl, DtCmd.cells, DtId.cells, zkz]; try (first | rfl | (rw [hsx]; done) | (rw [hsx]; simp [DtCmd.cells]; done))) (by rfl) (by simp) (by simp) (by rfl) (by simp [formsX, List.range_succ, zbi, zbp]), _, 0, rfl, ?_, rfl⟩
  ·simp
 ·rintro mM sS ⟨i, rfl, hi, rfl⟩
  have hcl := cmT_len l i
  refine zbr ?_
  refine AW_x rfl rfl fun K hK => ?_
  simp (disch := omega) [zbd, gE, tP, DtInst.cells, DtCmd.cells, DtId.cells, cmdO, instO, zba, zbe, and_assoc, List.range_succ, zbx]
  repeat' first | (refine ⟨by omega, ?_⟩) | (simp (disch := omega) [zbd, gE, tP, DtInst.cells, DtCmd.cells, DtId.cells, cmdO, instO, zba, zbe, and_assoc, List.range_succ, zbx]) | (intro _)
  refine hK _ ?_; clear hK K
  refine zbu rfl (fun hc6 => ?_) (fun hc6 => ?_)
  ·try simp [zbc, zbb, zbg, zbf] at hc6
   all_goals
    have hst := ordR_st (l := l) (x := (ordR l)[i]) (List.getElem_mem _)
    have hcs := cmT_s l i (by omega)
    refine zbv ?_
    refine zb4 ?_
    refine zbr ?_
    refine zb0 ?_
    refine AW_x rfl rfl fun K hK => ?_
    simp (disch := omega) [zbd, gE, tP, DtInst.cells, DtCmd.cells, DtId.cells, cmdO, instO, zba, zbe, and_assoc, List.range_succ, zbx]
    repeat' first | (exfalso; omega) | (refine zfs [] true [] (zt7 l (ordR l)[i] hn hm hst) ?_ ?_ ?_; (focus (simp [List.range_succ, nmC]; done)); (focus (simp (disch := omega) [zbd, gE, tP, DtInst.cells, DtCmd.cells, DtId.cells, cmdO, instO, zba, zbe, and_assoc, List.range_succ, zbx, zba]; done)); simp (disch := omega) [zbd, gE, tP, DtInst.cells, DtCmd.cells, DtId.cells, cmdO, instO, zba, zbe, and_assoc, List.range_succ, zbx]) | (refine ⟨fun _ => ?_, fun _ => ?_⟩) | (refine ⟨by omega, ?_⟩) | (simp (disch := omega) [zbd, gE, tP, DtInst.cells, DtCmd.cells, DtId.cells, cmdO, instO, zba, zbe, and_assoc, List.range_succ, zbx]) | (intro _)
    all_goals (refine hK _ ?_; clear hK K)
    all_goals
     refine AW_x rfl rfl fun K hK => ?_
     simp (disch := omega) [zbd, gE, tP, DtInst.cells, DtCmd.cells, DtId.cells, cmdO, instO, zba, zbe, and_assoc, List.range_succ, zbx]
     repeat' first | (refine ⟨by omega, ?_⟩) | (intro _)
     refine hK _ ?_; clear hK K
     refine zbu rfl (fun hc7 => ?_) (fun hc7 => ?_)
     ·try simp [zbc, zbb, zbg, zbf] at hc7
      all_goals
       refine zdd rfl rfl fun K hK => ?_
       simp (disch := omega) [zbd, gE, tP, DtInst.cells, DtCmd.cells, DtId.cells, cmdO, instO, zba, zbe, and_assoc, List.range_succ, zbx]
       repeat' first | (exfalso; omega) | (refine ⟨fun _ => ?_, fun _ => ?_⟩) | (refine ⟨by omega, ?_⟩) | (simp (disch := omega) [zbd, gE, tP, DtInst.cells, DtCmd.cells, DtId.cells, cmdO, instO, zba, zbe, and_assoc, List.range_succ, zbx]) | (intro _)
       all_goals (refine hK _ ?_; clear hK K)
       all_goals
        refine zb4 ?_
        refine zdd rfl rfl fun K hK => ?_
        simp (disch := omega) [zbd, gE, tP, DtInst.cells, DtCmd.cells, DtId.cells, cmdO, instO, zba, zbe, and_assoc, List.range_succ, zbx]
        repeat' first | (refine ⟨by omega, ?_⟩) | (intro _)
        refine hK _ ?_; clear hK K
        first | have hsx := hcs.1 (by assumption) | have hsx := hcs.2 (by assumption)
        refine ⟨_, LeS.kx [(501, 480)] [(0, .sl 16 (l.map DtInst.cells)), (3, .arr 501 0 (cmT l (i + 1)).length), (4, .sl 2 ((ordR l).map DtId.cells)), (5, (.g (.int .i64 (((i + 1) : Nat)))))] [(501, .own 8 ((cmT l (i + 1)).map DtCmd.cells))] (by simp [KpR, renV2, renV, zbl, zb5, zbi, zbp, DtCmd.cells, DtId.cells, zkz]; try (first | rfl | (rw [hsx]; done) | (rw [hsx]; simp; done))) (by simp [KpOX, renO, plO, cvO, renV, pl1, zbi, zbp, zbl, DtCmd.cells, DtId.cells, zkz]; try (first | rfl | (rw [hsx]; done) | (rw [hsx]; simp [DtCmd.cells]; done))) (by rfl) (by simp) (by simp) (by rfl) (by simp [formsX, List.range_succ, zbi, zbp]), _, ?_, i + 1, rfl, ?_, rfl⟩
        ·omega
        ·omega
     ·try simp [zbc, zbb, zbg, zbf] at hc7
      all_goals
       refine zbv ?_
       refine zb4 ?_
       refine zdd rfl rfl fun K hK => ?_
       simp (disch := omega) [zbd, gE, tP, DtInst.cells, DtCmd.cells, DtId.cells, cmdO, instO, zba, zbe, and_assoc, List.range_succ, zbx]
       repeat' first | (exfalso; omega) | (refine ⟨fun _ => ?_, fun _ => ?_⟩) | (refine ⟨by omega, ?_⟩) | (simp (disch := omega) [zbd, gE, tP, DtInst.cells, DtCmd.cells, DtId.cells, cmdO, instO, zba, zbe, and_assoc, List.range_succ, zbx]) | (intro _)
       all_goals (refine hK _ ?_; clear hK K)
       all_goals
        first | have hsx := hcs.1 (by assumption) | have hsx := hcs.2 (by assumption)
        refine ⟨_, LeS.kx [(501, 501)] [(0, .sl 16 (l.map DtInst.cells)), (3, .arr 501 0 (cmT l (i + 1)).length), (4, .sl 2 ((ordR l).map DtId.cells)), (5, (.g (.int .i64 (((i + 1) : Nat)))))] [(501, .own 8 ((cmT l (i + 1)).map DtCmd.cells))] (by simp [KpR, renV2, renV, zbl, zb5, zbi, zbp, DtCmd.cells, DtId.cells, zkz]; try (first | rfl | (rw [hsx]; done) | (rw [hsx]; simp; done))) (by simp [KpOX, renO, plO, cvO, renV, pl1, zbi, zbp, zbl, DtCmd.cells, DtId.cells, zkz]; try (first | rfl | (rw [hsx]; done) | (rw [hsx]; simp [DtCmd.cells]; done))) (by rfl) (by simp) (by simp) (by rfl) (by simp [formsX, List.range_succ, zbi, zbp]), _, ?_, i + 1, rfl, ?_, rfl⟩
        ·omega
        ·omega
  ·try simp [zbc, zbb, zbg, zbf] at hc6
   all_goals
    refine zch ?_
    refine zb4 ?_
    refine AW_x rfl rfl fun K hK => ?_
    simp (disch := omega) [zbd, gE, tP, DtInst.cells, DtCmd.cells, DtId.cells, cmdO, instO, zba, zbe, and_assoc, List.range_succ, zbx]
    repeat' first | (exfalso; omega) | (refine ⟨fun _ => ?_, fun _ => ?_⟩) | (refine ⟨by omega, ?_⟩) | (simp (disch := omega) [zbd, gE, tP, DtInst.cells, DtCmd.cells, DtId.cells, cmdO, instO, zba, zbe, and_assoc, List.range_succ, zbx]) | (intro _)
    all_goals (refine hK _ ?_; clear hK K)
    all_goals
     refine zby (zdm [501] [] (by simp [List.range_succ, zbi, zbp, zbl]) (by simp) ?_)
     simp (disch := omega) [zbd, gE, tP, DtInst.cells, DtCmd.cells, DtId.cells, cmdO, instO, zba, zbe, and_assoc, List.range_succ, zbx]
     all_goals first | (rw [cmT_e l i (by omega)]; exact ⟨rfl, rfl⟩) | (rw [cmT_e l i (by omega)]; done) | trace_state
end Go.Proofs.YtfbmhgiokfpgiaaGreat.Vs
