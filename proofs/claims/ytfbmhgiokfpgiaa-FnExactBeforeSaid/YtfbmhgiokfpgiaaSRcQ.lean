import Derived.Test.YtfbmhgiokfpgiaaSWaQ
import Derived.Test.YtfbmhgiokfpgiaaVs9
import Derived.Test.YtfbmhgiokfpgiaaSSqQ
open Go Go.Proofs Go.Proofs.Ytfbmhgiokfpgiaa.Vs
namespace Go.Proofs.Ytfbmhgiokfpgiaa.Vs
set_option linter.all false
section
variable {P : Program} {nt : Nat} {fs : List Nat} {Q : AExit → St → Prop} {st : St}
theorem AW_xa2e {id : Nat} {l : List Oper} (k : Nat) {cs cs2 : List CO} {dst : Option Nat} {cl : Call} (hc : cosOf l.toArray l = some cs) (hk : cs.drop k = ⟨dst, .call cl, none⟩ :: cs2) (hb : cl.callee = .builtin .append) (hd : dstOk nt l.toArray = true)
 (h : ∀ K : St → Prop, (∀ s, Q .normal s → K s) → xreg P (cs.take k) st fun s => appT P s dst cl cs2 K) : AW P nt fs (.region id l.toArray false) Q st :=
 AW_xae (cs.take k) (by rw [← hk, List.take_append_drop]; exact hc) hb hd h
end
set_option linter.unusedSimpArgs false
set_option linter.unusedVariables false
set_option maxRecDepth 100000
theorem zbh (l : List DtId) : scR (l.map DtId.cells) = true := zni _ (fun _ => rfl) l
theorem zdy (l : List DtId) (n : Nat) : scR ((l.map DtId.cells).drop n) = true := by rw [← List.map_drop]; exact zbh _
theorem zb9 (q : Bool) (st : St) (hs Z : List Nat) (g g' : FuncId) : ax2 q st hs Z (.fn g [] []) (.fn g' [] []) = (g' = g) := by
 apply propext
 constructor
 ·intro h; first | exact h.1 | exact h.1.symm | (simp [ax2, ax1, ax0] at h; simp_all)
 ·rintro rfl; first | exact ⟨rfl, rfl, rfl⟩ | (simp [ax2, ax1, ax0]; done)
theorem zh7 {l : List DtInst} {id : DtId} (h : (instAt l id).fStatus = 3) : depsL l id = (instAt l id).fDeps := by unfold depsL; rw [if_pos h]
theorem zq7 (l : List DtInst) (id : DtId) (hs : szS DtInst.sz l ≤ 1048576) (hn : l.length ≤ 1048576) (hm : ∀ x ∈ l, InstSm x) (hp : InstsP l) : XCall Try.prog 41 [.sl 16 (l.map DtInst.cells), .agg (DtId.cells id)] [] (.arr 16 0 (reachL l id).length) [] [.own 2 ((reachL l id).map DtId.cells)] := by
 have hpb := zco hp
 refine zc1 Try.func41 (by rfl) (by rfl) (by rw [Try.ntmps41]; exact Nat.le_of_ble_eq_true rfl) rfl (by simp) rfl rfl ?_
 rw [Try.ntmps41]
 refine zgt   ?_
 refine AW_k [(0, _), (1, _)] ⟨rfl, rfl, trivial⟩ ?_
 refine AW_x rfl rfl fun K hK => ?_
 simp (disch := omega) [zbd, gE, tP, DtInst.cells, DtCmd.cells, DtId.cells, zbc, zbh, and_assoc, zb9]
 repeat' first | (refine ⟨by omega, ?_⟩) | (intro _)
 refine hK _ ?_; clear hK K
 refine zbt ?_
 refine AW_x rfl rfl fun K hK => ?_
 simp (disch := omega) [zbd, gE, tP, DtInst.cells, DtCmd.cells, DtId.cells, zbc, zbh, and_assoc, zb9]
 repeat' first | (exfalso; omega) | (refine zd1 (zbg zca zbr) (zdg _ (by assumption)) rfl ?_; simp (disch := omega) [zbd, gE, tP, DtInst.cells, DtCmd.cells, DtId.cells, zbc, zbh, and_assoc, zb9]) | (refine zd2 (zdg _ (by assumption)) (by rfl) ?_ ?_; (focus (simp (disch := omega) [zbd, gE, tP, DtInst.cells, DtCmd.cells, DtId.cells, zbc, zbh, and_assoc, zb9, zbc]; done)); simp (disch := omega) [zbd, gE, tP, DtInst.cells, DtCmd.cells, DtId.cells, zbc, zbh, and_assoc, zb9]) | (refine ⟨by omega, ?_⟩) | (simp (disch := omega) [zbd, gE, tP, DtInst.cells, DtCmd.cells, DtId.cells, zbc, zbh, and_assoc, zb9]) | (intro _)
 refine hK _ ?_; clear hK K
 refine zbv rfl (fun hc1 => ?_) (fun hc1 => ?_)
 ·try simp [zbb, zba, zbf, zbe, zbp, zbq] at hc1
  all_goals
   refine AW_x rfl rfl fun K hK => ?_
   simp (disch := omega) [zbd, gE, tP, DtInst.cells, DtCmd.cells, DtId.cells, zbc, zbh, and_assoc, zb9]
   repeat' first | (exfalso; omega) | (refine ⟨fun _ => ?_, fun _ => ?_⟩) | (refine ⟨by omega, ?_⟩) | (simp (disch := omega) [zbd, gE, tP, DtInst.cells, DtCmd.cells, DtId.cells, zbc, zbh, and_assoc, zb9]) | (intro _)
   all_goals (refine hK _ ?_; clear hK K)
   all_goals
    refine zbz (zhc [224] [] (by simp [List.range_succ, zbk, zbx, zbn]) (by simp) ?_)
    simp (disch := omega) [zbd, gE, tP, DtInst.cells, DtCmd.cells, DtId.cells, zbc, zbh, and_assoc, zb9, hpb]
    all_goals first | (exfalso; exact absurd hp (by assumption)) | (have he := zq6 hp hb (by omega); have hl2 := zlv cmpI o; rw [he] at hl2; rw [he]; exact ⟨hl2, rfl⟩) | trace_state
 ·try simp [zbb, zba, zbf, zbe, zbp, zbq] at hc1
  all_goals
   refine zbw ?_
   refine zb3 ?_
   refine AW_x rfl rfl fun K hK => ?_
   simp (disch := omega) [zbd, gE, tP, DtInst.cells, DtCmd.cells, DtId.cells, zbc, zbh, and_assoc, zb9]
   repeat' first | (exfalso; omega) | (refine ⟨fun _ => ?_, fun _ => ?_⟩) | (refine ⟨by omega, ?_⟩) | (simp (disch := omega) [zbd, gE, tP, DtInst.cells, DtCmd.cells, DtId.cells, zbc, zbh, and_assoc, zb9]) | (intro _)
   all_goals (refine hK _ ?_; clear hK K)
   all_goals
    refine AW_x rfl rfl fun K hK => ?_
    simp (disch := omega) [zbd, gE, tP, DtInst.cells, DtCmd.cells, DtId.cells, zbc, zbh, and_assoc, zb9]
    repeat' first | (refine ⟨by omega, ?_⟩) | (simp (disch := omega) [zbd, gE, tP, DtInst.cells, DtCmd.cells, DtId.cells, zbc, zbh, and_assoc, zb9]) | (intro _)
    refine hK _ ?_; clear hK K
    refine zbt ?_
    refine zb0 ?_
    refine zcc (fun mM sS => ∃ (off : Nat) (zs : List DtId) (o : List DtId), mM = 2 * (18 - o.length) + (zs.length - off) ∧ (Bf l id none [] off zs o) ∧ sS = { env := lkE [(0, .sl 16 (l.map DtInst.cells)), (3, .ptr 64 0), (5, .arr 501 0 o.length), (6, .arr 502 off (zs.length - off))], ob := lk [(64, .cells (DtId.cells id)), (501, .win 2 (o.map DtId.cells)), (502, .win 2 (zs.map DtId.cells))] }) ?_ ?_
    ·refine ⟨_, LeS.kx [(64, 64), (501, 224), (502, 256)] [(0, .sl 16 (l.map DtInst.cells)), (3, .ptr 64 0), (5, .arr 501 0 ([]).length), (6, .arr 502 (0) (([id]).length - (0)))] [(64, .cells (DtId.cells id)), (501, .win 2 (([]).map DtId.cells)), (502, .win 2 (([id]).map DtId.cells))] (by simp [KpR, renV2, renV, zbn, zb4, zbk, zbx, DtId.cells, zbh, zdy]; try rfl) (by simp [KpOX, renO, plO, cvO, renV, pl1, zbk, zbx, zbn, DtId.cells, zbh, zdy]; try rfl) (by rfl) (by simp) (by simp) (by rfl) (by simp [formsX, List.range_succ, zbk, zbx]), _, 0, [id], [], rfl, ?_, rfl⟩
     ·exact bf_0 l id
    ·rintro mM sS ⟨off, zs, o, rfl, hb, rfl⟩
     have hol := zj2 hp hb
     have hzl := hb.hz
     have hol2 := hb.ho
     refine zbt ?_
     refine AW_x rfl rfl fun K hK => ?_
     simp (disch := omega) [zbd, gE, tP, DtInst.cells, DtCmd.cells, DtId.cells, zbc, zbh, and_assoc, zb9]
     repeat' first | (refine ⟨by omega, ?_⟩) | (simp (disch := omega) [zbd, gE, tP, DtInst.cells, DtCmd.cells, DtId.cells, zbc, zbh, and_assoc, zb9]) | (intro _)
     refine hK _ ?_; clear hK K
     refine zbv rfl (fun hc2 => ?_) (fun hc2 => ?_)
     ·try simp [zbb, zba, zbf, zbe, zbp, zbq] at hc2
      all_goals
       refine zbw ?_
       refine zb3 ?_
       refine zb0 ?_
       refine AW_x rfl rfl fun K hK => ?_
       simp (disch := omega) [zbd, gE, tP, DtInst.cells, DtCmd.cells, DtId.cells, zbc, zbh, and_assoc, zb9]
       repeat' first | (exfalso; omega) | (refine zd1 (zbg zca (zbg (zb6 rfl) zbr)) (zfj _ _ (by assumption) (by assumption)) rfl ?_; simp (disch := omega) [zbd, gE, tP, DtInst.cells, DtCmd.cells, DtId.cells, zbc, zbh, and_assoc, zb9]) | (refine zd2 (zfj _ _ (by assumption) (by assumption)) (by rfl) ?_ ?_; (focus (simp (disch := omega) [zbd, gE, tP, DtInst.cells, DtCmd.cells, DtId.cells, zbc, zbh, and_assoc, zb9, zbc]; done)); simp (disch := omega) [zbd, gE, tP, DtInst.cells, DtCmd.cells, DtId.cells, zbc, zbh, and_assoc, zb9]) | (refine ⟨fun _ => ?_, fun _ => ?_⟩) | (refine ⟨by omega, ?_⟩) | (simp (disch := omega) [zbd, gE, tP, DtInst.cells, DtCmd.cells, DtId.cells, zbc, zbh, and_assoc, zb9]) | (intro _)
       all_goals (refine hK _ ?_; clear hK K)
       all_goals
        refine AW_x rfl rfl fun K hK => ?_
        simp (disch := omega) [zbd, gE, tP, DtInst.cells, DtCmd.cells, DtId.cells, zbc, zbh, and_assoc, zb9]
        repeat' first | (refine ⟨by omega, ?_⟩) | (intro _)
        refine hK _ ?_; clear hK K
        refine zbt ?_
        refine AW_x rfl rfl fun K hK => ?_
        simp (disch := omega) [zbd, gE, tP, DtInst.cells, DtCmd.cells, DtId.cells, zbc, zbh, and_assoc, zb9]
        repeat' first | (refine ⟨by omega, ?_⟩) | (intro _)
        refine hK _ ?_; clear hK K
        refine zbv rfl (fun hc3 => ?_) (fun hc3 => ?_)
        ·try simp [zbb, zba, zbf, zbe, zbp, zbq] at hc3
         all_goals
          refine zce ?_
          refine ⟨_, LeS.kx [(64, 64), (501, 501), (502, 502)] [(0, .sl 16 (l.map DtInst.cells)), (3, .ptr 64 0), (5, .arr 501 0 (o).length), (6, .arr 502 (off + 1) ((zs).length - (off + 1)))] [(64, .cells (DtId.cells id)), (501, .win 2 ((o).map DtId.cells)), (502, .win 2 ((zs).map DtId.cells))] (by simp [KpR, renV2, renV, zbn, zb4, zbk, zbx, DtId.cells, zbh, zdy]; try rfl) (by simp [KpOX, renO, plO, cvO, renV, pl1, zbk, zbx, zbn, DtId.cells, zbh, zdy]; try rfl) (by rfl) (by simp) (by simp) (by rfl) (by simp [formsX, List.range_succ, zbk, zbx]), _, ?_, off + 1, zs, o, rfl, ?_, rfl⟩
          ·omega
          ·first | exact zt9 (zz5 hb (by omega)) (zjv hc3) | (rw [List.take_of_length_le (by omega)] at hb2; exact zt9 hb2 (zh7 hc3))
        ·try simp [zbb, zba, zbf, zbe, zbp, zbq] at hc3
         all_goals
          refine zbw ?_
          refine zb3 ?_
          refine AW_x rfl rfl fun K hK => ?_
          simp (disch := omega) [zbd, gE, tP, DtInst.cells, DtCmd.cells, DtId.cells, zbc, zbh, and_assoc, zb9]
          repeat' first | (exfalso; omega) | (refine ⟨fun _ => ?_, fun _ => ?_⟩) | (refine ⟨by omega, ?_⟩) | (simp (disch := omega) [zbd, gE, tP, DtInst.cells, DtCmd.cells, DtId.cells, zbc, zbh, and_assoc, zb9]) | (intro _)
          all_goals (refine hK _ ?_; clear hK K)
          all_goals
           refine zb0 ?_
           refine zcc (fun mM sS => ∃ (i : Nat) (off2 : Nat) (zs2 : List DtId) (o2 : List DtId), mM = (instAt l zs[off]).fDeps.length - i ∧ (i ≤ (instAt l zs[off]).fDeps.length ∧ Bf l id (some zs[off]) ((instAt l zs[off]).fDeps.take i) off2 zs2 o2 ∧ 2 * (18 - o2.length) + (zs2.length - off2) < 2 * (18 - o.length) + (zs.length - off)) ∧ sS = { env := lkE [(0, .sl 16 (l.map DtInst.cells)), (3, .ptr 64 0), (5, .arr 501 0 o2.length), (6, .arr 502 off2 (zs2.length - off2)), (30, .sl 2 ((instAt l zs[off]).fDeps.map DtId.cells)), (31, (.g (.int .i64 (((instAt l zs[off]).fDeps.length : Nat))))), (32, (.g (.int .i64 ((i : Nat)))))], ob := lk [(64, .cells (DtId.cells id)), (501, .win 2 (o2.map DtId.cells)), (502, .win 2 (zs2.map DtId.cells))] }) ?_ ?_
           ·refine ⟨_, LeS.kx [(64, 64), (501, 501), (502, 502)] [(0, .sl 16 (l.map DtInst.cells)), (3, .ptr 64 0), (5, .arr 501 0 (o).length), (6, .arr 502 (off + 1) ((zs).length - (off + 1))), (30, .sl 2 ((instAt l zs[off]).fDeps.map DtId.cells)), (31, (.g (.int .i64 (((instAt l zs[off]).fDeps.length : Nat))))), (32, (.g (.int .i64 (((0) : Nat)))))] [(64, .cells (DtId.cells id)), (501, .win 2 ((o).map DtId.cells)), (502, .win 2 ((zs).map DtId.cells))] (by simp [KpR, renV2, renV, zbn, zb4, zbk, zbx, DtId.cells, zbh, zdy]; try omega) (by simp [KpOX, renO, plO, cvO, renV, pl1, zbk, zbx, zbn, DtId.cells, zbh, zdy]; try (simp [List.map_drop, List.take_of_length_le, DtId.cells]; try rfl)) (by rfl) (by simp) (by simp) (by rfl) (by simp [formsX, List.range_succ, zbk, zbx]), _, 0, off + 1, zs, o, rfl, ?_, rfl⟩
            ·exact ⟨by simp, zz5 hb (by omega), by omega⟩
           ·rintro mM sS ⟨i, off2, zs2, o2, rfl, ⟨hi, hb2, hme⟩, rfl⟩
            have hol3 := zj2 hp hb2
            have hdl := zcr hp zs[off]
            rw [zh7 hc3] at hdl
            have hzl3 := hb2.hz
            have hol4 := hb2.ho
            refine AW_x rfl rfl fun K hK => ?_
            simp (disch := omega) [zbd, gE, tP, DtInst.cells, DtCmd.cells, DtId.cells, zbc, zbh, and_assoc, zb9]
            repeat' first | (refine ⟨by omega, ?_⟩) | (intro _)
            refine hK _ ?_; clear hK K
            refine zbt ?_
            refine zbv rfl (fun hc4 => ?_) (fun hc4 => ?_)
            ·try simp [zbb, zba, zbf, zbe, zbp, zbq] at hc4
             all_goals
              have hdm : (instAt l zs[off]).fDeps[i] ∈ depsL l zs[off] := by rw [zh7 hc3]; exact List.getElem_mem _
              have hts := List.take_succ_eq_append_getElem (show i < (instAt l zs[off]).fDeps.length by omega)
              refine zbw ?_
              refine zb3 ?_
              refine zbt ?_
              refine zb0 ?_
              refine AW_x rfl rfl fun K hK => ?_
              simp (disch := omega) [zbd, gE, tP, DtInst.cells, DtCmd.cells, DtId.cells, zbc, zbh, and_assoc, zb9]
              repeat' first | (exfalso; omega) | (refine ⟨fun _ => ?_, fun _ => ?_⟩) | (refine ⟨by omega, ?_⟩) | (simp (disch := omega) [zbd, gE, tP, DtInst.cells, DtCmd.cells, DtId.cells, zbc, zbh, and_assoc, zb9]) | (intro _)
              all_goals (refine hK _ ?_; clear hK K)
              all_goals
               refine AW_x rfl rfl fun K hK => ?_
               simp (disch := omega) [zbd, gE, tP, DtInst.cells, DtCmd.cells, DtId.cells, zbc, zbh, and_assoc, zb9]
               repeat' first | (exfalso; omega) | (refine zd1 (zbg zca (zbg (zb6 rfl) zbr)) (zds o2 (instAt l zs[off]).fDeps[i] (by omega)) rfl ?_; simp (disch := omega) [zbd, gE, tP, DtInst.cells, DtCmd.cells, DtId.cells, zbc, zbh, and_assoc, zb9]) | (refine zd2 (zds o2 (instAt l zs[off]).fDeps[i] (by omega)) (by rfl) ?_ ?_; (focus (simp (disch := omega) [zbd, gE, tP, DtInst.cells, DtCmd.cells, DtId.cells, zbc, zbh, and_assoc, zb9, zbc]; done)); simp (disch := omega) [zbd, gE, tP, DtInst.cells, DtCmd.cells, DtId.cells, zbc, zbh, and_assoc, zb9]) | (refine ⟨by omega, ?_⟩) | (simp (disch := omega) [zbd, gE, tP, DtInst.cells, DtCmd.cells, DtId.cells, zbc, zbh, and_assoc, zb9]) | (intro _)
               refine hK _ ?_; clear hK K
               refine zbv rfl (fun hc5 => ?_) (fun hc5 => ?_)
               ·try simp [zbb, zba, zbf, zbe, zbp, zbq] at hc5
                all_goals
                 refine AW_x rfl rfl fun K hK => ?_
                 simp (disch := omega) [zbd, gE, tP, DtInst.cells, DtCmd.cells, DtId.cells, zbc, zbh, and_assoc, zb9]
                 repeat' first | (exfalso; omega) | (refine ⟨fun _ => ?_, fun _ => ?_⟩) | (refine ⟨by omega, ?_⟩) | (simp (disch := omega) [zbd, gE, tP, DtInst.cells, DtCmd.cells, DtId.cells, zbc, zbh, and_assoc, zb9]) | (intro _)
                 all_goals (refine hK _ ?_; clear hK K)
                 all_goals
                  refine AW_xa2e 3 rfl rfl rfl rfl fun K hK => ?_
                  simp (disch := omega) [zbd, gE, tP, DtInst.cells, DtCmd.cells, DtId.cells, zbc, zbh, and_assoc, zb9, appT, aAppG, List.take_succ_cons, List.take_zero]
                  repeat' first | (exfalso; omega) | (refine ⟨fun _ => ?_, fun _ => ?_⟩) | (refine ⟨by omega, ?_⟩) | (simp (disch := omega) [zbd, gE, tP, DtInst.cells, DtCmd.cells, DtId.cells, zbc, zbh, and_assoc, zb9, appT, aAppG, List.take_succ_cons, List.take_zero]) | (refine ⟨?_, ?_⟩) | (intro _)
                  all_goals (refine hK _ ?_; clear hK K)
                  ·skip
                   refine zb3 ?_
                   refine zdx rfl rfl fun K hK => ?_
                   simp (disch := omega) [zbd, gE, tP, DtInst.cells, DtCmd.cells, DtId.cells, zbc, zbh, and_assoc, zb9]
                   repeat' first | (refine ⟨by omega, ?_⟩) | (intro _)
                   refine hK _ ?_; clear hK K
                   refine ⟨_, LeS.kx [(64, 64), (501, 704), (502, 768)] [(0, .sl 16 (l.map DtInst.cells)), (3, .ptr 64 0), (5, .arr 501 0 (o2 ++ [(instAt l zs[off]).fDeps[i]]).length), (6, .arr 502 (off2) ((zs2 ++ [(instAt l zs[off]).fDeps[i]]).length - (off2))), (30, .sl 2 ((instAt l zs[off]).fDeps.map DtId.cells)), (31, (.g (.int .i64 (((instAt l zs[off]).fDeps.length : Nat))))), (32, (.g (.int .i64 (((i + 1) : Nat)))))] [(64, .cells (DtId.cells id)), (501, .win 2 ((o2 ++ [(instAt l zs[off]).fDeps[i]]).map DtId.cells)), (502, .win 2 ((zs2 ++ [(instAt l zs[off]).fDeps[i]]).map DtId.cells))] (by simp [KpR, renV2, renV, zbn, zb4, zbk, zbx, DtId.cells, zbh, zdy]; try (first | omega | (simp (disch := omega) [zbd]; omega))) (by simp [KpOX, renO, plO, cvO, renV, pl1, zbk, zbx, zbn, DtId.cells, zbh, zdy]; try (simp [List.map_drop, List.take_of_length_le, DtId.cells]; try rfl)) (by rfl) (by simp) (by simp) (by rfl) (by simp [formsX, List.range_succ, zbk, zbx]), _, ?_, i + 1, off2, zs2 ++ [(instAt l zs[off]).fDeps[i]], o2 ++ [(instAt l zs[off]).fDeps[i]], rfl, ?_, rfl⟩
                   ·omega
                   ·first | (have hnw := zs3 hb2 (by assumption); rw [← hts] at hnw; exact ⟨by omega, hnw, by omega⟩) | (have hnw := zs4 hb2 (by assumption) hdm; have hlw := zj2 hp hnw; rw [← hts] at hnw; refine ⟨by omega, hnw, ?_⟩; simp at hlw ⊢; omega) | (have hnw := zs5 hb2 (by assumption) hdm; have hlw := zj2 hp hnw; rw [← hts] at hnw; refine ⟨by omega, hnw, ?_⟩; simp at hlw ⊢; omega)
                  ·skip
                   refine zb3 ?_
                   refine zdx rfl rfl fun K hK => ?_
                   simp (disch := omega) [zbd, gE, tP, DtInst.cells, DtCmd.cells, DtId.cells, zbc, zbh, and_assoc, zb9]
                   repeat' first | (refine ⟨by omega, ?_⟩) | (intro _)
                   refine hK _ ?_; clear hK K
                   refine ⟨_, LeS.kx [(64, 64), (501, 704), (502, 768)] [(0, .sl 16 (l.map DtInst.cells)), (3, .ptr 64 0), (5, .arr 501 0 (o2 ++ [(instAt l zs[off]).fDeps[i]]).length), (6, .arr 502 (0) ((zs2.drop off2 ++ [(instAt l zs[off]).fDeps[i]]).length - (0))), (30, .sl 2 ((instAt l zs[off]).fDeps.map DtId.cells)), (31, (.g (.int .i64 (((instAt l zs[off]).fDeps.length : Nat))))), (32, (.g (.int .i64 (((i + 1) : Nat)))))] [(64, .cells (DtId.cells id)), (501, .win 2 ((o2 ++ [(instAt l zs[off]).fDeps[i]]).map DtId.cells)), (502, .win 2 ((zs2.drop off2 ++ [(instAt l zs[off]).fDeps[i]]).map DtId.cells))] (by simp [KpR, renV2, renV, zbn, zb4, zbk, zbx, DtId.cells, zbh, zdy]; try (first | omega | (simp (disch := omega) [zbd]; omega))) (by simp [KpOX, renO, plO, cvO, renV, pl1, zbk, zbx, zbn, DtId.cells, zbh, zdy]; try (simp [List.map_drop, List.take_of_length_le, DtId.cells]; try rfl)) (by rfl) (by simp) (by simp) (by rfl) (by simp [formsX, List.range_succ, zbk, zbx]), _, ?_, i + 1, 0, zs2.drop off2 ++ [(instAt l zs[off]).fDeps[i]], o2 ++ [(instAt l zs[off]).fDeps[i]], rfl, ?_, rfl⟩
                   ·omega
                   ·first | (have hnw := zs3 hb2 (by assumption); rw [← hts] at hnw; exact ⟨by omega, hnw, by omega⟩) | (have hnw := zs4 hb2 (by assumption) hdm; have hlw := zj2 hp hnw; rw [← hts] at hnw; refine ⟨by omega, hnw, ?_⟩; simp at hlw ⊢; omega) | (have hnw := zs5 hb2 (by assumption) hdm; have hlw := zj2 hp hnw; rw [← hts] at hnw; refine ⟨by omega, hnw, ?_⟩; simp at hlw ⊢; omega)
               ·try simp [zbb, zba, zbf, zbe, zbp, zbq] at hc5
                all_goals
                 refine zbw ?_
                 refine zb3 ?_
                 refine zdx rfl rfl fun K hK => ?_
                 simp (disch := omega) [zbd, gE, tP, DtInst.cells, DtCmd.cells, DtId.cells, zbc, zbh, and_assoc, zb9]
                 repeat' first | (exfalso; omega) | (refine ⟨fun _ => ?_, fun _ => ?_⟩) | (refine ⟨by omega, ?_⟩) | (simp (disch := omega) [zbd, gE, tP, DtInst.cells, DtCmd.cells, DtId.cells, zbc, zbh, and_assoc, zb9]) | (intro _)
                 all_goals (refine hK _ ?_; clear hK K)
                 all_goals
                  refine ⟨_, LeS.kx [(64, 64), (501, 501), (502, 502)] [(0, .sl 16 (l.map DtInst.cells)), (3, .ptr 64 0), (5, .arr 501 0 (o2).length), (6, .arr 502 (off2) ((zs2).length - (off2))), (30, .sl 2 ((instAt l zs[off]).fDeps.map DtId.cells)), (31, (.g (.int .i64 (((instAt l zs[off]).fDeps.length : Nat))))), (32, (.g (.int .i64 (((i + 1) : Nat)))))] [(64, .cells (DtId.cells id)), (501, .win 2 ((o2).map DtId.cells)), (502, .win 2 ((zs2).map DtId.cells))] (by simp [KpR, renV2, renV, zbn, zb4, zbk, zbx, DtId.cells, zbh, zdy]; try (first | omega | (simp (disch := omega) [zbd]; omega))) (by simp [KpOX, renO, plO, cvO, renV, pl1, zbk, zbx, zbn, DtId.cells, zbh, zdy]; try (simp [List.map_drop, List.take_of_length_le, DtId.cells]; try rfl)) (by rfl) (by simp) (by simp) (by rfl) (by simp [formsX, List.range_succ, zbk, zbx]), _, ?_, i + 1, off2, zs2, o2, rfl, ?_, rfl⟩
                  ·omega
                  ·first | (have hnw := zs3 hb2 (by assumption); rw [← hts] at hnw; exact ⟨by omega, hnw, by omega⟩) | (have hnw := zs4 hb2 (by assumption) hdm; have hlw := zj2 hp hnw; rw [← hts] at hnw; refine ⟨by omega, hnw, ?_⟩; simp at hlw ⊢; omega) | (have hnw := zs5 hb2 (by assumption) hdm; have hlw := zj2 hp hnw; rw [← hts] at hnw; refine ⟨by omega, hnw, ?_⟩; simp at hlw ⊢; omega)
            ·try simp [zbb, zba, zbf, zbe, zbp, zbq] at hc4
             all_goals
              refine zce ?_
              refine ⟨_, LeS.kx [(64, 64), (501, 501), (502, 502)] [(0, .sl 16 (l.map DtInst.cells)), (3, .ptr 64 0), (5, .arr 501 0 (o2).length), (6, .arr 502 (off2) ((zs2).length - (off2)))] [(64, .cells (DtId.cells id)), (501, .win 2 ((o2).map DtId.cells)), (502, .win 2 ((zs2).map DtId.cells))] (by simp [KpR, renV2, renV, zbn, zb4, zbk, zbx, DtId.cells, zbh, zdy]; try rfl) (by simp [KpOX, renO, plO, cvO, renV, pl1, zbk, zbx, zbn, DtId.cells, zbh, zdy]; try rfl) (by rfl) (by simp) (by simp) (by rfl) (by simp [formsX, List.range_succ, zbk, zbx]), _, ?_, off2, zs2, o2, rfl, ?_, rfl⟩
              ·omega
              ·first | exact zt9 (zz5 hb (by omega)) (zjv hc3) | (rw [List.take_of_length_le (by omega)] at hb2; exact zt9 hb2 (zh7 hc3))
     ·try simp [zbb, zba, zbf, zbe, zbp, zbq] at hc2
      all_goals
       refine zce ?_
       refine zb3 ?_
       refine AW_x rfl rfl fun K hK => ?_
       simp (disch := omega) [zbd, gE, tP, DtInst.cells, DtCmd.cells, DtId.cells, zbc, zbh, and_assoc, zb9]
       repeat' first | (exfalso; omega) | (refine zn2 [501] true [] (sortIds o (by omega)) ?_ ?_ ?_; (focus (simp [List.range_succ, nmC]; done)); (focus (simp (disch := omega) [zbd, gE, tP, DtInst.cells, DtCmd.cells, DtId.cells, zbc, zbh, and_assoc, zb9, zbc]; done)); simp (disch := omega) [zbd, gE, tP, DtInst.cells, DtCmd.cells, DtId.cells, zbc, zbh, and_assoc, zb9]) | (refine ⟨fun _ => ?_, fun _ => ?_⟩) | (refine ⟨by omega, ?_⟩) | (simp (disch := omega) [zbd, gE, tP, DtInst.cells, DtCmd.cells, DtId.cells, zbc, zbh, and_assoc, zb9]) | (intro _)
       all_goals (refine hK _ ?_; clear hK K)
       all_goals
        refine AW_x rfl rfl fun K hK => ?_
        simp (disch := omega) [zbd, gE, tP, DtInst.cells, DtCmd.cells, DtId.cells, zbc, zbh, and_assoc, zb9]
        repeat' first | (refine ⟨by omega, ?_⟩) | (intro _)
        refine hK _ ?_; clear hK K
        refine zbz (zhc [501] [] (by simp [List.range_succ, zbk, zbx, zbn]) (by simp) ?_)
        simp (disch := omega) [zbd, gE, tP, DtInst.cells, DtCmd.cells, DtId.cells, zbc, zbh, and_assoc, zb9, hpb]
        all_goals first | (exfalso; exact absurd hp (by assumption)) | (have he := zq6 hp hb (by omega); have hl2 := zlv cmpI o; rw [he] at hl2; rw [he]; exact ⟨hl2, rfl⟩) | trace_state
end Go.Proofs.Ytfbmhgiokfpgiaa.Vs
