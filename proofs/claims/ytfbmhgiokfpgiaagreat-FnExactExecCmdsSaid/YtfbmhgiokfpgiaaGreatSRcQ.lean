import Derived.Test.YtfbmhgiokfpgiaaGreatSWaQ
import Derived.Test.YtfbmhgiokfpgiaaGreatVs9
import Derived.Test.YtfbmhgiokfpgiaaGreatSSqQ
open Go Go.Proofs Go.Proofs.YtfbmhgiokfpgiaaGreat.Vs
namespace Go.Proofs.YtfbmhgiokfpgiaaGreat.Vs
set_option linter.all false
section
variable {P : Program} {nt : Nat} {fs : List Nat} {Q : AExit → St → Prop} {st : St}
theorem AW_xa2e {id : Nat} {l : List Oper} (k : Nat) {cs cs2 : List CO} {dst : Option Nat} {cl : Call} (hc : cosOf l.toArray l = some cs) (hk : cs.drop k = ⟨dst, .call cl, none⟩ :: cs2) (hb : cl.callee = .builtin .append) (hd : dstOk nt l.toArray = true)
 (h : ∀ K : St → Prop, (∀ s, Q .normal s → K s) → xreg P (cs.take k) st fun s => appT P s dst cl cs2 K) : AW P nt fs (.region id l.toArray false) Q st :=
 AW_xae (cs.take k) (by rw [← hk, List.take_append_drop]; exact hc) hb hd h
end
set_option linter.unusedSimpArgs false
set_option linter.unusedVariables false
set_option maxRecDepth 100000
theorem zbe (l : List DtId) : scR (l.map DtId.cells) = true := zpa _ (fun _ => rfl) l
theorem zd7 (l : List DtId) (n : Nat) : scR ((l.map DtId.cells).drop n) = true := by rw [← List.map_drop]; exact zbe _
theorem zcc (q : Bool) (st : St) (hs Z : List Nat) (g g' : FuncId) : ax2 q st hs Z (.fn g [] []) (.fn g' [] []) = (g' = g) := by
 apply propext
 constructor
 ·intro h; first | exact h.1 | exact h.1.symm | (simp [ax2, ax1, ax0] at h; simp_all)
 ·rintro rfl; first | exact ⟨rfl, rfl, rfl⟩ | (simp [ax2, ax1, ax0]; done)
theorem zjp {l : List DtInst} {id : DtId} (h : (instAt l id).fStatus = 3) : depsL l id = (instAt l id).fDeps := by unfold depsL; rw [if_pos h]
theorem zry (l : List DtInst) (id : DtId) (hs : szS DtInst.sz l ≤ 1048576) (hn : l.length ≤ 1048576) (hm : ∀ x ∈ l, InstSm x) (hp : InstsP l) : XCall Tryz.prog 68 [.sl 16 (l.map DtInst.cells), .agg (DtId.cells id)] [] (.arr 16 0 (reachL l id).length) [] [.own 2 ((reachL l id).map DtId.cells)] := by
 have hpb := zcu hp
 refine zcg Tryz.func68 (by rfl) (by rfl) (by rw [Tryz.ntmps68]; exact Nat.le_of_ble_eq_true rfl) rfl (by simp) rfl rfl ?_
 rw [Tryz.ntmps68]
 refine zfb   ?_
 refine AW_k [(0, _), (1, _)] ⟨rfl, rfl, trivial⟩ ?_
 refine AW_x rfl rfl fun K hK => ?_
 simp (disch := omega) [zbd, gE, tP, DtInst.cells, DtCmd.cells, DtId.cells, zba, zbe, and_assoc, zcc]
 repeat' first | (refine ⟨by omega, ?_⟩) | (intro _)
 refine hK _ ?_; clear hK K
 refine zbr ?_
 refine AW_x rfl rfl fun K hK => ?_
 simp (disch := omega) [zbd, gE, tP, DtInst.cells, DtCmd.cells, DtId.cells, zba, zbe, and_assoc, zcc]
 repeat' first | (exfalso; omega) | (refine zde (zbh zce zbs) (zdq _ (by assumption)) rfl ?_; simp (disch := omega) [zbd, gE, tP, DtInst.cells, DtCmd.cells, DtId.cells, zba, zbe, and_assoc, zcc]) | (refine zdf (zdq _ (by assumption)) (by rfl) ?_ ?_; (focus (simp (disch := omega) [zbd, gE, tP, DtInst.cells, DtCmd.cells, DtId.cells, zba, zbe, and_assoc, zcc, zba]; done)); simp (disch := omega) [zbd, gE, tP, DtInst.cells, DtCmd.cells, DtId.cells, zba, zbe, and_assoc, zcc]) | (refine ⟨by omega, ?_⟩) | (simp (disch := omega) [zbd, gE, tP, DtInst.cells, DtCmd.cells, DtId.cells, zba, zbe, and_assoc, zcc]) | (intro _)
 refine hK _ ?_; clear hK K
 refine zbu rfl (fun hc1 => ?_) (fun hc1 => ?_)
 ·try simp [zbc, zbb, zbg, zbf, zbq, zbt] at hc1
  all_goals
   refine AW_x rfl rfl fun K hK => ?_
   simp (disch := omega) [zbd, gE, tP, DtInst.cells, DtCmd.cells, DtId.cells, zba, zbe, and_assoc, zcc]
   repeat' first | (exfalso; omega) | (refine ⟨fun _ => ?_, fun _ => ?_⟩) | (refine ⟨by omega, ?_⟩) | (simp (disch := omega) [zbd, gE, tP, DtInst.cells, DtCmd.cells, DtId.cells, zba, zbe, and_assoc, zcc]) | (intro _)
   all_goals (refine hK _ ?_; clear hK K)
   all_goals
    refine zby (zdm [224] [] (by simp [List.range_succ, zbi, zbp, zbl]) (by simp) ?_)
    simp (disch := omega) [zbd, gE, tP, DtInst.cells, DtCmd.cells, DtId.cells, zba, zbe, and_assoc, zcc, hpb]
    all_goals first | (exfalso; exact absurd hp (by assumption)) | (have he := zrx hp hb (by omega); have hl2 := zml cmpI o; rw [he] at hl2; rw [he]; exact ⟨hl2, rfl⟩) | trace_state
 ·try simp [zbc, zbb, zbg, zbf, zbq, zbt] at hc1
  all_goals
   refine zbv ?_
   refine zb4 ?_
   refine AW_x rfl rfl fun K hK => ?_
   simp (disch := omega) [zbd, gE, tP, DtInst.cells, DtCmd.cells, DtId.cells, zba, zbe, and_assoc, zcc]
   repeat' first | (exfalso; omega) | (refine ⟨fun _ => ?_, fun _ => ?_⟩) | (refine ⟨by omega, ?_⟩) | (simp (disch := omega) [zbd, gE, tP, DtInst.cells, DtCmd.cells, DtId.cells, zba, zbe, and_assoc, zcc]) | (intro _)
   all_goals (refine hK _ ?_; clear hK K)
   all_goals
    refine AW_x rfl rfl fun K hK => ?_
    simp (disch := omega) [zbd, gE, tP, DtInst.cells, DtCmd.cells, DtId.cells, zba, zbe, and_assoc, zcc]
    repeat' first | (refine ⟨by omega, ?_⟩) | (simp (disch := omega) [zbd, gE, tP, DtInst.cells, DtCmd.cells, DtId.cells, zba, zbe, and_assoc, zcc]) | (intro _)
    refine hK _ ?_; clear hK K
    refine zbr ?_
    refine zb0 ?_
    refine zcf (fun mM sS => ∃ (off : Nat) (zs : List DtId) (o : List DtId), mM = 2 * (18 - o.length) + (zs.length - off) ∧ (Bf l id none [] off zs o) ∧ sS = { env := lkE [(0, .sl 16 (l.map DtInst.cells)), (3, .ptr 64 0), (5, .arr 501 0 o.length), (6, .arr 502 off (zs.length - off))], ob := lk [(64, .cells (DtId.cells id)), (501, .win 2 (o.map DtId.cells)), (502, .win 2 (zs.map DtId.cells))] }) ?_ ?_
    ·refine ⟨_, LeS.kx [(64, 64), (501, 224), (502, 256)] [(0, .sl 16 (l.map DtInst.cells)), (3, .ptr 64 0), (5, .arr 501 0 ([]).length), (6, .arr 502 (0) (([id]).length - (0)))] [(64, .cells (DtId.cells id)), (501, .win 2 (([]).map DtId.cells)), (502, .win 2 (([id]).map DtId.cells))] (by simp [KpR, renV2, renV, zbl, zb5, zbi, zbp, DtId.cells, zbe, zd7]; try rfl) (by simp [KpOX, renO, plO, cvO, renV, pl1, zbi, zbp, zbl, DtId.cells, zbe, zd7]; try rfl) (by rfl) (by simp) (by simp) (by rfl) (by simp [formsX, List.range_succ, zbi, zbp]), _, 0, [id], [], rfl, ?_, rfl⟩
     ·exact bf_0 l id
    ·rintro mM sS ⟨off, zs, o, rfl, hb, rfl⟩
     have hol := zko hp hb
     have hzl := hb.hz
     have hol2 := hb.ho
     refine zbr ?_
     refine AW_x rfl rfl fun K hK => ?_
     simp (disch := omega) [zbd, gE, tP, DtInst.cells, DtCmd.cells, DtId.cells, zba, zbe, and_assoc, zcc]
     repeat' first | (refine ⟨by omega, ?_⟩) | (simp (disch := omega) [zbd, gE, tP, DtInst.cells, DtCmd.cells, DtId.cells, zba, zbe, and_assoc, zcc]) | (intro _)
     refine hK _ ?_; clear hK K
     refine zbu rfl (fun hc2 => ?_) (fun hc2 => ?_)
     ·try simp [zbc, zbb, zbg, zbf, zbq, zbt] at hc2
      all_goals
       refine zbv ?_
       refine zb4 ?_
       refine zb0 ?_
       refine AW_x rfl rfl fun K hK => ?_
       simp (disch := omega) [zbd, gE, tP, DtInst.cells, DtCmd.cells, DtId.cells, zba, zbe, and_assoc, zcc]
       repeat' first | (exfalso; omega) | (refine zde (zbh zce (zbh (zcb rfl) zbs)) (zfw _ _ (by assumption) (by assumption)) rfl ?_; simp (disch := omega) [zbd, gE, tP, DtInst.cells, DtCmd.cells, DtId.cells, zba, zbe, and_assoc, zcc]) | (refine zdf (zfw _ _ (by assumption) (by assumption)) (by rfl) ?_ ?_; (focus (simp (disch := omega) [zbd, gE, tP, DtInst.cells, DtCmd.cells, DtId.cells, zba, zbe, and_assoc, zcc, zba]; done)); simp (disch := omega) [zbd, gE, tP, DtInst.cells, DtCmd.cells, DtId.cells, zba, zbe, and_assoc, zcc]) | (refine ⟨fun _ => ?_, fun _ => ?_⟩) | (refine ⟨by omega, ?_⟩) | (simp (disch := omega) [zbd, gE, tP, DtInst.cells, DtCmd.cells, DtId.cells, zba, zbe, and_assoc, zcc]) | (intro _)
       all_goals (refine hK _ ?_; clear hK K)
       all_goals
        refine AW_x rfl rfl fun K hK => ?_
        simp (disch := omega) [zbd, gE, tP, DtInst.cells, DtCmd.cells, DtId.cells, zba, zbe, and_assoc, zcc]
        repeat' first | (refine ⟨by omega, ?_⟩) | (intro _)
        refine hK _ ?_; clear hK K
        refine zbr ?_
        refine AW_x rfl rfl fun K hK => ?_
        simp (disch := omega) [zbd, gE, tP, DtInst.cells, DtCmd.cells, DtId.cells, zba, zbe, and_assoc, zcc]
        repeat' first | (refine ⟨by omega, ?_⟩) | (intro _)
        refine hK _ ?_; clear hK K
        refine zbu rfl (fun hc3 => ?_) (fun hc3 => ?_)
        ·try simp [zbc, zbb, zbg, zbf, zbq, zbt] at hc3
         all_goals
          refine zch ?_
          refine ⟨_, LeS.kx [(64, 64), (501, 501), (502, 502)] [(0, .sl 16 (l.map DtInst.cells)), (3, .ptr 64 0), (5, .arr 501 0 (o).length), (6, .arr 502 (off + 1) ((zs).length - (off + 1)))] [(64, .cells (DtId.cells id)), (501, .win 2 ((o).map DtId.cells)), (502, .win 2 ((zs).map DtId.cells))] (by simp [KpR, renV2, renV, zbl, zb5, zbi, zbp, DtId.cells, zbe, zd7]; try rfl) (by simp [KpOX, renO, plO, cvO, renV, pl1, zbi, zbp, zbl, DtId.cells, zbe, zd7]; try rfl) (by rfl) (by simp) (by simp) (by rfl) (by simp [formsX, List.range_succ, zbi, zbp]), _, ?_, off + 1, zs, o, rfl, ?_, rfl⟩
          ·omega
          ·first | exact zv5 (bf_pop hb (by omega)) (zke hc3) | (rw [List.take_of_length_le (by omega)] at hb2; exact zv5 hb2 (zjp hc3))
        ·try simp [zbc, zbb, zbg, zbf, zbq, zbt] at hc3
         all_goals
          refine zbv ?_
          refine zb4 ?_
          refine AW_x rfl rfl fun K hK => ?_
          simp (disch := omega) [zbd, gE, tP, DtInst.cells, DtCmd.cells, DtId.cells, zba, zbe, and_assoc, zcc]
          repeat' first | (exfalso; omega) | (refine ⟨fun _ => ?_, fun _ => ?_⟩) | (refine ⟨by omega, ?_⟩) | (simp (disch := omega) [zbd, gE, tP, DtInst.cells, DtCmd.cells, DtId.cells, zba, zbe, and_assoc, zcc]) | (intro _)
          all_goals (refine hK _ ?_; clear hK K)
          all_goals
           refine zb0 ?_
           refine zcf (fun mM sS => ∃ (i : Nat) (off2 : Nat) (zs2 : List DtId) (o2 : List DtId), mM = (instAt l zs[off]).fDeps.length - i ∧ (i ≤ (instAt l zs[off]).fDeps.length ∧ Bf l id (some zs[off]) ((instAt l zs[off]).fDeps.take i) off2 zs2 o2 ∧ 2 * (18 - o2.length) + (zs2.length - off2) < 2 * (18 - o.length) + (zs.length - off)) ∧ sS = { env := lkE [(0, .sl 16 (l.map DtInst.cells)), (3, .ptr 64 0), (5, .arr 501 0 o2.length), (6, .arr 502 off2 (zs2.length - off2)), (30, .sl 2 ((instAt l zs[off]).fDeps.map DtId.cells)), (31, (.g (.int .i64 (((instAt l zs[off]).fDeps.length : Nat))))), (32, (.g (.int .i64 ((i : Nat)))))], ob := lk [(64, .cells (DtId.cells id)), (501, .win 2 (o2.map DtId.cells)), (502, .win 2 (zs2.map DtId.cells))] }) ?_ ?_
           ·refine ⟨_, LeS.kx [(64, 64), (501, 501), (502, 502)] [(0, .sl 16 (l.map DtInst.cells)), (3, .ptr 64 0), (5, .arr 501 0 (o).length), (6, .arr 502 (off + 1) ((zs).length - (off + 1))), (30, .sl 2 ((instAt l zs[off]).fDeps.map DtId.cells)), (31, (.g (.int .i64 (((instAt l zs[off]).fDeps.length : Nat))))), (32, (.g (.int .i64 (((0) : Nat)))))] [(64, .cells (DtId.cells id)), (501, .win 2 ((o).map DtId.cells)), (502, .win 2 ((zs).map DtId.cells))] (by simp [KpR, renV2, renV, zbl, zb5, zbi, zbp, DtId.cells, zbe, zd7]; try omega) (by simp [KpOX, renO, plO, cvO, renV, pl1, zbi, zbp, zbl, DtId.cells, zbe, zd7]; try (simp [List.map_drop, List.take_of_length_le, DtId.cells]; try rfl)) (by rfl) (by simp) (by simp) (by rfl) (by simp [formsX, List.range_succ, zbi, zbp]), _, 0, off + 1, zs, o, rfl, ?_, rfl⟩
            ·exact ⟨by simp, bf_pop hb (by omega), by omega⟩
           ·rintro mM sS ⟨i, off2, zs2, o2, rfl, ⟨hi, hb2, hme⟩, rfl⟩
            have hol3 := zko hp hb2
            have hdl := zcy hp zs[off]
            rw [zjp hc3] at hdl
            have hzl3 := hb2.hz
            have hol4 := hb2.ho
            refine AW_x rfl rfl fun K hK => ?_
            simp (disch := omega) [zbd, gE, tP, DtInst.cells, DtCmd.cells, DtId.cells, zba, zbe, and_assoc, zcc]
            repeat' first | (refine ⟨by omega, ?_⟩) | (intro _)
            refine hK _ ?_; clear hK K
            refine zbr ?_
            refine zbu rfl (fun hc4 => ?_) (fun hc4 => ?_)
            ·try simp [zbc, zbb, zbg, zbf, zbq, zbt] at hc4
             all_goals
              have hdm : (instAt l zs[off]).fDeps[i] ∈ depsL l zs[off] := by rw [zjp hc3]; exact List.getElem_mem _
              have hts := List.take_succ_eq_append_getElem (show i < (instAt l zs[off]).fDeps.length by omega)
              refine zbv ?_
              refine zb4 ?_
              refine zbr ?_
              refine zb0 ?_
              refine AW_x rfl rfl fun K hK => ?_
              simp (disch := omega) [zbd, gE, tP, DtInst.cells, DtCmd.cells, DtId.cells, zba, zbe, and_assoc, zcc]
              repeat' first | (exfalso; omega) | (refine ⟨fun _ => ?_, fun _ => ?_⟩) | (refine ⟨by omega, ?_⟩) | (simp (disch := omega) [zbd, gE, tP, DtInst.cells, DtCmd.cells, DtId.cells, zba, zbe, and_assoc, zcc]) | (intro _)
              all_goals (refine hK _ ?_; clear hK K)
              all_goals
               refine AW_x rfl rfl fun K hK => ?_
               simp (disch := omega) [zbd, gE, tP, DtInst.cells, DtCmd.cells, DtId.cells, zba, zbe, and_assoc, zcc]
               repeat' first | (exfalso; omega) | (refine zde (zbh zce (zbh (zcb rfl) zbs)) (zd2 o2 (instAt l zs[off]).fDeps[i] (by omega)) rfl ?_; simp (disch := omega) [zbd, gE, tP, DtInst.cells, DtCmd.cells, DtId.cells, zba, zbe, and_assoc, zcc]) | (refine zdf (zd2 o2 (instAt l zs[off]).fDeps[i] (by omega)) (by rfl) ?_ ?_; (focus (simp (disch := omega) [zbd, gE, tP, DtInst.cells, DtCmd.cells, DtId.cells, zba, zbe, and_assoc, zcc, zba]; done)); simp (disch := omega) [zbd, gE, tP, DtInst.cells, DtCmd.cells, DtId.cells, zba, zbe, and_assoc, zcc]) | (refine ⟨by omega, ?_⟩) | (simp (disch := omega) [zbd, gE, tP, DtInst.cells, DtCmd.cells, DtId.cells, zba, zbe, and_assoc, zcc]) | (intro _)
               refine hK _ ?_; clear hK K
               refine zbu rfl (fun hc5 => ?_) (fun hc5 => ?_)
               ·try simp [zbc, zbb, zbg, zbf, zbq, zbt] at hc5
                all_goals
                 refine AW_x rfl rfl fun K hK => ?_
                 simp (disch := omega) [zbd, gE, tP, DtInst.cells, DtCmd.cells, DtId.cells, zba, zbe, and_assoc, zcc]
                 repeat' first | (exfalso; omega) | (refine ⟨fun _ => ?_, fun _ => ?_⟩) | (refine ⟨by omega, ?_⟩) | (simp (disch := omega) [zbd, gE, tP, DtInst.cells, DtCmd.cells, DtId.cells, zba, zbe, and_assoc, zcc]) | (intro _)
                 all_goals (refine hK _ ?_; clear hK K)
                 all_goals
                  refine AW_xa2e 3 rfl rfl rfl rfl fun K hK => ?_
                  simp (disch := omega) [zbd, gE, tP, DtInst.cells, DtCmd.cells, DtId.cells, zba, zbe, and_assoc, zcc, appT, aAppG, List.take_succ_cons, List.take_zero]
                  repeat' first | (exfalso; omega) | (refine ⟨fun _ => ?_, fun _ => ?_⟩) | (refine ⟨by omega, ?_⟩) | (simp (disch := omega) [zbd, gE, tP, DtInst.cells, DtCmd.cells, DtId.cells, zba, zbe, and_assoc, zcc, appT, aAppG, List.take_succ_cons, List.take_zero]) | (refine ⟨?_, ?_⟩) | (intro _)
                  all_goals (refine hK _ ?_; clear hK K)
                  ·skip
                   refine zb4 ?_
                   refine zdd rfl rfl fun K hK => ?_
                   simp (disch := omega) [zbd, gE, tP, DtInst.cells, DtCmd.cells, DtId.cells, zba, zbe, and_assoc, zcc]
                   repeat' first | (refine ⟨by omega, ?_⟩) | (intro _)
                   refine hK _ ?_; clear hK K
                   refine ⟨_, LeS.kx [(64, 64), (501, 704), (502, 768)] [(0, .sl 16 (l.map DtInst.cells)), (3, .ptr 64 0), (5, .arr 501 0 (o2 ++ [(instAt l zs[off]).fDeps[i]]).length), (6, .arr 502 (off2) ((zs2 ++ [(instAt l zs[off]).fDeps[i]]).length - (off2))), (30, .sl 2 ((instAt l zs[off]).fDeps.map DtId.cells)), (31, (.g (.int .i64 (((instAt l zs[off]).fDeps.length : Nat))))), (32, (.g (.int .i64 (((i + 1) : Nat)))))] [(64, .cells (DtId.cells id)), (501, .win 2 ((o2 ++ [(instAt l zs[off]).fDeps[i]]).map DtId.cells)), (502, .win 2 ((zs2 ++ [(instAt l zs[off]).fDeps[i]]).map DtId.cells))] (by simp [KpR, renV2, renV, zbl, zb5, zbi, zbp, DtId.cells, zbe, zd7]; try (first | omega | (simp (disch := omega) [zbd]; omega))) (by simp [KpOX, renO, plO, cvO, renV, pl1, zbi, zbp, zbl, DtId.cells, zbe, zd7]; try (simp [List.map_drop, List.take_of_length_le, DtId.cells]; try rfl)) (by rfl) (by simp) (by simp) (by rfl) (by simp [formsX, List.range_succ, zbi, zbp]), _, ?_, i + 1, off2, zs2 ++ [(instAt l zs[off]).fDeps[i]], o2 ++ [(instAt l zs[off]).fDeps[i]], rfl, ?_, rfl⟩
                   ·omega
                   ·first | (have hnw := ztu hb2 (by assumption); rw [← hts] at hnw; exact ⟨by omega, hnw, by omega⟩) | (have hnw := ztv hb2 (by assumption) hdm; have hlw := zko hp hnw; rw [← hts] at hnw; refine ⟨by omega, hnw, ?_⟩; simp at hlw ⊢; omega) | (have hnw := ztw hb2 (by assumption) hdm; have hlw := zko hp hnw; rw [← hts] at hnw; refine ⟨by omega, hnw, ?_⟩; simp at hlw ⊢; omega)
                  ·skip
                   refine zb4 ?_
                   refine zdd rfl rfl fun K hK => ?_
                   simp (disch := omega) [zbd, gE, tP, DtInst.cells, DtCmd.cells, DtId.cells, zba, zbe, and_assoc, zcc]
                   repeat' first | (refine ⟨by omega, ?_⟩) | (intro _)
                   refine hK _ ?_; clear hK K
                   refine ⟨_, LeS.kx [(64, 64), (501, 704), (502, 768)] [(0, .sl 16 (l.map DtInst.cells)), (3, .ptr 64 0), (5, .arr 501 0 (o2 ++ [(instAt l zs[off]).fDeps[i]]).length), (6, .arr 502 (0) ((zs2.drop off2 ++ [(instAt l zs[off]).fDeps[i]]).length - (0))), (30, .sl 2 ((instAt l zs[off]).fDeps.map DtId.cells)), (31, (.g (.int .i64 (((instAt l zs[off]).fDeps.length : Nat))))), (32, (.g (.int .i64 (((i + 1) : Nat)))))] [(64, .cells (DtId.cells id)), (501, .win 2 ((o2 ++ [(instAt l zs[off]).fDeps[i]]).map DtId.cells)), (502, .win 2 ((zs2.drop off2 ++ [(instAt l zs[off]).fDeps[i]]).map DtId.cells))] (by simp [KpR, renV2, renV, zbl, zb5, zbi, zbp, DtId.cells, zbe, zd7]; try (first | omega | (simp (disch := omega) [zbd]; omega))) (by simp [KpOX, renO, plO, cvO, renV, pl1, zbi, zbp, zbl, DtId.cells, zbe, zd7]; try (simp [List.map_drop, List.take_of_length_le, DtId.cells]; try rfl)) (by rfl) (by simp) (by simp) (by rfl) (by simp [formsX, List.range_succ, zbi, zbp]), _, ?_, i + 1, 0, zs2.drop off2 ++ [(instAt l zs[off]).fDeps[i]], o2 ++ [(instAt l zs[off]).fDeps[i]], rfl, ?_, rfl⟩
                   ·omega
                   ·first | (have hnw := ztu hb2 (by assumption); rw [← hts] at hnw; exact ⟨by omega, hnw, by omega⟩) | (have hnw := ztv hb2 (by assumption) hdm; have hlw := zko hp hnw; rw [← hts] at hnw; refine ⟨by omega, hnw, ?_⟩; simp at hlw ⊢; omega) | (have hnw := ztw hb2 (by assumption) hdm; have hlw := zko hp hnw; rw [← hts] at hnw; refine ⟨by omega, hnw, ?_⟩; simp at hlw ⊢; omega)
               ·try simp [zbc, zbb, zbg, zbf, zbq, zbt] at hc5
                all_goals
                 refine zbv ?_
                 refine zb4 ?_
                 refine zdd rfl rfl fun K hK => ?_
                 simp (disch := omega) [zbd, gE, tP, DtInst.cells, DtCmd.cells, DtId.cells, zba, zbe, and_assoc, zcc]
                 repeat' first | (exfalso; omega) | (refine ⟨fun _ => ?_, fun _ => ?_⟩) | (refine ⟨by omega, ?_⟩) | (simp (disch := omega) [zbd, gE, tP, DtInst.cells, DtCmd.cells, DtId.cells, zba, zbe, and_assoc, zcc]) | (intro _)
                 all_goals (refine hK _ ?_; clear hK K)
                 all_goals
                  refine ⟨_, LeS.kx [(64, 64), (501, 501), (502, 502)] [(0, .sl 16 (l.map DtInst.cells)), (3, .ptr 64 0), (5, .arr 501 0 (o2).length), (6, .arr 502 (off2) ((zs2).length - (off2))), (30, .sl 2 ((instAt l zs[off]).fDeps.map DtId.cells)), (31, (.g (.int .i64 (((instAt l zs[off]).fDeps.length : Nat))))), (32, (.g (.int .i64 (((i + 1) : Nat)))))] [(64, .cells (DtId.cells id)), (501, .win 2 ((o2).map DtId.cells)), (502, .win 2 ((zs2).map DtId.cells))] (by simp [KpR, renV2, renV, zbl, zb5, zbi, zbp, DtId.cells, zbe, zd7]; try (first | omega | (simp (disch := omega) [zbd]; omega))) (by simp [KpOX, renO, plO, cvO, renV, pl1, zbi, zbp, zbl, DtId.cells, zbe, zd7]; try (simp [List.map_drop, List.take_of_length_le, DtId.cells]; try rfl)) (by rfl) (by simp) (by simp) (by rfl) (by simp [formsX, List.range_succ, zbi, zbp]), _, ?_, i + 1, off2, zs2, o2, rfl, ?_, rfl⟩
                  ·omega
                  ·first | (have hnw := ztu hb2 (by assumption); rw [← hts] at hnw; exact ⟨by omega, hnw, by omega⟩) | (have hnw := ztv hb2 (by assumption) hdm; have hlw := zko hp hnw; rw [← hts] at hnw; refine ⟨by omega, hnw, ?_⟩; simp at hlw ⊢; omega) | (have hnw := ztw hb2 (by assumption) hdm; have hlw := zko hp hnw; rw [← hts] at hnw; refine ⟨by omega, hnw, ?_⟩; simp at hlw ⊢; omega)
            ·try simp [zbc, zbb, zbg, zbf, zbq, zbt] at hc4
             all_goals
              refine zch ?_
              refine ⟨_, LeS.kx [(64, 64), (501, 501), (502, 502)] [(0, .sl 16 (l.map DtInst.cells)), (3, .ptr 64 0), (5, .arr 501 0 (o2).length), (6, .arr 502 (off2) ((zs2).length - (off2)))] [(64, .cells (DtId.cells id)), (501, .win 2 ((o2).map DtId.cells)), (502, .win 2 ((zs2).map DtId.cells))] (by simp [KpR, renV2, renV, zbl, zb5, zbi, zbp, DtId.cells, zbe, zd7]; try rfl) (by simp [KpOX, renO, plO, cvO, renV, pl1, zbi, zbp, zbl, DtId.cells, zbe, zd7]; try rfl) (by rfl) (by simp) (by simp) (by rfl) (by simp [formsX, List.range_succ, zbi, zbp]), _, ?_, off2, zs2, o2, rfl, ?_, rfl⟩
              ·omega
              ·first | exact zv5 (bf_pop hb (by omega)) (zke hc3) | (rw [List.take_of_length_le (by omega)] at hb2; exact zv5 hb2 (zjp hc3))
     ·try simp [zbc, zbb, zbg, zbf, zbq, zbt] at hc2
      all_goals
       refine zch ?_
       refine zb4 ?_
       refine AW_x rfl rfl fun K hK => ?_
       simp (disch := omega) [zbd, gE, tP, DtInst.cells, DtCmd.cells, DtId.cells, zba, zbe, and_assoc, zcc]
       repeat' first | (exfalso; omega) | (refine zfs [501] true [] (sortIds o (by omega)) ?_ ?_ ?_; (focus (simp [List.range_succ, nmC]; done)); (focus (simp (disch := omega) [zbd, gE, tP, DtInst.cells, DtCmd.cells, DtId.cells, zba, zbe, and_assoc, zcc, zba]; done)); simp (disch := omega) [zbd, gE, tP, DtInst.cells, DtCmd.cells, DtId.cells, zba, zbe, and_assoc, zcc]) | (refine ⟨fun _ => ?_, fun _ => ?_⟩) | (refine ⟨by omega, ?_⟩) | (simp (disch := omega) [zbd, gE, tP, DtInst.cells, DtCmd.cells, DtId.cells, zba, zbe, and_assoc, zcc]) | (intro _)
       all_goals (refine hK _ ?_; clear hK K)
       all_goals
        refine AW_x rfl rfl fun K hK => ?_
        simp (disch := omega) [zbd, gE, tP, DtInst.cells, DtCmd.cells, DtId.cells, zba, zbe, and_assoc, zcc]
        repeat' first | (refine ⟨by omega, ?_⟩) | (intro _)
        refine hK _ ?_; clear hK K
        refine zby (zdm [501] [] (by simp [List.range_succ, zbi, zbp, zbl]) (by simp) ?_)
        simp (disch := omega) [zbd, gE, tP, DtInst.cells, DtCmd.cells, DtId.cells, zba, zbe, and_assoc, zcc, hpb]
        all_goals first | (exfalso; exact absurd hp (by assumption)) | (have he := zrx hp hb (by omega); have hl2 := zml cmpI o; rw [he] at hl2; rw [he]; exact ⟨hl2, rfl⟩) | trace_state
end Go.Proofs.YtfbmhgiokfpgiaaGreat.Vs
