import Derived.Test.YtmheohnbkaoipaaGreatSScQ
open Go Go.Proofs Go.Proofs.YtmheohnbkaoipaaGreat.Vs
namespace Go.Proofs.YtmheohnbkaoipaaGreat.Vs
set_option linter.all false
set_option linter.unusedSimpArgs false
set_option linter.unusedVariables false
set_option maxRecDepth 100000
set_option maxHeartbeats 1000000
theorem dB_t {p : Prop} (h : decB p = true) : p := by rwa [zba] at h
theorem dB_f {p : Prop} (h : decB p = false) : ¬ p := by rwa [zbb] at h
theorem nam_at (l : List DtCSet) (i : Nat) (h : i < l.length) (hb : (spc (namL l)).length ≤ 1073741824) : spc ((namL l).take (i + 1)) = (if i = 0 then [] else spc ((namL l).take i) ++ [32]) ++ l[i].fName ∧ (spc ((namL l).take i)).length + l[i].fName.length + 1 ≤ 1073741825 := by
 have hl : i < (namL l).length := by simpa [namL] using h
 have e : (namL l)[i] = l[i].fName := by simp [namL]
 have h1 := zkp (namL l) i hl
 have h2 := (zvh (namL l) i hl hb).1
 rw [e] at h2
 refine ⟨?_, by omega⟩
 rw [h1, e]
 split <;> simp
attribute [local simp] DtCatalog.cells DtCmd.cells DtCSet.cells zbp and_assoc zcm len0
theorem specCatDo (c : DtCatalog) (m : DtCmd) (hs : DtCatalog.sz c ≤ 1048576) (hm : DtCmd.sz m ≤ 1048576) (hch : m.fChunks.length ≤ 1048576) : XCall Tryz.prog 21 [.agg (DtCatalog.cells c), .agg (DtCmd.cells m)] [] (.tup [.agg [.arr 16 0 (catS c m).length], .s (catR c m)]) [] [.own 2 ((catS c m).map DtCSet.cells)] := by
 have hB := zpf c hs
 have hB1 := hB.1
 refine zbx Tryz.func21 (by rfl) (by rfl) (by rw [Tryz.ntmps21]; exact Nat.le_of_ble_eq_true rfl) rfl (by simp) rfl rfl ?_
 rw [Tryz.ntmps21]
 refine zf1   ?_
 refine AW_k [(0, _), (1, _)] ⟨rfl, rfl, trivial⟩ ?_
 refine AW_x rfl rfl fun K hK => ?_
 simp (disch := omega)
 repeat' first | (refine ⟨by omega, ?_⟩) | (intro _)
 refine hK _ ?_; clear hK K
 refine zbm ?_
 refine AW_x rfl rfl fun K hK => ?_
 simp (disch := omega)
 repeat' first | (exfalso; omega) | (refine zdq (zbh (zbz rfl) zbs) (zlz c (by omega)) rfl ?_; simp (disch := omega)) | (refine zdr (zlz c (by omega)) (by rfl) ?_ ?_; (focus (simp (disch := omega) [zbp]; done)); simp (disch := omega)) | (refine ⟨by omega, ?_⟩) | (simp (disch := omega)) | (intro _)
 refine hK _ ?_; clear hK K
 refine zbl rfl (fun hc1 => ?_) (fun hc1 => ?_)
 ·try simp [zba, zbb, zbf, zbd] at hc1
  all_goals
   refine AW_x rfl rfl fun K hK => ?_
   simp (disch := omega)
   repeat' first | (exfalso; omega) | (refine ⟨fun _ => ?_, fun _ => ?_⟩) | (refine ⟨by omega, ?_⟩) | (simp (disch := omega)) | (intro _)
   all_goals (refine hK _ ?_; clear hK K)
   all_goals
    refine zbo (zcc [1000] [(1000, 2)] (by simp [List.range_succ, zbc, zbj, zbe]) (by simp) ?_)
    simp (disch := omega)
    all_goals first | (have ⟨h1, h2⟩ := zpl hc1 (m := m); exact ⟨h1, h2, h1⟩) | (have ⟨h1, h2⟩ := zpm hc1 (dB_f ‹decB (CmdP m) = false›); rw [h1, h2]; exact ⟨rfl, rfl, rfl⟩) | (have ⟨h1, h2⟩ := zpn hc1 (dB_t ‹decB (CmdP m) = true›) hc2; rw [h1, h2]; exact ⟨rfl, rfl, rfl⟩) | (have ⟨h1, h2⟩ := zpo hc1 (dB_t ‹decB (CmdP m) = true›) hc3; rw [h1, h2]; exact ⟨rfl, rfl, rfl⟩) | (have ⟨h1, h2⟩ := zpp hc1 (dB_t ‹decB (CmdP m) = true›) hc4; rw [h1, h2, htf]; exact ⟨rfl, rfl, rfl⟩) | (have ⟨h1, h2⟩ := zpq hc1 (dB_t ‹decB (CmdP m) = true›) hc2 hc3 hc4 hc7; rw [h1, h2]; exact ⟨rfl, rfl, rfl⟩) | (rw [hS, hR]; exact ⟨rfl, rfl, rfl⟩) | trace_state
 ·try simp [zba, zbb, zbf, zbd] at hc1
  all_goals
   refine zbn ?_
   refine zbq ?_
   obtain ⟨hb1, hb2, hb3, hb4⟩ := catP_bd hc1
   refine AW_x rfl rfl fun K hK => ?_
   simp (disch := omega)
   repeat' first | (exfalso; omega) | (refine zdm [] true [] (zvf c hB) ?_ ?_ ?_; (focus (simp [List.range_succ, nmC]; done)); (focus (simp (disch := omega) [zbp]; done)); simp (disch := omega)) | (refine ⟨fun _ => ?_, fun _ => ?_⟩) | (refine ⟨by omega, ?_⟩) | (simp (disch := omega)) | (intro _)
   all_goals (refine hK _ ?_; clear hK K)
   all_goals
    refine zbm ?_
    refine AW_x rfl rfl fun K hK => ?_
    simp (disch := omega)
    repeat' first | (exfalso; omega) | (refine zdq (zbh (zbz rfl) zbs) (zh7 m (by omega)) rfl ?_; simp (disch := omega)) | (refine zdr (zh7 m (by omega)) (by rfl) ?_ ?_; (focus (simp (disch := omega) [zbp]; done)); simp (disch := omega)) | (refine ⟨fun _ => ?_, fun _ => ?_⟩) | (refine ⟨by omega, ?_⟩) | (simp (disch := omega)) | (intro _)
    all_goals (refine hK _ ?_; clear hK K)
    all_goals
     refine zbl rfl (fun hc2 => ?_) (fun hc2 => ?_)
     ·try simp [zba, zbb, zbf, zbd] at hc2
      all_goals
       refine AW_x rfl rfl fun K hK => ?_
       simp (disch := omega)
       repeat' first | (exfalso; omega) | (refine ⟨fun _ => ?_, fun _ => ?_⟩) | (refine ⟨by omega, ?_⟩) | (simp (disch := omega)) | (intro _)
       all_goals (refine hK _ ?_; clear hK K)
       all_goals
        refine zbo (zcc [320] [] (by simp [List.range_succ, zbc, zbj, zbe]) (by simp) ?_)
        simp (disch := omega)
        all_goals first | (have ⟨h1, h2⟩ := zpl hc1 (m := m); exact ⟨h1, h2, h1⟩) | (have ⟨h1, h2⟩ := zpm hc1 (dB_f ‹decB (CmdP m) = false›); rw [h1, h2]; exact ⟨rfl, rfl, rfl⟩) | (have ⟨h1, h2⟩ := zpn hc1 (dB_t ‹decB (CmdP m) = true›) hc2; rw [h1, h2]; exact ⟨rfl, rfl, rfl⟩) | (have ⟨h1, h2⟩ := zpo hc1 (dB_t ‹decB (CmdP m) = true›) hc3; rw [h1, h2]; exact ⟨rfl, rfl, rfl⟩) | (have ⟨h1, h2⟩ := zpp hc1 (dB_t ‹decB (CmdP m) = true›) hc4; rw [h1, h2, htf]; exact ⟨rfl, rfl, rfl⟩) | (have ⟨h1, h2⟩ := zpq hc1 (dB_t ‹decB (CmdP m) = true›) hc2 hc3 hc4 hc7; rw [h1, h2]; exact ⟨rfl, rfl, rfl⟩) | (rw [hS, hR]; exact ⟨rfl, rfl, rfl⟩) | trace_state
     ·try simp [zba, zbb, zbf, zbd] at hc2
      all_goals
       refine zbn ?_
       refine zbq ?_
       refine zbm ?_
       refine AW_x rfl rfl fun K hK => ?_
       simp (disch := omega)
       repeat' first | (exfalso; omega) | (refine ⟨fun _ => ?_, fun _ => ?_⟩) | (refine ⟨by omega, ?_⟩) | (simp (disch := omega)) | (intro _)
       all_goals (refine hK _ ?_; clear hK K)
       all_goals
        refine zbl rfl (fun hc3 => ?_) (fun hc3 => ?_)
        ·try simp [zba, zbb, zbf, zbd] at hc3
         all_goals
          refine AW_x rfl rfl fun K hK => ?_
          simp (disch := omega)
          repeat' first | (exfalso; omega) | (refine zdm [320] true [] (zw0 c.fSets (by omega) (by omega) m.fSet) ?_ ?_ ?_; (focus (simp [List.range_succ, nmC]; done)); (focus (simp (disch := omega) [zbp]; done)); simp (disch := omega)) | (refine ⟨fun _ => ?_, fun _ => ?_⟩) | (refine ⟨by omega, ?_⟩) | (simp (disch := omega)) | (intro _)
          all_goals (refine hK _ ?_; clear hK K)
          all_goals
           refine AW_x rfl rfl fun K hK => ?_
           simp (disch := omega)
           repeat' first | (refine ⟨by omega, ?_⟩) | (simp (disch := omega)) | (intro _)
           refine hK _ ?_; clear hK K
           refine zbo (zcc [592] [] (by simp [List.range_succ, zbc, zbj, zbe]) (by simp) ?_)
           simp (disch := omega)
           all_goals first | (have ⟨h1, h2⟩ := zpl hc1 (m := m); exact ⟨h1, h2, h1⟩) | (have ⟨h1, h2⟩ := zpm hc1 (dB_f ‹decB (CmdP m) = false›); rw [h1, h2]; exact ⟨rfl, rfl, rfl⟩) | (have ⟨h1, h2⟩ := zpn hc1 (dB_t ‹decB (CmdP m) = true›) hc2; rw [h1, h2]; exact ⟨rfl, rfl, rfl⟩) | (have ⟨h1, h2⟩ := zpo hc1 (dB_t ‹decB (CmdP m) = true›) hc3; rw [h1, h2]; exact ⟨rfl, rfl, rfl⟩) | (have ⟨h1, h2⟩ := zpp hc1 (dB_t ‹decB (CmdP m) = true›) hc4; rw [h1, h2, htf]; exact ⟨rfl, rfl, rfl⟩) | (have ⟨h1, h2⟩ := zpq hc1 (dB_t ‹decB (CmdP m) = true›) hc2 hc3 hc4 hc7; rw [h1, h2]; exact ⟨rfl, rfl, rfl⟩) | (rw [hS, hR]; exact ⟨rfl, rfl, rfl⟩) | trace_state
        ·try simp [zba, zbb, zbf, zbd] at hc3
         all_goals
          refine zbn ?_
          refine zbq ?_
          refine zbm ?_
          refine AW_x rfl rfl fun K hK => ?_
          simp (disch := omega)
          repeat' first | (exfalso; omega) | (refine ⟨fun _ => ?_, fun _ => ?_⟩) | (refine ⟨by omega, ?_⟩) | (simp (disch := omega)) | (intro _)
          all_goals (refine hK _ ?_; clear hK K)
          all_goals
           refine zbl rfl (fun hc4 => ?_) (fun hc4 => ?_)
           ·try simp [zba, zbb, zbf, zbd] at hc4
            all_goals
             refine AW_x rfl rfl fun K hK => ?_
             simp (disch := omega)
             repeat' first | (exfalso; omega) | (refine ⟨fun _ => ?_, fun _ => ?_⟩) | (refine ⟨by omega, ?_⟩) | (simp (disch := omega)) | (intro _)
             all_goals (refine hK _ ?_; clear hK K)
             all_goals
              refine zbm ?_
              refine AW_x rfl rfl fun K hK => ?_
              simp (disch := omega)
              repeat' first | (refine ⟨by omega, ?_⟩) | (intro _)
              refine hK _ ?_; clear hK K
              refine zbt ?_
              refine zb5 (fun mM sS => ∃ (i : Nat), mM = c.fSets.length - i ∧ (i ≤ c.fSets.length) ∧ sS = { env := lkE [(3, .ptr 64 0), (4, .ptr 80 0), (6, .ptr 112 0), (9, .s (spc ((namL c.fSets).take i))), (10, (.g (.int .i64 ((i : Nat)))))], ob := lk [(64, .cells (DtCmd.cells m)), (80, .cells [.g (.slice none 0 0)]), (112, .cells [.arr 320 0 c.fSets.length]), (320, .own 2 (c.fSets.map DtCSet.cells))] }) ?_ ?_
              ·refine ⟨_, LeS.kx [(64, 64), (80, 80), (112, 112), (320, 320)] [(3, .ptr 64 0), (4, .ptr 80 0), (6, .ptr 112 0), (9, .s (spc ((namL c.fSets).take (0)))), (10, (.g (.int .i64 (((0) : Nat)))))] [(64, .cells (DtCmd.cells m)), (80, .cells [.g (.slice none 0 0)]), (112, .cells [.arr 320 0 c.fSets.length]), (320, .own 2 (c.fSets.map DtCSet.cells))] (by simp [KpR, renV2, renV, zbe, zbv, zbc, zbj, DtCSet.cells, DtCmd.cells]; all_goals first | rfl | (simp [spc]; done) | (rw [htk]; split <;> first | rfl | (simp [spc]; done) | (subst_vars; simp [spc]; done) | (exfalso; omega) | (simp_all; done)) | trace_state) (by simp [KpOX, renO, plO, cvO, renV, pl1, zbc, zbj, zbe, DtCSet.cells, DtCmd.cells]; try rfl) (by rfl) (by simp) (by simp) (by rfl) (by simp [formsX, List.range_succ, zbc, zbj]), _, 0, rfl, ?_, rfl⟩
               ·simp
              ·rintro mM sS ⟨i, rfl, hi, rfl⟩
               refine zbm ?_
               refine AW_x rfl rfl fun K hK => ?_
               simp (disch := omega)
               repeat' first | (refine ⟨by omega, ?_⟩) | (simp (disch := omega)) | (intro _)
               refine hK _ ?_; clear hK K
               refine zbl rfl (fun hc5 => ?_) (fun hc5 => ?_)
               ·try simp [zba, zbb, zbf, zbd] at hc5
                all_goals
                 have hg : (c.fSets.map DtCSet.cells)[i]? = some (DtCSet.cells (c.fSets[i]'(by omega))) := by rw [List.getElem?_map, List.getElem?_eq_getElem (by omega)]; rfl
                 have ⟨htk, hbd⟩ := nam_at c.fSets i (by omega) hb3
                 refine zbn ?_
                 refine zbq ?_
                 refine zbm ?_
                 refine zbt ?_
                 refine zbm ?_
                 refine AW_x rfl rfl fun K hK => ?_
                 simp (disch := omega)
                 repeat' first | (exfalso; omega) | (refine ⟨fun _ => ?_, fun _ => ?_⟩) | (refine ⟨by omega, ?_⟩) | (simp (disch := omega)) | (intro _)
                 all_goals (refine hK _ ?_; clear hK K)
                 all_goals
                  refine zbl rfl (fun hc6 => ?_) (fun hc6 => ?_)
                  ·try simp [zba, zbb, zbf, zbd] at hc6
                   all_goals
                    refine zcr rfl rfl fun K hK => ?_
                    simp (disch := omega)
                    repeat' first | (exfalso; omega) | (refine ⟨fun _ => ?_, fun _ => ?_⟩) | (refine ⟨by omega, ?_⟩) | (simp (disch := omega)) | (intro _)
                    all_goals (refine hK _ ?_; clear hK K)
                    all_goals
                     refine zbq ?_
                     refine zcr rfl rfl fun K hK => ?_
                     simp (disch := omega)
                     repeat' first | (refine ⟨by omega, ?_⟩) | (intro _)
                     refine hK _ ?_; clear hK K
                     refine zbq ?_
                     refine zcr rfl rfl fun K hK => ?_
                     simp (disch := omega)
                     repeat' first | (refine ⟨by omega, ?_⟩) | (intro _)
                     refine hK _ ?_; clear hK K
                     refine ⟨_, LeS.kx [(64, 64), (80, 80), (112, 112), (320, 320)] [(3, .ptr 64 0), (4, .ptr 80 0), (6, .ptr 112 0), (9, .s (spc ((namL c.fSets).take (i + 1)))), (10, (.g (.int .i64 (((i + 1) : Nat)))))] [(64, .cells (DtCmd.cells m)), (80, .cells [.g (.slice none 0 0)]), (112, .cells [.arr 320 0 c.fSets.length]), (320, .own 2 (c.fSets.map DtCSet.cells))] (by simp [KpR, renV2, renV, zbe, zbv, zbc, zbj, DtCSet.cells, DtCmd.cells]; all_goals first | rfl | (simp [spc]; done) | (rw [htk]; split <;> first | rfl | (simp [spc]; done) | (subst_vars; simp [spc]; done) | (exfalso; omega) | (simp_all; done)) | trace_state) (by simp [KpOX, renO, plO, cvO, renV, pl1, zbc, zbj, zbe, DtCSet.cells, DtCmd.cells]; try rfl) (by rfl) (by simp) (by simp) (by rfl) (by simp [formsX, List.range_succ, zbc, zbj]), _, ?_, i + 1, rfl, ?_, rfl⟩
                     ·omega
                     ·omega
                  ·try simp [zba, zbb, zbf, zbd] at hc6
                   all_goals
                    refine zbn ?_
                    refine zbq ?_
                    refine zcr rfl rfl fun K hK => ?_
                    simp (disch := omega)
                    repeat' first | (exfalso; omega) | (refine ⟨fun _ => ?_, fun _ => ?_⟩) | (refine ⟨by omega, ?_⟩) | (simp (disch := omega)) | (intro _)
                    all_goals (refine hK _ ?_; clear hK K)
                    all_goals
                     refine zbq ?_
                     refine zcr rfl rfl fun K hK => ?_
                     simp (disch := omega)
                     repeat' first | (refine ⟨by omega, ?_⟩) | (intro _)
                     refine hK _ ?_; clear hK K
                     refine ⟨_, LeS.kx [(64, 64), (80, 80), (112, 112), (320, 320)] [(3, .ptr 64 0), (4, .ptr 80 0), (6, .ptr 112 0), (9, .s (spc ((namL c.fSets).take (i + 1)))), (10, (.g (.int .i64 (((i + 1) : Nat)))))] [(64, .cells (DtCmd.cells m)), (80, .cells [.g (.slice none 0 0)]), (112, .cells [.arr 320 0 c.fSets.length]), (320, .own 2 (c.fSets.map DtCSet.cells))] (by simp [KpR, renV2, renV, zbe, zbv, zbc, zbj, DtCSet.cells, DtCmd.cells]; all_goals first | rfl | (simp [spc]; done) | (rw [htk]; split <;> first | rfl | (simp [spc]; done) | (subst_vars; simp [spc]; done) | (exfalso; omega) | (simp_all; done)) | trace_state) (by simp [KpOX, renO, plO, cvO, renV, pl1, zbc, zbj, zbe, DtCSet.cells, DtCmd.cells]; try rfl) (by rfl) (by simp) (by simp) (by rfl) (by simp [formsX, List.range_succ, zbc, zbj]), _, ?_, i + 1, rfl, ?_, rfl⟩
                     ·omega
                     ·omega
               ·try simp [zba, zbb, zbf, zbd] at hc5
                all_goals
                 have htf : (namL c.fSets).take i = namL c.fSets := List.take_of_length_le (by simp [namL]; omega)
                 refine zb7 ?_
                 refine zbq ?_
                 refine AW_x rfl rfl fun K hK => ?_
                 simp (disch := omega)
                 repeat' first | (exfalso; omega) | (refine ⟨fun _ => ?_, fun _ => ?_⟩) | (refine ⟨by omega, ?_⟩) | (simp (disch := omega)) | (intro _)
                 all_goals (refine hK _ ?_; clear hK K)
                 all_goals
                  refine zbo (zcc [320] [] (by simp [List.range_succ, zbc, zbj, zbe]) (by simp) ?_)
                  simp (disch := omega)
                  all_goals first | (have ⟨h1, h2⟩ := zpl hc1 (m := m); exact ⟨h1, h2, h1⟩) | (have ⟨h1, h2⟩ := zpm hc1 (dB_f ‹decB (CmdP m) = false›); rw [h1, h2]; exact ⟨rfl, rfl, rfl⟩) | (have ⟨h1, h2⟩ := zpn hc1 (dB_t ‹decB (CmdP m) = true›) hc2; rw [h1, h2]; exact ⟨rfl, rfl, rfl⟩) | (have ⟨h1, h2⟩ := zpo hc1 (dB_t ‹decB (CmdP m) = true›) hc3; rw [h1, h2]; exact ⟨rfl, rfl, rfl⟩) | (have ⟨h1, h2⟩ := zpp hc1 (dB_t ‹decB (CmdP m) = true›) hc4; rw [h1, h2, htf]; exact ⟨rfl, rfl, rfl⟩) | (have ⟨h1, h2⟩ := zpq hc1 (dB_t ‹decB (CmdP m) = true›) hc2 hc3 hc4 hc7; rw [h1, h2]; exact ⟨rfl, rfl, rfl⟩) | (rw [hS, hR]; exact ⟨rfl, rfl, rfl⟩) | trace_state
           ·try simp [zba, zbb, zbf, zbd] at hc4
            all_goals
             refine zbn ?_
             refine zbq ?_
             refine AW_x rfl rfl fun K hK => ?_
             simp (disch := omega)
             repeat' first | (exfalso; omega) | (refine zdq (zbh (zbz rfl) (zbh zgv zbs)) (l15At c m.fSet (by omega)) rfl ?_; simp (disch := omega)) | (refine zdr (l15At c m.fSet (by omega)) (by rfl) ?_ ?_; (focus (simp (disch := omega) [zbp]; done)); simp (disch := omega)) | (refine ⟨fun _ => ?_, fun _ => ?_⟩) | (refine ⟨by omega, ?_⟩) | (simp (disch := omega)) | (intro _)
             all_goals (refine hK _ ?_; clear hK K)
             all_goals
              refine zbm ?_
              refine AW_x rfl rfl fun K hK => ?_
              simp (disch := omega)
              repeat' first | (refine ⟨by omega, ?_⟩) | (intro _)
              refine hK _ ?_; clear hK K
              refine zbl rfl (fun hc7 => ?_) (fun hc7 => ?_)
              ·try simp [zba, zbb, zbf, zbd] at hc7
               all_goals
                refine AW_x rfl rfl fun K hK => ?_
                simp (disch := omega)
                repeat' first | (exfalso; omega) | (refine ⟨fun _ => ?_, fun _ => ?_⟩) | (refine ⟨by omega, ?_⟩) | (simp (disch := omega)) | (intro _)
                all_goals (refine hK _ ?_; clear hK K)
                all_goals
                 refine zbo (zcc [320] [] (by simp [List.range_succ, zbc, zbj, zbe]) (by simp) ?_)
                 simp (disch := omega)
                 all_goals first | (have ⟨h1, h2⟩ := zpl hc1 (m := m); exact ⟨h1, h2, h1⟩) | (have ⟨h1, h2⟩ := zpm hc1 (dB_f ‹decB (CmdP m) = false›); rw [h1, h2]; exact ⟨rfl, rfl, rfl⟩) | (have ⟨h1, h2⟩ := zpn hc1 (dB_t ‹decB (CmdP m) = true›) hc2; rw [h1, h2]; exact ⟨rfl, rfl, rfl⟩) | (have ⟨h1, h2⟩ := zpo hc1 (dB_t ‹decB (CmdP m) = true›) hc3; rw [h1, h2]; exact ⟨rfl, rfl, rfl⟩) | (have ⟨h1, h2⟩ := zpp hc1 (dB_t ‹decB (CmdP m) = true›) hc4; rw [h1, h2, htf]; exact ⟨rfl, rfl, rfl⟩) | (have ⟨h1, h2⟩ := zpq hc1 (dB_t ‹decB (CmdP m) = true›) hc2 hc3 hc4 hc7; rw [h1, h2]; exact ⟨rfl, rfl, rfl⟩) | (rw [hS, hR]; exact ⟨rfl, rfl, rfl⟩) | trace_state
              ·try simp [zba, zbb, zbf, zbd] at hc7
               all_goals
                refine zbn ?_
                refine zbq ?_
                obtain ⟨k, hkz⟩ := Int.eq_ofNat_of_zero_le hc7
                have hk := zkt hkz
                have hmz : CmdP m ∧ ¬ m.fKind = 0 := ⟨dB_t ‹_›, hc2⟩
                have ⟨hS, hR⟩ := cat_k hc1 hmz.1 hmz.2 hc3 hc4 hkz
                have hN : m.fKind = 5 → 0 ≤ m.fN ∧ m.fN ≤ 9 := by have := hmz.1; clear hS hR; intro h5; simp only [CmdP] at this; by_cases h0 : m.fN = 0 <;> grind
                simp only [hkz]
                refine AW_x rfl rfl fun K hK => ?_
                simp (disch := omega)
                repeat' first | (exfalso; omega) | (refine zdm [320] true [] (l15SetX c.fSets (by omega) k hk m (hb2 k hk) (hb4 k hk) hN hch) ?_ ?_ ?_; (focus (simp [List.range_succ, nmC]; done)); (focus (simp (disch := omega) [zbp]; done)); simp (disch := omega)) | (refine ⟨fun _ => ?_, fun _ => ?_⟩) | (refine ⟨by omega, ?_⟩) | (simp (disch := omega)) | (intro _)
                all_goals (refine hK _ ?_; clear hK K)
                all_goals
                 refine AW_x rfl rfl fun K hK => ?_
                 simp (disch := omega)
                 repeat' first | (refine ⟨by omega, ?_⟩) | (simp (disch := omega)) | (intro _)
                 refine hK _ ?_; clear hK K
                 refine zbo (zcc [1232] [] (by simp [List.range_succ, zbc, zbj, zbe]) (by simp) ?_)
                 simp (disch := omega)
                 all_goals first | (have ⟨h1, h2⟩ := zpl hc1 (m := m); exact ⟨h1, h2, h1⟩) | (have ⟨h1, h2⟩ := zpm hc1 (dB_f ‹decB (CmdP m) = false›); rw [h1, h2]; exact ⟨rfl, rfl, rfl⟩) | (have ⟨h1, h2⟩ := zpn hc1 (dB_t ‹decB (CmdP m) = true›) hc2; rw [h1, h2]; exact ⟨rfl, rfl, rfl⟩) | (have ⟨h1, h2⟩ := zpo hc1 (dB_t ‹decB (CmdP m) = true›) hc3; rw [h1, h2]; exact ⟨rfl, rfl, rfl⟩) | (have ⟨h1, h2⟩ := zpp hc1 (dB_t ‹decB (CmdP m) = true›) hc4; rw [h1, h2, htf]; exact ⟨rfl, rfl, rfl⟩) | (have ⟨h1, h2⟩ := zpq hc1 (dB_t ‹decB (CmdP m) = true›) hc2 hc3 hc4 hc7; rw [h1, h2]; exact ⟨rfl, rfl, rfl⟩) | (rw [hS, hR]; exact ⟨rfl, rfl, rfl⟩) | trace_state
end Go.Proofs.YtmheohnbkaoipaaGreat.Vs
