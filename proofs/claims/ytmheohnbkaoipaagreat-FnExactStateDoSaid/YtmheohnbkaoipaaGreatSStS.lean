import Derived.Test.YtmheohnbkaoipaaGreatSStR
open Go Go.Proofs Go.Proofs.YtmheohnbkaoipaaGreat.Vs
namespace Go.Proofs.YtmheohnbkaoipaaGreat.Vs
set_option linter.all false
set_option linter.unusedSimpArgs false
set_option linter.unusedVariables false
set_option maxRecDepth 100000
set_option maxHeartbeats 2000000
attribute [local simp] DtState.cells DtCatalog.cells DtSaid.cells DtCmd.cells zbp and_assoc zc5 List.range_succ newS
theorem ztf (s : DtState) (m : DtCmd) (hs : DtState.sz s ≤ 1048576) (hm : DtCmd.sz m ≤ 1048576) : XCall Tryz.prog 6 [.agg (DtState.cells s), .agg (DtCmd.cells m)] [] (.tup [.agg [.arr 16 0 (stC s m).fCat.fSets.length, .arr 17 0 (stC s m).fSaid.length], .s (stR s m)]) [] [.own 2 ((stC s m).fCat.fSets.map DtCSet.cells), .own 3 ((stC s m).fSaid.map DtSaid.cells)] := by
 have ⟨hz, hl⟩ := zjw s hs
 refine zbx Tryz.func6 (by rfl) (by rfl) (by rw [Tryz.ntmps6]; exact Nat.le_of_ble_eq_true rfl) rfl (by simp) rfl rfl ?_
 rw [Tryz.ntmps6]
 refine zf1   ?_
 refine AW_k [(0, _), (1, _)] ⟨rfl, rfl, trivial⟩ ?_
 refine AW_x rfl rfl fun K hK => ?_
 simp (disch := omega)
 repeat' first | (refine ⟨by omega, ?_⟩) | (intro _)
 refine hK _ ?_; clear hK K
 refine zbm ?_
 refine AW_x rfl rfl fun K hK => ?_
 simp (disch := omega)
 repeat' first | (exfalso; omega) | (refine zdq (zbh (zbz rfl) zbs) (zl1 s (by omega)) rfl ?_; simp (disch := omega)) | (refine zdr (zl1 s (by omega)) (by rfl) ?_ ?_; (focus (simp (disch := omega) [zbp]; done)); simp (disch := omega)) | (refine ⟨by omega, ?_⟩) | (simp (disch := omega)) | (intro _)
 refine hK _ ?_; clear hK K
 refine zbl rfl (fun hc1 => ?_) (fun hc1 => ?_)
 ·try simp [zba, zbb, zbf, zbd] at hc1
  all_goals
   refine AW_x rfl rfl fun K hK => ?_
   simp (disch := omega)
   repeat' first | (exfalso; omega) | (refine ⟨fun _ => ?_, fun _ => ?_⟩) | (refine ⟨by omega, ?_⟩) | (simp (disch := omega)) | (intro _)
   all_goals (refine hK _ ?_; clear hK K)
   all_goals
    refine zbo (zcc [1000, 1001] [(1000, 2), (1001, 3)] (by simp [List.range_succ, zbc, zbj, zbe]) (by simp) ?_)
    simp (disch := omega)
    all_goals first | exact sd_f hc1 | exact zco (st_m hc1 (by simp_all [zba, zbb])) | exact zco (zrn hc1 (by simp_all [zba, zbb]) (by simp_all [zba, zbb]) (by assumption) (by assumption) (by assumption)) | exact zco (zmd hc1 (by simp_all [zba, zbb]) (by simp_all [zba, zbb]) (by assumption) (by assumption) (by assumption)) | (simp only [newS] at hpg; rw [hgo.1, hgo.2, hpg]; exact ⟨rfl, rfl, rfl, rfl, rfl⟩) | trace_state
 ·try simp [zba, zbb, zbf, zbd] at hc1
  all_goals
   refine zbn ?_
   refine zbq ?_
   refine AW_x rfl rfl fun K hK => ?_
   simp (disch := omega)
   repeat' first | (exfalso; omega) | (refine zdm [] true [] (l16CopyX s hs) ?_ ?_ ?_; (focus (simp [List.range_succ, nmC]; done)); (focus (simp (disch := omega) [zbp]; done)); simp (disch := omega)) | (refine ⟨fun _ => ?_, fun _ => ?_⟩) | (refine ⟨by omega, ?_⟩) | (simp (disch := omega)) | (intro _)
   all_goals (refine hK _ ?_; clear hK K)
   all_goals
    refine zbm ?_
    refine AW_x rfl rfl fun K hK => ?_
    simp (disch := omega)
    repeat' first | (exfalso; omega) | (refine zdq (zbh (zbz rfl) zbs) (zh7 m (by omega)) rfl ?_; simp (disch := omega)) | (refine zdr (zh7 m (by omega)) (by rfl) ?_ ?_; (focus (simp (disch := omega) [zbp]; done)); simp (disch := omega)) | (refine ⟨fun _ => ?_, fun _ => ?_⟩) | (refine ⟨by omega, ?_⟩) | (simp (disch := omega)) | (intro _)
    all_goals (refine hK _ ?_; clear hK K)
    all_goals
     refine zbl rfl (fun hc2 => ?_) (fun hc2 => ?_)
     ·try simp [zba, zbb, zbf, zbd] at hc2
      all_goals
       refine AW_x rfl rfl fun K hK => ?_
       simp (disch := omega)
       repeat' first | (exfalso; omega) | (refine ⟨fun _ => ?_, fun _ => ?_⟩) | (refine ⟨by omega, ?_⟩) | (simp (disch := omega)) | (intro _)
       all_goals (refine hK _ ?_; clear hK K)
       all_goals
        refine zbo (zcc [256, 257] [] (by simp [List.range_succ, zbc, zbj, zbe]) (by simp) ?_)
        simp (disch := omega)
        all_goals first | exact sd_f hc1 | exact zco (st_m hc1 (by simp_all [zba, zbb])) | exact zco (zrn hc1 (by simp_all [zba, zbb]) (by simp_all [zba, zbb]) (by assumption) (by assumption) (by assumption)) | exact zco (zmd hc1 (by simp_all [zba, zbb]) (by simp_all [zba, zbb]) (by assumption) (by assumption) (by assumption)) | (simp only [newS] at hpg; rw [hgo.1, hgo.2, hpg]; exact ⟨rfl, rfl, rfl, rfl, rfl⟩) | trace_state
     ·try simp [zba, zbb, zbf, zbd] at hc2
      all_goals
       refine zbn ?_
       refine zbq ?_
       refine zbm ?_
       refine AW_x rfl rfl fun K hK => ?_
       simp (disch := omega)
       repeat' first | (exfalso; omega) | (refine ⟨fun _ => ?_, fun _ => ?_⟩) | (refine ⟨by omega, ?_⟩) | (simp (disch := omega)) | (intro _)
       all_goals (refine hK _ ?_; clear hK K)
       all_goals
        refine zbt ?_
        refine zb5 (fun mM sS => ∃ (i : Nat), mM = s.fSaid.length - i ∧ (i ≤ s.fSaid.length ∧ ∀ j (hj : j < s.fSaid.length), j < i → s.fSaid[j].fClient = m.fClient → s.fSaid[j].fNo < m.fNo) ∧ sS = { env := lkE [(2, .ptr 48 0), (3, .ptr 64 0), (4, .ptr 80 0), (5, .s []), (6, .ptr 112 0), (7, (.g (.int .i64 ((i : Nat)))))], ob := lk [(48, .cells (DtState.cells s)), (64, .cells (DtCmd.cells m)), (80, .cells [.g (.slice none 0 0), .g (.slice none 0 0)]), (112, .cells [.arr 256 0 s.fCat.fSets.length, .arr 257 0 s.fSaid.length]), (256, .own 2 (s.fCat.fSets.map DtCSet.cells)), (257, .own 3 (s.fSaid.map DtSaid.cells))] }) ?_ ?_
        ·refine ⟨_, LeS.kx [(48, 48), (64, 64), (80, 80), (112, 112), (256, 256), (257, 257)] [(2, .ptr 48 0), (3, .ptr 64 0), (4, .ptr 80 0), (5, .s []), (6, .ptr 112 0), (7, (.g (.int .i64 (((0) : Nat)))))] [(48, .cells (DtState.cells s)), (64, .cells (DtCmd.cells m)), (80, .cells [.g (.slice none 0 0), .g (.slice none 0 0)]), (112, .cells [.arr 256 0 s.fCat.fSets.length, .arr 257 0 s.fSaid.length]), (256, .own 2 (s.fCat.fSets.map DtCSet.cells)), (257, .own 3 (s.fSaid.map DtSaid.cells))] (by simp [KpR, renV2, renV, zbe, zbv, zbc, zbj, DtState.cells, DtCatalog.cells, DtCmd.cells, List.range_succ]; first | (simp; done) | omega | trace_state) (by simp [KpOX, renO, plO, cvO, renV, pl1, zbc, zbj, zbe, DtState.cells, DtCatalog.cells, DtCmd.cells, List.range_succ]; first | rfl | (simp; done) | trace_state) (by rfl) (by simp) (by simp) (by rfl) (by simp [formsX, List.range_succ, zbc, zbj]), _, 0, rfl, ?_, rfl⟩
         ·exact ⟨by omega, fun j hj h => by omega⟩
        ·rintro mM sS ⟨i, rfl, ⟨hi, hpre⟩, rfl⟩
         refine zbm ?_
         refine AW_x rfl rfl fun K hK => ?_
         simp (disch := omega)
         repeat' first | (refine ⟨by omega, ?_⟩) | (simp (disch := omega)) | (intro _)
         refine hK _ ?_; clear hK K
         refine zbl rfl (fun hc3 => ?_) (fun hc3 => ?_)
         ·try simp [zba, zbb, zbf, zbd] at hc3
          all_goals
           have hg : s.fSaid[i]? = some s.fSaid[i] := List.getElem?_eq_getElem (by omega)
           refine zbn ?_
           refine zbq ?_
           refine zbm ?_
           refine zbt ?_
           refine zbm ?_
           refine AW_d rfl mix (by kernel_rfl) (by kernel_rfl) fun K hK => ?_
           simp (disch := omega)
           repeat' first | (exfalso; omega) | (refine ⟨fun _ => ?_, fun _ => ?_⟩) | (refine ⟨by omega, ?_⟩) | (simp (disch := omega)) | (intro _)
           all_goals (refine hK _ _ (by kernel_rfl) ?_; clear hK K)
           all_goals
            refine zbl rfl (fun hc4 => ?_) (fun hc4 => ?_)
            ·try simp [zba, zbb, zbf, zbd] at hc4
             all_goals
              refine zb7 ?_
              refine zbq ?_
              refine zcr rfl rfl fun K hK => ?_
              simp (disch := omega)
              repeat' first | (exfalso; omega) | (refine ⟨fun _ => ?_, fun _ => ?_⟩) | (refine ⟨by omega, ?_⟩) | (simp (disch := omega)) | (intro _)
              all_goals (refine hK _ ?_; clear hK K)
              all_goals
               refine ⟨_, LeS.kx [(48, 48), (64, 64), (80, 80), (112, 112), (256, 256), (257, 257)] [(2, .ptr 48 0), (3, .ptr 64 0), (4, .ptr 80 0), (5, .s []), (6, .ptr 112 0), (7, (.g (.int .i64 (((i + 1) : Nat)))))] [(48, .cells (DtState.cells s)), (64, .cells (DtCmd.cells m)), (80, .cells [.g (.slice none 0 0), .g (.slice none 0 0)]), (112, .cells [.arr 256 0 s.fCat.fSets.length, .arr 257 0 s.fSaid.length]), (256, .own 2 (s.fCat.fSets.map DtCSet.cells)), (257, .own 3 (s.fSaid.map DtSaid.cells))] (by simp [KpR, renV2, renV, zbe, zbv, zbc, zbj, DtState.cells, DtCatalog.cells, DtCmd.cells, List.range_succ]; first | (simp; done) | omega | trace_state) (by simp [KpOX, renO, plO, cvO, renV, pl1, zbc, zbj, zbe, DtState.cells, DtCatalog.cells, DtCmd.cells, List.range_succ]; first | rfl | (simp; done) | trace_state) (by rfl) (by simp) (by simp) (by rfl) (by simp [formsX, List.range_succ, zbc, zbj]), _, ?_, i + 1, rfl, ?_, rfl⟩
               ·omega
               ·refine ⟨by omega, fun j hj h e => ?_⟩
                by_cases hji : j = i
                ·subst hji; first | omega | (simp_all; omega) | simp_all
                ·exact hpre j hj (by omega) e
            ·try simp [zba, zbb, zbf, zbd] at hc4
             all_goals
              refine zbn ?_
              refine zbq ?_
              refine zbm ?_
              refine AW_d rfl mix (by kernel_rfl) (by kernel_rfl) fun K hK => ?_
              simp (disch := omega)
              repeat' first | (exfalso; omega) | (refine ⟨fun _ => ?_, fun _ => ?_⟩) | (refine ⟨by omega, ?_⟩) | (simp (disch := omega)) | (intro _)
              all_goals (refine hK _ _ (by kernel_rfl) ?_; clear hK K)
              all_goals
               refine zbl rfl (fun hc5 => ?_) (fun hc5 => ?_)
               ·try simp [zba, zbb, zbf, zbd] at hc5
                all_goals
                 refine AW_d rfl mix (by kernel_rfl) (by kernel_rfl) fun K hK => ?_
                 simp (disch := omega)
                 repeat' first | (exfalso; omega) | (refine ⟨fun _ => ?_, fun _ => ?_⟩) | (refine ⟨by omega, ?_⟩) | (simp (disch := omega)) | (intro _)
                 all_goals (refine hK _ _ (by kernel_rfl) ?_; clear hK K)
                 all_goals
                  refine zbo (zcc [256, 257] [] (by simp [List.range_succ, zbc, zbj, zbe]) (by simp) ?_)
                  simp (disch := omega)
                  all_goals first | exact sd_f hc1 | exact zco (st_m hc1 (by simp_all [zba, zbb])) | exact zco (zrn hc1 (by simp_all [zba, zbb]) (by simp_all [zba, zbb]) (by assumption) (by assumption) (by assumption)) | exact zco (zmd hc1 (by simp_all [zba, zbb]) (by simp_all [zba, zbb]) (by assumption) (by assumption) (by assumption)) | (simp only [newS] at hpg; rw [hgo.1, hgo.2, hpg]; exact ⟨rfl, rfl, rfl, rfl, rfl⟩) | trace_state
               ·try simp [zba, zbb, zbf, zbd] at hc5
                all_goals
                 refine zbn ?_
                 refine zbq ?_
                 refine AW_d rfl mix (by kernel_rfl) (by kernel_rfl) fun K hK => ?_
                 simp (disch := omega)
                 repeat' first | (exfalso; omega) | (refine ⟨fun _ => ?_, fun _ => ?_⟩) | (refine ⟨by omega, ?_⟩) | (simp (disch := omega)) | (intro _)
                 all_goals (refine hK _ _ (by kernel_rfl) ?_; clear hK K)
                 all_goals
                  refine zbl rfl (fun hc6 => ?_) (fun hc6 => ?_)
                  ·try simp [zba, zbb, zbf, zbd] at hc6
                   all_goals
                    refine AW_x rfl rfl fun K hK => ?_
                    simp (disch := omega)
                    repeat' first | (exfalso; omega) | (refine ⟨fun _ => ?_, fun _ => ?_⟩) | (refine ⟨by omega, ?_⟩) | (simp (disch := omega)) | (intro _)
                    all_goals (refine hK _ ?_; clear hK K)
                    all_goals
                     refine zbo (zcc [256, 257] [] (by simp [List.range_succ, zbc, zbj, zbe]) (by simp) ?_)
                     simp (disch := omega)
                     all_goals first | exact sd_f hc1 | exact zco (st_m hc1 (by simp_all [zba, zbb])) | exact zco (zrn hc1 (by simp_all [zba, zbb]) (by simp_all [zba, zbb]) (by assumption) (by assumption) (by assumption)) | exact zco (zmd hc1 (by simp_all [zba, zbb]) (by simp_all [zba, zbb]) (by assumption) (by assumption) (by assumption)) | (simp only [newS] at hpg; rw [hgo.1, hgo.2, hpg]; exact ⟨rfl, rfl, rfl, rfl, rfl⟩) | trace_state
                  ·try simp [zba, zbb, zbf, zbd] at hc6
                   all_goals
                    refine zbn ?_
                    refine zbq ?_
                    refine zcr rfl rfl fun K hK => ?_
                    simp (disch := omega)
                    repeat' first | (exfalso; omega) | (refine ⟨fun _ => ?_, fun _ => ?_⟩) | (refine ⟨by omega, ?_⟩) | (simp (disch := omega)) | (intro _)
                    all_goals (refine hK _ ?_; clear hK K)
                    all_goals
                     refine ⟨_, LeS.kx [(48, 48), (64, 64), (80, 80), (112, 112), (256, 256), (257, 257)] [(2, .ptr 48 0), (3, .ptr 64 0), (4, .ptr 80 0), (5, .s []), (6, .ptr 112 0), (7, (.g (.int .i64 (((i + 1) : Nat)))))] [(48, .cells (DtState.cells s)), (64, .cells (DtCmd.cells m)), (80, .cells [.g (.slice none 0 0), .g (.slice none 0 0)]), (112, .cells [.arr 256 0 s.fCat.fSets.length, .arr 257 0 s.fSaid.length]), (256, .own 2 (s.fCat.fSets.map DtCSet.cells)), (257, .own 3 (s.fSaid.map DtSaid.cells))] (by simp [KpR, renV2, renV, zbe, zbv, zbc, zbj, DtState.cells, DtCatalog.cells, DtCmd.cells, List.range_succ]; first | (simp; done) | omega | trace_state) (by simp [KpOX, renO, plO, cvO, renV, pl1, zbc, zbj, zbe, DtState.cells, DtCatalog.cells, DtCmd.cells, List.range_succ]; first | rfl | (simp; done) | trace_state) (by rfl) (by simp) (by simp) (by rfl) (by simp [formsX, List.range_succ, zbc, zbj]), _, ?_, i + 1, rfl, ?_, rfl⟩
                     ·omega
                     ·refine ⟨by omega, fun j hj h e => ?_⟩
                      by_cases hji : j = i
                      ·subst hji; first | omega | (simp_all; omega) | simp_all
                      ·exact hpre j hj (by omega) e
         ·try simp [zba, zbb, zbf, zbd] at hc3
          all_goals
           have hpg : putG (newS m (catR s.fCat m)) false s.fSaid = putL (newS m (catR s.fCat m)) s.fSaid := putG_L _ _ (zkv hc1)
           have hgo := st_go hc1 (by simp_all [zba, zbb]) (by simp_all [zba, zbb]) (fun j hj e => hpre j hj (by omega) e)
           refine zb7 ?_
           refine zbq ?_
           refine AW_x rfl rfl fun K hK => ?_
           simp (disch := omega)
           repeat' first | (exfalso; omega) | (refine zdm [] true [] (specCatC s.fCat m hz hm) ?_ ?_ ?_; (focus (simp [List.range_succ, nmC]; done)); (focus (simp (disch := omega) [zbp]; done)); simp (disch := omega)) | (refine ⟨fun _ => ?_, fun _ => ?_⟩) | (refine ⟨by omega, ?_⟩) | (simp (disch := omega)) | (intro _)
           all_goals (refine hK _ ?_; clear hK K)
           all_goals
            refine AW_x rfl rfl fun K hK => ?_
            simp (disch := omega)
            repeat' first | (refine ⟨by omega, ?_⟩) | (simp (disch := omega)) | (intro _)
            refine hK _ ?_; clear hK K
            refine AW_x rfl rfl fun K hK => ?_
            simp (disch := omega)
            repeat' first | (exfalso; omega) | (refine zdm [] true [] (l16PutX s.fSaid hl (newS m (catR s.fCat m))) ?_ ?_ ?_; (focus (simp [List.range_succ, nmC]; done)); (focus (simp (disch := omega) [zbp]; done)); simp (disch := omega)) | (refine ⟨by omega, ?_⟩) | (simp (disch := omega)) | (intro _)
            refine hK _ ?_; clear hK K
            refine AW_x rfl rfl fun K hK => ?_
            simp (disch := omega)
            repeat' first | (refine ⟨by omega, ?_⟩) | (simp (disch := omega)) | (intro _)
            refine hK _ ?_; clear hK K
            refine zbo (zcc [1152, 1360] [] (by simp [List.range_succ, zbc, zbj, zbe]) (by simp) ?_)
            simp (disch := omega)
            all_goals first | exact sd_f hc1 | exact zco (st_m hc1 (by simp_all [zba, zbb])) | exact zco (zrn hc1 (by simp_all [zba, zbb]) (by simp_all [zba, zbb]) (by assumption) (by assumption) (by assumption)) | exact zco (zmd hc1 (by simp_all [zba, zbb]) (by simp_all [zba, zbb]) (by assumption) (by assumption) (by assumption)) | (simp only [newS] at hpg; rw [hgo.1, hgo.2, hpg]; exact ⟨rfl, rfl, rfl, rfl, rfl⟩) | trace_state
end Go.Proofs.YtmheohnbkaoipaaGreat.Vs
