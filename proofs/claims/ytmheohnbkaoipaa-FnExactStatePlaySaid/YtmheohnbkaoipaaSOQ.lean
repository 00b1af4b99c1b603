import Derived.Test.YtmheohnbkaoipaaSN1
import Derived.Test.YtmheohnbkaoipaaSDQ
open Go Go.Proofs Go.Proofs.Ytmheohnbkaoipaa.Vs
namespace Go.Proofs.Ytmheohnbkaoipaa.Vs
set_option linter.all false
set_option linter.unusedSimpArgs false
set_option linter.unusedVariables false
set_option maxRecDepth 100000
theorem zfa {l : List (List AV)} {i : Nat} {a b : List AV} (h : a = b) : l.set i a = l.set i b := by rw [h]
theorem zc9 {α : Type} {f : α → Int} (hf : ∀ x, 0 ≤ f x) (l : List α) : (l.length : Int) ≤ szS f l := by have := zcc hf l; unfold szS; omega
theorem zq3 {α : Type} {cnt sz : α → Int} (h : ∀ u, cnt u ≤ 16 * (1 + sz u)) : ∀ us : List α, cntS cnt us ≤ 16 * szS sz us
 | [] => by simp [zcp, szS, zdz]
 | u :: us => by
  have h1 := zq3 h us
  have h2 := h u
  simp only [szS, zfw, zfy, List.length_cons] at h1 ⊢
  omega
def mkCmd (k : Int) (u : DtCmd) : DtCmd := { fKind := k, fClient := k + 1, fNo := k + 1 + 1, fSet := mT (k + 1 + 1 + 1), fName := mT (k + 1 + 1 + 1 + 1), fTag := mT (k + 1 + 1 + 1 + 1 + 1), fN := k + 1 + 1 + 1 + 1 + 1 + 1, fChunks := mkL mT (k + 1 + 1 + 1 + 1 + 1 + 1 + 1) u.fChunks.length }
def cntCmd (u : DtCmd) : Int := 1 + 1 + 1 + 1 + 1 + 1 + 1 + (u.fChunks.length : Nat)
theorem zq4 (u : DtCmd) : 0 ≤ cntCmd u := by
 unfold cntCmd
 omega
theorem cntCmd_sz (u : DtCmd) : cntCmd u ≤ 16 * (1 + DtCmd.sz u) := by
 have := zc9 zch u.fChunks
 unfold cntCmd
 simp only [DtCmd.sz]
 omega
theorem markCmdS (us : List DtCmd) (k : Int) (hs : szS DtCmd.sz us ≤ 1048576) (hk : 0 ≤ k ∧ k + cntS cntCmd us ≤ 1073741824) : XCall Try.prog 25 [.arr 8 0 us.length, (.g (.int .i64 (k)))] [.own 8 (us.map DtCmd.cells)] (.g (.int .i64 (k + cntS cntCmd us))) [.own 8 ((mkS mkCmd cntCmd k us).map DtCmd.cells)] [] := by
 have hL : us.length ≤ 1048576 := by have := zc9 DtCmd.sz_nonneg us; omega
 refine zby Try.func25 (by rfl) (by rfl) (by rw [Try.ntmps25]; exact Nat.le_of_ble_eq_true rfl) rfl (by simp) rfl rfl ?_
 rw [Try.ntmps25]
 refine zh2 (.own 8 (us.map DtCmd.cells)) (by simp [cvO] <;> assumption) ?_
 refine AW_k [(0, _), (1, _)] ⟨rfl, rfl, trivial⟩ ?_
 refine AW_x rfl rfl fun K hK => ?_
 simp (disch := omega) [zbj, gE, tP, DtCmd.cells, zb3, zbx]
 repeat' first | (refine ⟨by omega, ?_⟩) | (intro _)
 refine hK _ ?_; clear hK K
 refine zbm ?_
 refine AW_x rfl rfl fun K hK => ?_
 simp (disch := omega) [zbj, gE, tP, DtCmd.cells, zb3, zbx]
 repeat' first | (refine ⟨by omega, ?_⟩) | (intro _)
 refine hK _ ?_; clear hK K
 refine zbs ?_
 refine zb4 (fun mM sS => ∃ (i : Nat), mM = us.length - i ∧ (i ≤ us.length) ∧ sS = { env := lkE [(0, .arr 8 0 us.length), (1, (.g (.int .i64 (k + cntS cntCmd (us.take i))))), (5, (.g (.int .i64 ((i : Nat)))))], ob := lk [(8, .own 8 ((mkSR mkCmd cntCmd k us i).map DtCmd.cells))] }) ?_ ?_
 ·refine ⟨_, LeS.kx [(8, 8)] [(0, .arr 8 0 us.length), (1, (.g (.int .i64 (k + cntS cntCmd (us.take (0)))))), (5, (.g (.int .i64 (((0) : Nat)))))] [(8, .own 8 ((mkSR mkCmd cntCmd k us (0)).map DtCmd.cells))] (by simp [KpR, renV2, renV, zbf, zbt, zbd, zbh, zfd, zcp]; try (first | rfl | (omega; done))) (by simp [KpOX, renO, plO, cvO, renV, pl1, zbd, zbh, zbf, zfd, zcp]; try (first | rfl | (rw [← zf5 mkCmd cntCmd k us i (by omega), List.map_set]; refine zfa ?_; simp only [DtCmd.cells, mkCmd]; repeat' (first | rfl | (omega; done) | congr 1)))) (by rfl) (by simp) (by simp) (by rfl) (by simp [formsX, List.range_succ, zbd, zbh]), _, 0, rfl, ?_, rfl⟩
  ·simp
 ·rintro mM sS ⟨i, rfl, hi, rfl⟩
  have hln : (mkSR mkCmd cntCmd k us i).length = us.length := zkj _ _ _ _ _ hi
  refine zbm ?_
  refine AW_x rfl rfl fun K hK => ?_
  simp (disch := omega) [zbj, gE, tP, DtCmd.cells, zb3, zbx]
  repeat' first | (refine ⟨by omega, ?_⟩) | (intro _)
  refine hK _ ?_; clear hK K
  refine zbl rfl (fun hc1 => ?_) (fun hc1 => ?_)
  ·try simp at hc1
   all_goals
    have hcl := zhn zq4 us i (by omega)
    have hcu : cntCmd us[i] = 1 + 1 + 1 + 1 + 1 + 1 + 1 + (us[i].fChunks.length : Nat) := rfl
    have hcs := zd9 cntCmd us i (by omega)
    have hzn1 := zc9 zch us[i].fChunks
    have hsE : DtCmd.sz us[i] ≤ 1048576 := by have := zcl DtCmd.sz_nonneg us us[i] (List.getElem_mem _); simp only [szS] at hs; omega
    simp only [DtCmd.sz] at hsE
    refine zbn ?_
    refine zbr ?_
    refine zbm ?_
    refine zbs ?_
    refine AW_x rfl rfl fun K hK => ?_
    simp (disch := omega) [zbj, gE, tP, DtCmd.cells, zb3, zbx]
    repeat' first | (exfalso; omega) | (refine ⟨fun _ => ?_, fun _ => ?_⟩) | (refine ⟨by omega, ?_⟩) | (intro _)
    all_goals (refine hK _ ?_; clear hK K)
    all_goals
     refine AW_x rfl rfl fun K hK => ?_
     simp (disch := omega) [zbj, gE, tP, DtCmd.cells, zb3, zbx]
     repeat' first | (refine ⟨by omega, ?_⟩) | (intro _)
     refine hK _ ?_; clear hK K
     refine AW_x rfl rfl fun K hK => ?_
     simp (disch := omega) [zbj, gE, tP, DtCmd.cells, zb3, zbx]
     repeat' first | (refine ⟨by omega, ?_⟩) | (intro _)
     refine hK _ ?_; clear hK K
     refine AW_x rfl rfl fun K hK => ?_
     simp (disch := omega) [zbj, gE, tP, DtCmd.cells, zb3, zbx]
     repeat' first | (refine ⟨by omega, ?_⟩) | (intro _)
     refine hK _ ?_; clear hK K
     refine AW_x rfl rfl fun K hK => ?_
     simp (disch := omega) [zbj, gE, tP, DtCmd.cells, zb3, zbx]
     repeat' first | (refine ⟨by omega, ?_⟩) | (intro _)
     refine hK _ ?_; clear hK K
     refine AW_x rfl rfl fun K hK => ?_
     simp (disch := omega) [zbj, gE, tP, DtCmd.cells, zb3, zbx]
     repeat' first | (refine ⟨by omega, ?_⟩) | (intro _)
     refine hK _ ?_; clear hK K
     refine AW_x rfl rfl fun K hK => ?_
     simp (disch := omega) [zbj, gE, tP, DtCmd.cells, zb3, zbx]
     repeat' first | (exfalso; omega) | (refine zdi (zbi zct zbu) (zc4 _ (by omega)) rfl ?_; simp (disch := omega) [zbj, gE, tP, DtCmd.cells, zb3, zbx]) | (refine zdj (zc4 _ (by omega)) (by rfl) ?_ ?_; (focus (simp (disch := omega) [zbj, gE, tP, DtCmd.cells, zb3, zbx, zbp]; done)); simp (disch := omega) [zbj, gE, tP, DtCmd.cells, zb3, zbx]) | (refine ⟨by omega, ?_⟩) | (intro _)
     refine hK _ ?_; clear hK K
     refine AW_x rfl rfl fun K hK => ?_
     simp (disch := omega) [zbj, gE, tP, DtCmd.cells, zb3, zbx]
     repeat' first | (refine ⟨by omega, ?_⟩) | (intro _)
     refine hK _ ?_; clear hK K
     refine AW_x rfl rfl fun K hK => ?_
     simp (disch := omega) [zbj, gE, tP, DtCmd.cells, zb3, zbx]
     repeat' first | (exfalso; omega) | (refine zdi (zbi zct zbu) (zc4 _ (by omega)) rfl ?_; simp (disch := omega) [zbj, gE, tP, DtCmd.cells, zb3, zbx]) | (refine zdj (zc4 _ (by omega)) (by rfl) ?_ ?_; (focus (simp (disch := omega) [zbj, gE, tP, DtCmd.cells, zb3, zbx, zbp]; done)); simp (disch := omega) [zbj, gE, tP, DtCmd.cells, zb3, zbx]) | (refine ⟨by omega, ?_⟩) | (intro _)
     refine hK _ ?_; clear hK K
     refine AW_x rfl rfl fun K hK => ?_
     simp (disch := omega) [zbj, gE, tP, DtCmd.cells, zb3, zbx]
     repeat' first | (refine ⟨by omega, ?_⟩) | (intro _)
     refine hK _ ?_; clear hK K
     refine AW_x rfl rfl fun K hK => ?_
     simp (disch := omega) [zbj, gE, tP, DtCmd.cells, zb3, zbx]
     repeat' first | (exfalso; omega) | (refine zdi (zbi zct zbu) (zc4 _ (by omega)) rfl ?_; simp (disch := omega) [zbj, gE, tP, DtCmd.cells, zb3, zbx]) | (refine zdj (zc4 _ (by omega)) (by rfl) ?_ ?_; (focus (simp (disch := omega) [zbj, gE, tP, DtCmd.cells, zb3, zbx, zbp]; done)); simp (disch := omega) [zbj, gE, tP, DtCmd.cells, zb3, zbx]) | (refine ⟨by omega, ?_⟩) | (intro _)
     refine hK _ ?_; clear hK K
     refine AW_x rfl rfl fun K hK => ?_
     simp (disch := omega) [zbj, gE, tP, DtCmd.cells, zb3, zbx]
     repeat' first | (refine ⟨by omega, ?_⟩) | (intro _)
     refine hK _ ?_; clear hK K
     refine AW_x rfl rfl fun K hK => ?_
     simp (disch := omega) [zbj, gE, tP, DtCmd.cells, zb3, zbx]
     repeat' first | (refine ⟨by omega, ?_⟩) | (intro _)
     refine hK _ ?_; clear hK K
     refine AW_x rfl rfl fun K hK => ?_
     simp (disch := omega) [zbj, gE, tP, DtCmd.cells, zb3, zbx]
     repeat' first | (refine ⟨by omega, ?_⟩) | (intro _)
     refine hK _ ?_; clear hK K
     refine zcr rfl rfl fun K hK => ?_
     simp (disch := omega) [zbj, gE, tP, DtCmd.cells, zb3, zbx]
     repeat' first | (exfalso; omega) | (refine XKd_n (n := 8) (i := i) (f0 := 7) (zhm us[i].fChunks _ (by omega) (by omega)) ?_ ?_ ?_ ?_ rfl ?_ rfl ?_ ?_; (focus (simp; done)); (focus rfl); (focus rfl); (focus (simp [zdt, zd0]; done)); (focus (simp; done)); (focus first | exact ⟨_, zbx _ _ _ _ (by omega), rfl⟩ | exact ⟨_, by rw [List.getElem?_map, zkk _ _ _ _ _ (by omega)]; rfl, rfl⟩); simp (disch := omega) [zbj, gE, tP, DtCmd.cells, zb3, zbx]) | (refine ⟨by omega, ?_⟩) | (intro _)
     refine hK _ ?_; clear hK K
     refine zbr ?_
     refine zcr rfl rfl fun K hK => ?_
     simp (disch := omega) [zbj, gE, tP, DtCmd.cells, zb3, zbx]
     repeat' first | (refine ⟨by omega, ?_⟩) | (intro _)
     refine hK _ ?_; clear hK K
     refine ⟨_, LeS.kx [(8, 8)] [(0, .arr 8 0 us.length), (1, (.g (.int .i64 (k + cntS cntCmd (us.take (i + 1)))))), (5, (.g (.int .i64 (((i + 1) : Nat)))))] [(8, .own 8 ((mkSR mkCmd cntCmd k us (i + 1)).map DtCmd.cells))] (by simp [KpR, renV2, renV, zbf, zbt, zbd, zbh, zfd, zcp]; try (first | rfl | (omega; done))) (by simp [KpOX, renO, plO, cvO, renV, pl1, zbd, zbh, zbf, zfd, zcp]; try (first | rfl | (rw [← zf5 mkCmd cntCmd k us i (by omega), List.map_set]; refine zfa ?_; simp only [DtCmd.cells, mkCmd]; repeat' (first | rfl | (omega; done) | congr 1)))) (by rfl) (by simp) (by simp) (by rfl) (by simp [formsX, List.range_succ, zbd, zbh]), _, ?_, i + 1, rfl, ?_, rfl⟩
     ·omega
     ·omega
  try simp at hc1
  refine zb9 ?_
  refine zbr ?_
  refine AW_x rfl rfl fun K hK => ?_
  simp (disch := omega) [zbj, gE, tP, DtCmd.cells, zb3, zbx]
  repeat' first | (exfalso; omega) | (refine ⟨fun _ => ?_, fun _ => ?_⟩) | (refine ⟨by omega, ?_⟩) | (intro _)
  all_goals (refine hK _ ?_; clear hK K)
  all_goals
   refine zbo (zce [] [] (by simp [List.range_succ, zbd, zbh, zbf]) (by simp) ?_)
   simp (disch := omega) [zbj, gE, tP, DtCmd.cells, zb3, zbx]
   all_goals ((have e : i = us.length := by omega); subst e; rw [zt9 _ _ _ _ _ (by omega), List.take_of_length_le (by omega)]; exact ⟨rfl, rfl⟩)
theorem toCmdX (u : DtCmd) (hs : DtCmd.sz u ≤ 1048576) : XCall Try.prog 12 [.agg (DtCmd.cells u)] [] (.agg [.g (.int .i64 u.fKind), .g (.int .i64 u.fClient), .g (.int .i64 u.fNo), .s u.fSet, .s u.fName, .s u.fTag, .g (.int .i64 u.fN), .arr 16 0 u.fChunks.length]) [] [.own 1 (u.fChunks.map cS)] := by
 simp only [DtCmd.sz] at hs
 have hz1 := zc9 zch u.fChunks
 refine zby Try.func12 (by rfl) (by rfl) (by rw [Try.ntmps12]; exact Nat.le_of_ble_eq_true rfl) rfl (by simp) rfl rfl ?_
 rw [Try.ntmps12]
 refine zgw   ?_
 refine AW_k [(0, _)] ⟨rfl, trivial⟩ ?_
 refine AW_x rfl rfl fun K hK => ?_
 simp (disch := omega) [zbj, gE, tP, DtCmd.cells]
 repeat' first | (refine ⟨by omega, ?_⟩) | (intro _)
 refine hK _ ?_; clear hK K
 refine AW_x rfl rfl fun K hK => ?_
 simp (disch := omega) [zbj, gE, tP, DtCmd.cells]
 repeat' first | (refine ⟨by omega, ?_⟩) | (intro _)
 refine hK _ ?_; clear hK K
 refine AW_x rfl rfl fun K hK => ?_
 simp (disch := omega) [zbj, gE, tP, DtCmd.cells]
 repeat' first | (refine ⟨by omega, ?_⟩) | (intro _)
 refine hK _ ?_; clear hK K
 refine AW_x rfl rfl fun K hK => ?_
 simp (disch := omega) [zbj, gE, tP, DtCmd.cells]
 repeat' first | (refine ⟨by omega, ?_⟩) | (intro _)
 refine hK _ ?_; clear hK K
 refine AW_x rfl rfl fun K hK => ?_
 simp (disch := omega) [zbj, gE, tP, DtCmd.cells]
 repeat' first | (refine ⟨by omega, ?_⟩) | (intro _)
 refine hK _ ?_; clear hK K
 refine AW_x rfl rfl fun K hK => ?_
 simp (disch := omega) [zbj, gE, tP, DtCmd.cells]
 repeat' first | (refine ⟨by omega, ?_⟩) | (intro _)
 refine hK _ ?_; clear hK K
 refine AW_x rfl rfl fun K hK => ?_
 simp (disch := omega) [zbj, gE, tP, DtCmd.cells]
 repeat' first | (refine ⟨by omega, ?_⟩) | (intro _)
 refine hK _ ?_; clear hK K
 refine AW_x rfl rfl fun K hK => ?_
 simp (disch := omega) [zbj, gE, tP, DtCmd.cells]
 repeat' first | (refine ⟨by omega, ?_⟩) | (intro _)
 refine hK _ ?_; clear hK K
 refine AW_x rfl rfl fun K hK => ?_
 simp (disch := omega) [zbj, gE, tP, DtCmd.cells]
 repeat' first | (refine ⟨by omega, ?_⟩) | (intro _)
 refine hK _ ?_; clear hK K
 refine AW_x rfl rfl fun K hK => ?_
 simp (disch := omega) [zbj, gE, tP, DtCmd.cells]
 repeat' first | (exfalso; omega) | (refine zdq [] true [] (zwr u.fChunks (by omega)) ?_ ?_ ?_; (focus (simp [List.range_succ, nmC]; done)); (focus (simp (disch := omega) [zbj, gE, tP, DtCmd.cells, zbp]; done)); simp (disch := omega) [zbj, gE, tP, DtCmd.cells]) | (refine ⟨by omega, ?_⟩) | (intro _)
 refine hK _ ?_; clear hK K
 refine AW_x rfl rfl fun K hK => ?_
 simp (disch := omega) [zbj, gE, tP, DtCmd.cells]
 repeat' first | (refine ⟨by omega, ?_⟩) | (intro _)
 refine hK _ ?_; clear hK K
 refine zbo (zce [448] [] (by simp [List.range_succ, zbd, zbh, zbf]) (by simp) ?_)
 simp (disch := omega) [zbj, gE, tP, DtCmd.cells]
 all_goals skip
theorem zn5 (us : List DtCmd) (hs : szS DtCmd.sz us ≤ 1048576) : XCall Try.prog 21 [.sl 8 (us.map DtCmd.cells)] [] (.arr 16 0 us.length) [] [.own 8 (us.map DtCmd.cells)] := by
 have hL : us.length ≤ 1048576 := by have := zc9 DtCmd.sz_nonneg us; omega
 refine zby Try.func21 (by rfl) (by rfl) (by rw [Try.ntmps21]; exact Nat.le_of_ble_eq_true rfl) rfl (by simp) rfl rfl ?_
 rw [Try.ntmps21]
 refine zgw   ?_
 refine AW_k [(0, _)] ⟨rfl, trivial⟩ ?_
 refine AW_x rfl rfl fun K hK => ?_
 simp (disch := omega) [zbj, gE, tP, DtCmd.cells, zhi, zbx, List.range_succ]
 repeat' first | (refine ⟨by omega, ?_⟩) | (intro _)
 refine hK _ ?_; clear hK K
 refine AW_x rfl rfl fun K hK => ?_
 simp (disch := omega) [zbj, gE, tP, DtCmd.cells, zhi, zbx, List.range_succ]
 repeat' first | (refine ⟨by omega, ?_⟩) | (intro _)
 refine hK _ ?_; clear hK K
 refine zbm ?_
 refine AW_x rfl rfl fun K hK => ?_
 simp (disch := omega) [zbj, gE, tP, DtCmd.cells, zhi, zbx, List.range_succ]
 repeat' first | (refine ⟨by omega, ?_⟩) | (intro _)
 refine hK _ ?_; clear hK K
 refine zbs ?_
 refine zb4 (fun mM sS => ∃ (i : Nat), mM = us.length - i ∧ (i ≤ us.length) ∧ sS = { env := lkE [(0, .sl 8 (us.map DtCmd.cells)), (3, .arr 128 0 us.length), (4, (.g (.int .i64 ((i : Nat)))))], ob := lk [(128, .own 8 (cpS [.g (.int .i64 0), .g (.int .i64 0), .g (.int .i64 0), .s [], .s [], .s [], .g (.int .i64 0), .g (.slice none 0 0)] DtCmd.cells us i))] }) ?_ ?_
 ·refine ⟨_, LeS.kx [(128, 128)] [(0, .sl 8 (us.map DtCmd.cells)), (3, .arr 128 0 us.length), (4, (.g (.int .i64 (((0) : Nat)))))] [(128, .own 8 (cpS [.g (.int .i64 0), .g (.int .i64 0), .g (.int .i64 0), .s [], .s [], .s [], .g (.int .i64 0), .g (.slice none 0 0)] DtCmd.cells us (0)))] (by simp [KpR, renV2, renV, zbf, zbt, zbd, zbh, cpS_0, zn4]; try (first | rfl | (omega; done))) (by simp [KpOX, renO, plO, cvO, renV, pl1, zbd, zbh, zbf, cpS_0, zn4]; try (first | rfl | (rw [← cpS_set _ _ _ i (by omega)]; simp [DtCmd.cells]; done))) (by rfl) (by simp) (by simp) (by rfl) (by simp [formsX, List.range_succ, zbd, zbh]), _, 0, rfl, ?_, rfl⟩
  ·simp
 ·rintro mM sS ⟨i, rfl, hi, rfl⟩
  have hln : (cpS [.g (.int .i64 0), .g (.int .i64 0), .g (.int .i64 0), .s [], .s [], .s [], .g (.int .i64 0), .g (.slice none 0 0)] DtCmd.cells us i).length = us.length := cpS_len _ _ _ _ hi
  refine zbm ?_
  refine AW_x rfl rfl fun K hK => ?_
  simp (disch := omega) [zbj, gE, tP, DtCmd.cells, zhi, zbx, List.range_succ]
  repeat' first | (refine ⟨by omega, ?_⟩) | (intro _)
  refine hK _ ?_; clear hK K
  refine zbl rfl (fun hc2 => ?_) (fun hc2 => ?_)
  ·try simp at hc2
   all_goals
    have hsE : DtCmd.sz us[i] ≤ 1048576 := by have := zcl DtCmd.sz_nonneg us us[i] (List.getElem_mem _); simp only [szS] at hs; omega
    refine zbn ?_
    refine zbr ?_
    refine zbm ?_
    refine zbs ?_
    refine zcr rfl rfl fun K hK => ?_
    simp (disch := omega) [zbj, gE, tP, DtCmd.cells, zhi, zbx, List.range_succ]
    repeat' first | (exfalso; omega) | (refine zdq [] true [] (toCmdX us[i] (by omega)) ?_ ?_ ?_; (focus (simp [List.range_succ, nmC]; done)); (focus (simp (disch := omega) [zbj, gE, tP, DtCmd.cells, zhi, zbx, List.range_succ, zbp]; done)); simp (disch := omega) [zbj, gE, tP, DtCmd.cells, zhi, zbx, List.range_succ]) | (refine ⟨fun _ => ?_, fun _ => ?_⟩) | (refine ⟨by omega, ?_⟩) | (intro _)
    all_goals (refine hK _ ?_; clear hK K)
    all_goals
     refine zbr ?_
     refine zcr rfl rfl fun K hK => ?_
     simp (disch := omega) [zbj, gE, tP, DtCmd.cells, zhi, zbx, List.range_succ]
     repeat' first | (refine ⟨by omega, ?_⟩) | (intro _)
     refine hK _ ?_; clear hK K
     refine ⟨_, LeS.kx [(128, 128)] [(0, .sl 8 (us.map DtCmd.cells)), (3, .arr 128 0 us.length), (4, (.g (.int .i64 (((i + 1) : Nat)))))] [(128, .own 8 (cpS [.g (.int .i64 0), .g (.int .i64 0), .g (.int .i64 0), .s [], .s [], .s [], .g (.int .i64 0), .g (.slice none 0 0)] DtCmd.cells us (i + 1)))] (by simp [KpR, renV2, renV, zbf, zbt, zbd, zbh, cpS_0, zn4]; try (first | rfl | (omega; done))) (by simp [KpOX, renO, plO, cvO, renV, pl1, zbd, zbh, zbf, cpS_0, zn4]; try (first | rfl | (rw [← cpS_set _ _ _ i (by omega)]; simp [DtCmd.cells]; done))) (by rfl) (by simp) (by simp) (by rfl) (by simp [formsX, List.range_succ, zbd, zbh]), _, ?_, i + 1, rfl, ?_, rfl⟩
     ·omega
     ·omega
  try simp at hc2
  refine zb9 ?_
  refine zbr ?_
  refine AW_x rfl rfl fun K hK => ?_
  simp (disch := omega) [zbj, gE, tP, DtCmd.cells, zhi, zbx, List.range_succ]
  repeat' first | (exfalso; omega) | (refine ⟨fun _ => ?_, fun _ => ?_⟩) | (refine ⟨by omega, ?_⟩) | (intro _)
  all_goals (refine hK _ ?_; clear hK K)
  all_goals
   refine zbo (zce [128] [] (by simp [List.range_succ, zbd, zbh, zbf]) (by simp) ?_)
   simp (disch := omega) [zbj, gE, tP, DtCmd.cells, zhi, zbx, List.range_succ]
   all_goals (rw [cpS_n _ _ _ _ (by omega)])
def mvCmd (k : Int) (u : DtCmd) : DtCmd := { fKind := u.fKind, fClient := u.fClient, fNo := u.fNo, fSet := u.fSet, fName := u.fName, fTag := u.fTag, fN := u.fN, fChunks := mkL mT (k) u.fChunks.length }
def cvCmd (u : DtCmd) : Int := (u.fChunks.length : Nat)
def mkCSnap (k : Int) (u : DtCSnap) : DtCSnap := { fName := mT (k), fTag := mT (k + 1), fChunks := mkL mT (k + 1 + 1) u.fChunks.length }
def cntCSnap (u : DtCSnap) : Int := 1 + 1 + (u.fChunks.length : Nat)
theorem zfz (u : DtCSnap) : 0 ≤ cntCSnap u := by
 unfold cntCSnap
 omega
theorem zsv (u : DtCSnap) : cntCSnap u ≤ 16 * (1 + DtCSnap.sz u) := by
 have := zc9 zch u.fChunks
 unfold cntCSnap
 simp only [DtCSnap.sz]
 omega
theorem zws (us : List DtCSnap) (k : Int) (hs : szS DtCSnap.sz us ≤ 1048576) (hk : 0 ≤ k ∧ k + cntS cntCSnap us ≤ 1073741824) : XCall Try.prog 108 [.arr 8 0 us.length, (.g (.int .i64 (k)))] [.own 3 (us.map DtCSnap.cells)] (.g (.int .i64 (k + cntS cntCSnap us))) [.own 3 ((mkS mkCSnap cntCSnap k us).map DtCSnap.cells)] [] := by
 have hL : us.length ≤ 1048576 := by have := zc9 DtCSnap.sz_nonneg us; omega
 refine zby Try.func108 (by rfl) (by rfl) (by rw [Try.ntmps108]; exact Nat.le_of_ble_eq_true rfl) rfl (by simp) rfl rfl ?_
 rw [Try.ntmps108]
 refine zh2 (.own 3 (us.map DtCSnap.cells)) (by simp [cvO] <;> assumption) ?_
 refine AW_k [(0, _), (1, _)] ⟨rfl, rfl, trivial⟩ ?_
 refine AW_x rfl rfl fun K hK => ?_
 simp (disch := omega) [zbj, gE, tP, DtCSnap.cells, zb3, zbx]
 repeat' first | (refine ⟨by omega, ?_⟩) | (intro _)
 refine hK _ ?_; clear hK K
 refine zbm ?_
 refine AW_x rfl rfl fun K hK => ?_
 simp (disch := omega) [zbj, gE, tP, DtCSnap.cells, zb3, zbx]
 repeat' first | (refine ⟨by omega, ?_⟩) | (intro _)
 refine hK _ ?_; clear hK K
 refine zbs ?_
 refine zb4 (fun mM sS => ∃ (i : Nat), mM = us.length - i ∧ (i ≤ us.length) ∧ sS = { env := lkE [(0, .arr 8 0 us.length), (1, (.g (.int .i64 (k + cntS cntCSnap (us.take i))))), (5, (.g (.int .i64 ((i : Nat)))))], ob := lk [(8, .own 3 ((mkSR mkCSnap cntCSnap k us i).map DtCSnap.cells))] }) ?_ ?_
 ·refine ⟨_, LeS.kx [(8, 8)] [(0, .arr 8 0 us.length), (1, (.g (.int .i64 (k + cntS cntCSnap (us.take (0)))))), (5, (.g (.int .i64 (((0) : Nat)))))] [(8, .own 3 ((mkSR mkCSnap cntCSnap k us (0)).map DtCSnap.cells))] (by simp [KpR, renV2, renV, zbf, zbt, zbd, zbh, zfd, zcp]; try (first | rfl | (omega; done))) (by simp [KpOX, renO, plO, cvO, renV, pl1, zbd, zbh, zbf, zfd, zcp]; try (first | rfl | (rw [← zf5 mkCSnap cntCSnap k us i (by omega), List.map_set]; refine zfa ?_; simp only [DtCSnap.cells, mkCSnap]; repeat' (first | rfl | (omega; done) | congr 1)))) (by rfl) (by simp) (by simp) (by rfl) (by simp [formsX, List.range_succ, zbd, zbh]), _, 0, rfl, ?_, rfl⟩
  ·simp
 ·rintro mM sS ⟨i, rfl, hi, rfl⟩
  have hln : (mkSR mkCSnap cntCSnap k us i).length = us.length := zkj _ _ _ _ _ hi
  refine zbm ?_
  refine AW_x rfl rfl fun K hK => ?_
  simp (disch := omega) [zbj, gE, tP, DtCSnap.cells, zb3, zbx]
  repeat' first | (refine ⟨by omega, ?_⟩) | (intro _)
  refine hK _ ?_; clear hK K
  refine zbl rfl (fun hc3 => ?_) (fun hc3 => ?_)
  ·try simp at hc3
   all_goals
    have hcl := zhn zfz us i (by omega)
    have hcu : cntCSnap us[i] = 1 + 1 + (us[i].fChunks.length : Nat) := rfl
    have hcs := zd9 cntCSnap us i (by omega)
    have hzn1 := zc9 zch us[i].fChunks
    have hsE : DtCSnap.sz us[i] ≤ 1048576 := by have := zcl DtCSnap.sz_nonneg us us[i] (List.getElem_mem _); simp only [szS] at hs; omega
    simp only [DtCSnap.sz] at hsE
    refine zbn ?_
    refine zbr ?_
    refine zbm ?_
    refine zbs ?_
    refine AW_x rfl rfl fun K hK => ?_
    simp (disch := omega) [zbj, gE, tP, DtCSnap.cells, zb3, zbx]
    repeat' first | (exfalso; omega) | (refine zdi (zbi zct zbu) (zc4 _ (by omega)) rfl ?_; simp (disch := omega) [zbj, gE, tP, DtCSnap.cells, zb3, zbx]) | (refine zdj (zc4 _ (by omega)) (by rfl) ?_ ?_; (focus (simp (disch := omega) [zbj, gE, tP, DtCSnap.cells, zb3, zbx, zbp]; done)); simp (disch := omega) [zbj, gE, tP, DtCSnap.cells, zb3, zbx]) | (refine ⟨fun _ => ?_, fun _ => ?_⟩) | (refine ⟨by omega, ?_⟩) | (intro _)
    all_goals (refine hK _ ?_; clear hK K)
    all_goals
     refine AW_x rfl rfl fun K hK => ?_
     simp (disch := omega) [zbj, gE, tP, DtCSnap.cells, zb3, zbx]
     repeat' first | (refine ⟨by omega, ?_⟩) | (intro _)
     refine hK _ ?_; clear hK K
     refine AW_x rfl rfl fun K hK => ?_
     simp (disch := omega) [zbj, gE, tP, DtCSnap.cells, zb3, zbx]
     repeat' first | (exfalso; omega) | (refine zdi (zbi zct zbu) (zc4 _ (by omega)) rfl ?_; simp (disch := omega) [zbj, gE, tP, DtCSnap.cells, zb3, zbx]) | (refine zdj (zc4 _ (by omega)) (by rfl) ?_ ?_; (focus (simp (disch := omega) [zbj, gE, tP, DtCSnap.cells, zb3, zbx, zbp]; done)); simp (disch := omega) [zbj, gE, tP, DtCSnap.cells, zb3, zbx]) | (refine ⟨by omega, ?_⟩) | (intro _)
     refine hK _ ?_; clear hK K
     refine AW_x rfl rfl fun K hK => ?_
     simp (disch := omega) [zbj, gE, tP, DtCSnap.cells, zb3, zbx]
     repeat' first | (refine ⟨by omega, ?_⟩) | (intro _)
     refine hK _ ?_; clear hK K
     refine zcr rfl rfl fun K hK => ?_
     simp (disch := omega) [zbj, gE, tP, DtCSnap.cells, zb3, zbx]
     repeat' first | (exfalso; omega) | (refine XKd_n (n := 8) (i := i) (f0 := 2) (zhm us[i].fChunks _ (by omega) (by omega)) ?_ ?_ ?_ ?_ rfl ?_ rfl ?_ ?_; (focus (simp; done)); (focus rfl); (focus rfl); (focus (simp [zdt, zd0]; done)); (focus (simp; done)); (focus first | exact ⟨_, zbx _ _ _ _ (by omega), rfl⟩ | exact ⟨_, by rw [List.getElem?_map, zkk _ _ _ _ _ (by omega)]; rfl, rfl⟩); simp (disch := omega) [zbj, gE, tP, DtCSnap.cells, zb3, zbx]) | (refine ⟨by omega, ?_⟩) | (intro _)
     refine hK _ ?_; clear hK K
     refine zbr ?_
     refine zcr rfl rfl fun K hK => ?_
     simp (disch := omega) [zbj, gE, tP, DtCSnap.cells, zb3, zbx]
     repeat' first | (refine ⟨by omega, ?_⟩) | (intro _)
     refine hK _ ?_; clear hK K
     refine ⟨_, LeS.kx [(8, 8)] [(0, .arr 8 0 us.length), (1, (.g (.int .i64 (k + cntS cntCSnap (us.take (i + 1)))))), (5, (.g (.int .i64 (((i + 1) : Nat)))))] [(8, .own 3 ((mkSR mkCSnap cntCSnap k us (i + 1)).map DtCSnap.cells))] (by simp [KpR, renV2, renV, zbf, zbt, zbd, zbh, zfd, zcp]; try (first | rfl | (omega; done))) (by simp [KpOX, renO, plO, cvO, renV, pl1, zbd, zbh, zbf, zfd, zcp]; try (first | rfl | (rw [← zf5 mkCSnap cntCSnap k us i (by omega), List.map_set]; refine zfa ?_; simp only [DtCSnap.cells, mkCSnap]; repeat' (first | rfl | (omega; done) | congr 1)))) (by rfl) (by simp) (by simp) (by rfl) (by simp [formsX, List.range_succ, zbd, zbh]), _, ?_, i + 1, rfl, ?_, rfl⟩
     ·omega
     ·omega
  try simp at hc3
  refine zb9 ?_
  refine zbr ?_
  refine AW_x rfl rfl fun K hK => ?_
  simp (disch := omega) [zbj, gE, tP, DtCSnap.cells, zb3, zbx]
  repeat' first | (exfalso; omega) | (refine ⟨fun _ => ?_, fun _ => ?_⟩) | (refine ⟨by omega, ?_⟩) | (intro _)
  all_goals (refine hK _ ?_; clear hK K)
  all_goals
   refine zbo (zce [] [] (by simp [List.range_succ, zbd, zbh, zbf]) (by simp) ?_)
   simp (disch := omega) [zbj, gE, tP, DtCSnap.cells, zb3, zbx]
   all_goals ((have e : i = us.length := by omega); subst e; rw [zt9 _ _ _ _ _ (by omega), List.take_of_length_le (by omega)]; exact ⟨rfl, rfl⟩)
theorem zwt (us : List DtCSnap) (k : Int) (hs : szS DtCSnap.sz us ≤ 1048576) (hk : 0 ≤ k ∧ k + cntS cntCSnap us ≤ 1073741824) : PCall Try.prog 109 [.sl 3 ((mkS mkCSnap cntCSnap k us).map DtCSnap.cells), (.g (.int .i64 (k)))] (.g (.int .i64 (k + cntS cntCSnap us))) := by
 have hL : us.length ≤ 1048576 := by have := zc9 DtCSnap.sz_nonneg us; omega
 refine zbv Try.func109 (by rfl) (by rfl) (by rw [Try.ntmps109]; exact Nat.le_of_ble_eq_true rfl) rfl (by decide) ?_
 rw [Try.ntmps109]
 refine AW_k [(0, _), (1, _)] ⟨rfl, rfl, trivial⟩ ?_
 refine AW_r rfl rfl fun K hK => ?_
 simp (disch := omega) [zbj, gE, tP, DtCSnap.cells, zci, mkCSnap]
 repeat' first | (refine ⟨by omega, ?_⟩) | (intro _)
 refine hK _ ?_; clear hK K
 refine zbm ?_
 refine AW_r rfl rfl fun K hK => ?_
 simp (disch := omega) [zbj, gE, tP, DtCSnap.cells, zci, mkCSnap]
 repeat' first | (refine ⟨by omega, ?_⟩) | (intro _)
 refine hK _ ?_; clear hK K
 refine zbs ?_
 refine zb4 (fun mM sS => ∃ (i : Nat), mM = us.length - i ∧ (i ≤ us.length) ∧ sS = { env := lkE [(0, .sl 3 ((mkS mkCSnap cntCSnap k us).map DtCSnap.cells)), (1, (.g (.int .i64 (k + cntS cntCSnap (us.take i))))), (5, (.g (.int .i64 ((i : Nat)))))], ob := formOb [] [] }) ?_ ?_
 ·refine ⟨_, LeS.kp [(0, .sl 3 ((mkS mkCSnap cntCSnap k us).map DtCSnap.cells)), (1, (.g (.int .i64 (k + cntS cntCSnap (us.take (0)))))), (5, (.g (.int .i64 (((0) : Nat)))))] (by simp [KpE, zbf, zbt, zbd, zcp]; try (first | rfl | (omega; done))), _, 0, rfl, ?_, rfl⟩
  ·simp
 ·rintro mM sS ⟨i, rfl, hi, rfl⟩
  have hln : (mkS mkCSnap cntCSnap k us).length = us.length := zd0 _ _ _ _
  refine zbm ?_
  refine AW_r rfl rfl fun K hK => ?_
  simp (disch := omega) [zbj, gE, tP, DtCSnap.cells, zci, mkCSnap]
  repeat' first | (refine ⟨by omega, ?_⟩) | (intro _)
  refine hK _ ?_; clear hK K
  refine zbl rfl (fun hc4 => ?_) (fun hc4 => ?_)
  ·try simp at hc4
   all_goals
    have hcl := zhn zfz us i (by omega)
    have hcu : cntCSnap us[i] = 1 + 1 + (us[i].fChunks.length : Nat) := rfl
    have hcs := zd9 cntCSnap us i (by omega)
    have hzn1 := zc9 zch us[i].fChunks
    have hsE : DtCSnap.sz us[i] ≤ 1048576 := by have := zcl DtCSnap.sz_nonneg us us[i] (List.getElem_mem _); simp only [szS] at hs; omega
    simp only [DtCSnap.sz] at hsE
    refine zbn ?_
    refine zbr ?_
    refine zbm ?_
    refine zbs ?_
    refine zbm ?_
    refine AW_q rfl mix (by kernel_rfl) rfl fun K hK => ?_
    simp (disch := omega) [zbj, gE, tP, DtCSnap.cells, zci, mkCSnap]
    repeat' first | (exfalso; omega) | (refine zc3 (zbi zct zbu) (zc4 _ (by omega)) rfl ?_; simp (disch := omega) [zbj, gE, tP, DtCSnap.cells, zci, mkCSnap]) | (refine ⟨fun _ => ?_, fun _ => ?_⟩) | (refine ⟨by omega, ?_⟩) | (intro _)
    all_goals (refine hK _ ?_; clear hK K)
    all_goals
     refine zbl rfl (fun hc5 => ?_) (fun hc5 => ?_)
     ·try simp at hc5
      all_goals
       refine AW_r rfl rfl fun K hK => ?_
       simp (disch := omega) [zbj, gE, tP, DtCSnap.cells, zci, mkCSnap]
       repeat' first | (exfalso; omega) | (refine ⟨fun _ => ?_, fun _ => ?_⟩) | (refine ⟨by omega, ?_⟩) | (intro _)
       all_goals (refine hK _ ?_; clear hK K)
       all_goals
        refine zbo (zb5 ?_)
        simp (disch := omega) [zbj, gE, tP, DtCSnap.cells, zci, mkCSnap]
        all_goals first | omega | ((have e : i = us.length := by omega); subst e; rw [List.take_of_length_le (by omega)])
     try simp at hc5
     refine zbn ?_
     refine zbr ?_
     refine AW_r rfl rfl fun K hK => ?_
     simp (disch := omega) [zbj, gE, tP, DtCSnap.cells, zci, mkCSnap]
     repeat' first | (exfalso; omega) | (refine ⟨fun _ => ?_, fun _ => ?_⟩) | (refine ⟨by omega, ?_⟩) | (intro _)
     all_goals (refine hK _ ?_; clear hK K)
     all_goals
      refine zbm ?_
      refine AW_q rfl mix (by kernel_rfl) rfl fun K hK => ?_
      simp (disch := omega) [zbj, gE, tP, DtCSnap.cells, zci, mkCSnap]
      repeat' first | (exfalso; omega) | (refine zc3 (zbi zct zbu) (zc4 _ (by omega)) rfl ?_; simp (disch := omega) [zbj, gE, tP, DtCSnap.cells, zci, mkCSnap]) | (refine ⟨by omega, ?_⟩) | (intro _)
      refine hK _ ?_; clear hK K
      refine zbl rfl (fun hc6 => ?_) (fun hc6 => ?_)
      ·try simp at hc6
       all_goals
        refine AW_r rfl rfl fun K hK => ?_
        simp (disch := omega) [zbj, gE, tP, DtCSnap.cells, zci, mkCSnap]
        repeat' first | (exfalso; omega) | (refine ⟨fun _ => ?_, fun _ => ?_⟩) | (refine ⟨by omega, ?_⟩) | (intro _)
        all_goals (refine hK _ ?_; clear hK K)
        all_goals
         refine zbo (zb5 ?_)
         simp (disch := omega) [zbj, gE, tP, DtCSnap.cells, zci, mkCSnap]
         all_goals first | omega | ((have e : i = us.length := by omega); subst e; rw [List.take_of_length_le (by omega)])
      try simp at hc6
      refine zbn ?_
      refine zbr ?_
      refine AW_r rfl rfl fun K hK => ?_
      simp (disch := omega) [zbj, gE, tP, DtCSnap.cells, zci, mkCSnap]
      repeat' first | (exfalso; omega) | (refine ⟨fun _ => ?_, fun _ => ?_⟩) | (refine ⟨by omega, ?_⟩) | (intro _)
      all_goals (refine hK _ ?_; clear hK K)
      all_goals
       refine AW_r rfl rfl fun K hK => ?_
       simp (disch := omega) [zbj, gE, tP, DtCSnap.cells, zci, mkCSnap]
       repeat' first | (exfalso; omega) | (refine zc3 (zbi zc0 (zbi zct zbu)) (zfx us[i].fChunks.length _ (by omega) (by omega)) rfl ?_; simp (disch := omega) [zbj, gE, tP, DtCSnap.cells, zci, mkCSnap]) | (refine ⟨by omega, ?_⟩) | (intro _)
       refine hK _ ?_; clear hK K
       refine AW_r rfl rfl fun K hK => ?_
       simp (disch := omega) [zbj, gE, tP, DtCSnap.cells, zci, mkCSnap]
       repeat' first | (refine ⟨by omega, ?_⟩) | (intro _)
       refine hK _ ?_; clear hK K
       refine zbl rfl (fun hc7 => ?_) (fun hc7 => ?_)
       ·try simp at hc7
        all_goals
         refine AW_r rfl rfl fun K hK => ?_
         simp (disch := omega) [zbj, gE, tP, DtCSnap.cells, zci, mkCSnap]
         repeat' first | (exfalso; omega) | (refine ⟨fun _ => ?_, fun _ => ?_⟩) | (refine ⟨by omega, ?_⟩) | (intro _)
         all_goals (refine hK _ ?_; clear hK K)
         all_goals
          refine zbo (zb5 ?_)
          simp (disch := omega) [zbj, gE, tP, DtCSnap.cells, zci, mkCSnap]
          all_goals first | omega | ((have e : i = us.length := by omega); subst e; rw [List.take_of_length_le (by omega)])
       try simp at hc7
       refine zbn ?_
       refine zbr ?_
       refine zc6 rfl rfl fun K hK => ?_
       simp (disch := omega) [zbj, gE, tP, DtCSnap.cells, zci, mkCSnap]
       repeat' first | (exfalso; omega) | (refine ⟨fun _ => ?_, fun _ => ?_⟩) | (refine ⟨by omega, ?_⟩) | (intro _)
       all_goals (refine hK _ ?_; clear hK K)
       all_goals
        refine ⟨_, LeS.kp [(0, .sl 3 ((mkS mkCSnap cntCSnap k us).map DtCSnap.cells)), (1, (.g (.int .i64 (k + cntS cntCSnap (us.take (i + 1)))))), (5, (.g (.int .i64 (((i + 1) : Nat)))))] (by simp [KpE, zbf, zbt, zbd, zcp]; try (first | rfl | (omega; done))), _, ?_, i + 1, rfl, ?_, rfl⟩
        ·omega
        ·omega
  try simp at hc4
  refine zb9 ?_
  refine zbr ?_
  refine AW_r rfl rfl fun K hK => ?_
  simp (disch := omega) [zbj, gE, tP, DtCSnap.cells, zci, mkCSnap]
  repeat' first | (exfalso; omega) | (refine ⟨fun _ => ?_, fun _ => ?_⟩) | (refine ⟨by omega, ?_⟩) | (intro _)
  all_goals (refine hK _ ?_; clear hK K)
  all_goals
   refine zbo (zb5 ?_)
   simp (disch := omega) [zbj, gE, tP, DtCSnap.cells, zci, mkCSnap]
   all_goals first | omega | ((have e : i = us.length := by omega); subst e; rw [List.take_of_length_le (by omega)])
def mkCSet (k : Int) (u : DtCSet) : DtCSet := { fName := mT (k), fSnaps := mkS mkCSnap cntCSnap (k + 1) u.fSnaps }
def cntCSet (u : DtCSet) : Int := 1 + cntS cntCSnap u.fSnaps
theorem zdw (u : DtCSet) : 0 ≤ cntCSet u := by
 have := zdu zfz u.fSnaps
 unfold cntCSet
 omega
theorem zwu (u : DtCSet) : cntCSet u ≤ 16 * (1 + DtCSet.sz u) := by
 have := zq3 zsv u.fSnaps
 unfold cntCSet
 simp only [DtCSet.sz]
 omega
theorem markCSetS (us : List DtCSet) (k : Int) (hs : szS DtCSet.sz us ≤ 1048576) (hk : 0 ≤ k ∧ k + cntS cntCSet us ≤ 1073741824) : XCall Try.prog 67 [.arr 8 0 us.length, (.g (.int .i64 (k)))] [.own 2 (us.map DtCSet.cells)] (.g (.int .i64 (k + cntS cntCSet us))) [.own 2 ((mkS mkCSet cntCSet k us).map DtCSet.cells)] [] := by
 have hL : us.length ≤ 1048576 := by have := zc9 DtCSet.sz_nonneg us; omega
 refine zby Try.func67 (by rfl) (by rfl) (by rw [Try.ntmps67]; exact Nat.le_of_ble_eq_true rfl) rfl (by simp) rfl rfl ?_
 rw [Try.ntmps67]
 refine zh2 (.own 2 (us.map DtCSet.cells)) (by simp [cvO] <;> assumption) ?_
 refine AW_k [(0, _), (1, _)] ⟨rfl, rfl, trivial⟩ ?_
 refine AW_x rfl rfl fun K hK => ?_
 simp (disch := omega) [zbj, gE, tP, DtCSet.cells, zb3, zbx]
 repeat' first | (refine ⟨by omega, ?_⟩) | (intro _)
 refine hK _ ?_; clear hK K
 refine zbm ?_
 refine AW_x rfl rfl fun K hK => ?_
 simp (disch := omega) [zbj, gE, tP, DtCSet.cells, zb3, zbx]
 repeat' first | (refine ⟨by omega, ?_⟩) | (intro _)
 refine hK _ ?_; clear hK K
 refine zbs ?_
 refine zb4 (fun mM sS => ∃ (i : Nat), mM = us.length - i ∧ (i ≤ us.length) ∧ sS = { env := lkE [(0, .arr 8 0 us.length), (1, (.g (.int .i64 (k + cntS cntCSet (us.take i))))), (5, (.g (.int .i64 ((i : Nat)))))], ob := lk [(8, .own 2 ((mkSR mkCSet cntCSet k us i).map DtCSet.cells))] }) ?_ ?_
 ·refine ⟨_, LeS.kx [(8, 8)] [(0, .arr 8 0 us.length), (1, (.g (.int .i64 (k + cntS cntCSet (us.take (0)))))), (5, (.g (.int .i64 (((0) : Nat)))))] [(8, .own 2 ((mkSR mkCSet cntCSet k us (0)).map DtCSet.cells))] (by simp [KpR, renV2, renV, zbf, zbt, zbd, zbh, zfd, zcp]; try (first | rfl | (omega; done))) (by simp [KpOX, renO, plO, cvO, renV, pl1, zbd, zbh, zbf, zfd, zcp]; try (first | rfl | (rw [← zf5 mkCSet cntCSet k us i (by omega), List.map_set]; refine zfa ?_; simp only [DtCSet.cells, mkCSet]; repeat' (first | rfl | (omega; done) | congr 1)))) (by rfl) (by simp) (by simp) (by rfl) (by simp [formsX, List.range_succ, zbd, zbh]), _, 0, rfl, ?_, rfl⟩
  ·simp
 ·rintro mM sS ⟨i, rfl, hi, rfl⟩
  have hln : (mkSR mkCSet cntCSet k us i).length = us.length := zkj _ _ _ _ _ hi
  refine zbm ?_
  refine AW_x rfl rfl fun K hK => ?_
  simp (disch := omega) [zbj, gE, tP, DtCSet.cells, zb3, zbx]
  repeat' first | (refine ⟨by omega, ?_⟩) | (intro _)
  refine hK _ ?_; clear hK K
  refine zbl rfl (fun hc9 => ?_) (fun hc9 => ?_)
  ·try simp at hc9
   all_goals
    have hcl := zhn zdw us i (by omega)
    have hcu : cntCSet us[i] = 1 + cntS cntCSnap us[i].fSnaps := rfl
    have hcs := zd9 cntCSet us i (by omega)
    have hcn1 := zdu zfz us[i].fSnaps
    have hzn2 := zc9 DtCSnap.sz_nonneg us[i].fSnaps
    have hsE : DtCSet.sz us[i] ≤ 1048576 := by have := zcl DtCSet.sz_nonneg us us[i] (List.getElem_mem _); simp only [szS] at hs; omega
    simp only [DtCSet.sz] at hsE
    refine zbn ?_
    refine zbr ?_
    refine zbm ?_
    refine zbs ?_
    refine AW_x rfl rfl fun K hK => ?_
    simp (disch := omega) [zbj, gE, tP, DtCSet.cells, zb3, zbx]
    repeat' first | (exfalso; omega) | (refine zdi (zbi zct zbu) (zc4 _ (by omega)) rfl ?_; simp (disch := omega) [zbj, gE, tP, DtCSet.cells, zb3, zbx]) | (refine zdj (zc4 _ (by omega)) (by rfl) ?_ ?_; (focus (simp (disch := omega) [zbj, gE, tP, DtCSet.cells, zb3, zbx, zbp]; done)); simp (disch := omega) [zbj, gE, tP, DtCSet.cells, zb3, zbx]) | (refine ⟨fun _ => ?_, fun _ => ?_⟩) | (refine ⟨by omega, ?_⟩) | (intro _)
    all_goals (refine hK _ ?_; clear hK K)
    all_goals
     refine AW_x rfl rfl fun K hK => ?_
     simp (disch := omega) [zbj, gE, tP, DtCSet.cells, zb3, zbx]
     repeat' first | (refine ⟨by omega, ?_⟩) | (intro _)
     refine hK _ ?_; clear hK K
     refine zcr rfl rfl fun K hK => ?_
     simp (disch := omega) [zbj, gE, tP, DtCSet.cells, zb3, zbx]
     repeat' first | (exfalso; omega) | (refine XKd_n (n := 8) (i := i) (f0 := 1) (zws us[i].fSnaps _ (by omega) (by omega)) ?_ ?_ ?_ ?_ rfl ?_ rfl ?_ ?_; (focus (simp; done)); (focus rfl); (focus rfl); (focus (simp [zdt, zd0]; done)); (focus (simp; done)); (focus first | exact ⟨_, zbx _ _ _ _ (by omega), rfl⟩ | exact ⟨_, by rw [List.getElem?_map, zkk _ _ _ _ _ (by omega)]; rfl, rfl⟩); simp (disch := omega) [zbj, gE, tP, DtCSet.cells, zb3, zbx]) | (refine ⟨by omega, ?_⟩) | (intro _)
     refine hK _ ?_; clear hK K
     refine zbr ?_
     refine zcr rfl rfl fun K hK => ?_
     simp (disch := omega) [zbj, gE, tP, DtCSet.cells, zb3, zbx]
     repeat' first | (refine ⟨by omega, ?_⟩) | (intro _)
     refine hK _ ?_; clear hK K
     refine ⟨_, LeS.kx [(8, 8)] [(0, .arr 8 0 us.length), (1, (.g (.int .i64 (k + cntS cntCSet (us.take (i + 1)))))), (5, (.g (.int .i64 (((i + 1) : Nat)))))] [(8, .own 2 ((mkSR mkCSet cntCSet k us (i + 1)).map DtCSet.cells))] (by simp [KpR, renV2, renV, zbf, zbt, zbd, zbh, zfd, zcp]; try (first | rfl | (omega; done))) (by simp [KpOX, renO, plO, cvO, renV, pl1, zbd, zbh, zbf, zfd, zcp]; try (first | rfl | (rw [← zf5 mkCSet cntCSet k us i (by omega), List.map_set]; refine zfa ?_; simp only [DtCSet.cells, mkCSet]; repeat' (first | rfl | (omega; done) | congr 1)))) (by rfl) (by simp) (by simp) (by rfl) (by simp [formsX, List.range_succ, zbd, zbh]), _, ?_, i + 1, rfl, ?_, rfl⟩
     ·omega
     ·omega
  try simp at hc9
  refine zb9 ?_
  refine zbr ?_
  refine AW_x rfl rfl fun K hK => ?_
  simp (disch := omega) [zbj, gE, tP, DtCSet.cells, zb3, zbx]
  repeat' first | (exfalso; omega) | (refine ⟨fun _ => ?_, fun _ => ?_⟩) | (refine ⟨by omega, ?_⟩) | (intro _)
  all_goals (refine hK _ ?_; clear hK K)
  all_goals
   refine zbo (zce [] [] (by simp [List.range_succ, zbd, zbh, zbf]) (by simp) ?_)
   simp (disch := omega) [zbj, gE, tP, DtCSet.cells, zb3, zbx]
   all_goals ((have e : i = us.length := by omega); subst e; rw [zt9 _ _ _ _ _ (by omega), List.take_of_length_le (by omega)]; exact ⟨rfl, rfl⟩)
theorem heldCSetS (us : List DtCSet) (k : Int) (hs : szS DtCSet.sz us ≤ 1048576) (hk : 0 ≤ k ∧ k + cntS cntCSet us ≤ 1073741824) : PCall Try.prog 68 [.sl 2 ((mkS mkCSet cntCSet k us).map DtCSet.cells), (.g (.int .i64 (k)))] (.g (.int .i64 (k + cntS cntCSet us))) := by
 have hL : us.length ≤ 1048576 := by have := zc9 DtCSet.sz_nonneg us; omega
 refine zbv Try.func68 (by rfl) (by rfl) (by rw [Try.ntmps68]; exact Nat.le_of_ble_eq_true rfl) rfl (by decide) ?_
 rw [Try.ntmps68]
 refine AW_k [(0, _), (1, _)] ⟨rfl, rfl, trivial⟩ ?_
 refine AW_r rfl rfl fun K hK => ?_
 simp (disch := omega) [zbj, gE, tP, DtCSet.cells, zci, mkCSet]
 repeat' first | (refine ⟨by omega, ?_⟩) | (intro _)
 refine hK _ ?_; clear hK K
 refine zbm ?_
 refine AW_r rfl rfl fun K hK => ?_
 simp (disch := omega) [zbj, gE, tP, DtCSet.cells, zci, mkCSet]
 repeat' first | (refine ⟨by omega, ?_⟩) | (intro _)
 refine hK _ ?_; clear hK K
 refine zbs ?_
 refine zb4 (fun mM sS => ∃ (i : Nat), mM = us.length - i ∧ (i ≤ us.length) ∧ sS = { env := lkE [(0, .sl 2 ((mkS mkCSet cntCSet k us).map DtCSet.cells)), (1, (.g (.int .i64 (k + cntS cntCSet (us.take i))))), (5, (.g (.int .i64 ((i : Nat)))))], ob := formOb [] [] }) ?_ ?_
 ·refine ⟨_, LeS.kp [(0, .sl 2 ((mkS mkCSet cntCSet k us).map DtCSet.cells)), (1, (.g (.int .i64 (k + cntS cntCSet (us.take (0)))))), (5, (.g (.int .i64 (((0) : Nat)))))] (by simp [KpE, zbf, zbt, zbd, zcp]; try (first | rfl | (omega; done))), _, 0, rfl, ?_, rfl⟩
  ·simp
 ·rintro mM sS ⟨i, rfl, hi, rfl⟩
  have hln : (mkS mkCSet cntCSet k us).length = us.length := zd0 _ _ _ _
  refine zbm ?_
  refine AW_r rfl rfl fun K hK => ?_
  simp (disch := omega) [zbj, gE, tP, DtCSet.cells, zci, mkCSet]
  repeat' first | (refine ⟨by omega, ?_⟩) | (intro _)
  refine hK _ ?_; clear hK K
  refine zbl rfl (fun hc10 => ?_) (fun hc10 => ?_)
  ·try simp at hc10
   all_goals
    have hcl := zhn zdw us i (by omega)
    have hcu : cntCSet us[i] = 1 + cntS cntCSnap us[i].fSnaps := rfl
    have hcs := zd9 cntCSet us i (by omega)
    have hcn1 := zdu zfz us[i].fSnaps
    have hzn2 := zc9 DtCSnap.sz_nonneg us[i].fSnaps
    have hsE : DtCSet.sz us[i] ≤ 1048576 := by have := zcl DtCSet.sz_nonneg us us[i] (List.getElem_mem _); simp only [szS] at hs; omega
    simp only [DtCSet.sz] at hsE
    refine zbn ?_
    refine zbr ?_
    refine zbm ?_
    refine zbs ?_
    refine zbm ?_
    refine AW_q rfl mix (by kernel_rfl) rfl fun K hK => ?_
    simp (disch := omega) [zbj, gE, tP, DtCSet.cells, zci, mkCSet]
    repeat' first | (exfalso; omega) | (refine zc3 (zbi zct zbu) (zc4 _ (by omega)) rfl ?_; simp (disch := omega) [zbj, gE, tP, DtCSet.cells, zci, mkCSet]) | (refine ⟨fun _ => ?_, fun _ => ?_⟩) | (refine ⟨by omega, ?_⟩) | (intro _)
    all_goals (refine hK _ ?_; clear hK K)
    all_goals
     refine zbl rfl (fun hc11 => ?_) (fun hc11 => ?_)
     ·try simp at hc11
      all_goals
       refine AW_r rfl rfl fun K hK => ?_
       simp (disch := omega) [zbj, gE, tP, DtCSet.cells, zci, mkCSet]
       repeat' first | (exfalso; omega) | (refine ⟨fun _ => ?_, fun _ => ?_⟩) | (refine ⟨by omega, ?_⟩) | (intro _)
       all_goals (refine hK _ ?_; clear hK K)
       all_goals
        refine zbo (zb5 ?_)
        simp (disch := omega) [zbj, gE, tP, DtCSet.cells, zci, mkCSet]
        all_goals first | omega | ((have e : i = us.length := by omega); subst e; rw [List.take_of_length_le (by omega)])
     try simp at hc11
     refine zbn ?_
     refine zbr ?_
     refine AW_r rfl rfl fun K hK => ?_
     simp (disch := omega) [zbj, gE, tP, DtCSet.cells, zci, mkCSet]
     repeat' first | (exfalso; omega) | (refine ⟨fun _ => ?_, fun _ => ?_⟩) | (refine ⟨by omega, ?_⟩) | (intro _)
     all_goals (refine hK _ ?_; clear hK K)
     all_goals
      refine AW_r rfl rfl fun K hK => ?_
      simp (disch := omega) [zbj, gE, tP, DtCSet.cells, zci, mkCSet]
      repeat' first | (exfalso; omega) | (refine zc3 (zbi zc0 (zbi zct zbu)) (zwt us[i].fSnaps _ (by omega) (by omega)) rfl ?_; simp (disch := omega) [zbj, gE, tP, DtCSet.cells, zci, mkCSet]) | (refine ⟨by omega, ?_⟩) | (intro _)
      refine hK _ ?_; clear hK K
      refine AW_r rfl rfl fun K hK => ?_
      simp (disch := omega) [zbj, gE, tP, DtCSet.cells, zci, mkCSet]
      repeat' first | (refine ⟨by omega, ?_⟩) | (intro _)
      refine hK _ ?_; clear hK K
      refine zbl rfl (fun hc12 => ?_) (fun hc12 => ?_)
      ·try simp at hc12
       all_goals
        refine AW_r rfl rfl fun K hK => ?_
        simp (disch := omega) [zbj, gE, tP, DtCSet.cells, zci, mkCSet]
        repeat' first | (exfalso; omega) | (refine ⟨fun _ => ?_, fun _ => ?_⟩) | (refine ⟨by omega, ?_⟩) | (intro _)
        all_goals (refine hK _ ?_; clear hK K)
        all_goals
         refine zbo (zb5 ?_)
         simp (disch := omega) [zbj, gE, tP, DtCSet.cells, zci, mkCSet]
         all_goals first | omega | ((have e : i = us.length := by omega); subst e; rw [List.take_of_length_le (by omega)])
      try simp at hc12
      refine zbn ?_
      refine zbr ?_
      refine zc6 rfl rfl fun K hK => ?_
      simp (disch := omega) [zbj, gE, tP, DtCSet.cells, zci, mkCSet]
      repeat' first | (exfalso; omega) | (refine ⟨fun _ => ?_, fun _ => ?_⟩) | (refine ⟨by omega, ?_⟩) | (intro _)
      all_goals (refine hK _ ?_; clear hK K)
      all_goals
       refine ⟨_, LeS.kp [(0, .sl 2 ((mkS mkCSet cntCSet k us).map DtCSet.cells)), (1, (.g (.int .i64 (k + cntS cntCSet (us.take (i + 1)))))), (5, (.g (.int .i64 (((i + 1) : Nat)))))] (by simp [KpE, zbf, zbt, zbd, zcp]; try (first | rfl | (omega; done))), _, ?_, i + 1, rfl, ?_, rfl⟩
       ·omega
       ·omega
  try simp at hc10
  refine zb9 ?_
  refine zbr ?_
  refine AW_r rfl rfl fun K hK => ?_
  simp (disch := omega) [zbj, gE, tP, DtCSet.cells, zci, mkCSet]
  repeat' first | (exfalso; omega) | (refine ⟨fun _ => ?_, fun _ => ?_⟩) | (refine ⟨by omega, ?_⟩) | (intro _)
  all_goals (refine hK _ ?_; clear hK K)
  all_goals
   refine zbo (zb5 ?_)
   simp (disch := omega) [zbj, gE, tP, DtCSet.cells, zci, mkCSet]
   all_goals first | omega | ((have e : i = us.length := by omega); subst e; rw [List.take_of_length_le (by omega)])
def mkCatalog (k : Int) (u : DtCatalog) : DtCatalog := { fSets := mkS mkCSet cntCSet (k) u.fSets }
def cntCatalog (u : DtCatalog) : Int := cntS cntCSet u.fSets
def mvCatalog (k : Int) (u : DtCatalog) : DtCatalog := { fSets := mkS mkCSet cntCSet (k) u.fSets }
def cvCatalog (u : DtCatalog) : Int := cntS cntCSet u.fSets
theorem zjy (u : DtCatalog) : 0 ≤ cvCatalog u := by
 have := zdu zdw u.fSets
 unfold cvCatalog
 omega
theorem zsw (u : DtCatalog) (k : Int) (hs : DtCatalog.sz u ≤ 1048576) (hk : 0 ≤ k ∧ k + cvCatalog u ≤ 1073741824) : XCall Try.prog 16 [.agg [.arr 8 0 u.fSets.length], (.g (.int .i64 (k)))] [.own 2 (u.fSets.map DtCSet.cells)] (.g (.int .i64 (k + cvCatalog u))) [.own 2 ((mkS mkCSet cntCSet (k) u.fSets).map DtCSet.cells)] [] := by
 simp only [DtCatalog.sz] at hs
 have hz1 := zc9 DtCSet.sz_nonneg u.fSets
 have hy1 := zdu zdw u.fSets
 simp only [cvCatalog] at hk
 simp only [cvCatalog]
 refine zby Try.func16 (by rfl) (by rfl) (by rw [Try.ntmps16]; exact Nat.le_of_ble_eq_true rfl) rfl (by simp) rfl rfl ?_
 rw [Try.ntmps16]
 refine zh2 (.own 2 (u.fSets.map DtCSet.cells)) (by simp [cvO] <;> assumption) ?_
 refine AW_k [(0, _), (1, _)] ⟨rfl, rfl, trivial⟩ ?_
 refine AW_x rfl rfl fun K hK => ?_
 simp (disch := omega) [zbj, gE, tP, DtCatalog.cells]
 repeat' first | (refine ⟨by omega, ?_⟩) | (intro _)
 refine hK _ ?_; clear hK K
 refine AW_x rfl rfl fun K hK => ?_
 simp (disch := omega) [zbj, gE, tP, DtCatalog.cells]
 repeat' first | (exfalso; omega) | (refine zdq [8] true [] (markCSetS u.fSets (k) (by omega) (by omega)) ?_ ?_ ?_; (focus (simp [List.range_succ, nmC]; done)); (focus (simp (disch := omega) [zbj, gE, tP, DtCatalog.cells, zbp]; done)); simp (disch := omega) [zbj, gE, tP, DtCatalog.cells]) | (refine ⟨by omega, ?_⟩) | (intro _)
 refine hK _ ?_; clear hK K
 refine AW_x rfl rfl fun K hK => ?_
 simp (disch := omega) [zbj, gE, tP, DtCatalog.cells]
 repeat' first | (refine ⟨by omega, ?_⟩) | (intro _)
 refine hK _ ?_; clear hK K
 refine zbo (zce [] [] (by simp [List.range_succ, zbd, zbh, zbf]) (by simp) ?_)
 simp (disch := omega) [zbj, gE, tP, DtCatalog.cells]
 all_goals (first | omega | exact ⟨by omega, rfl⟩ | exact ⟨by omega, rfl, rfl⟩ | skip)
theorem zsx (u : DtCatalog) (k : Int) (hs : DtCatalog.sz u ≤ 1048576) (hk : 0 ≤ k ∧ k + cvCatalog u ≤ 1073741824) : PCall Try.prog 18 [.agg (DtCatalog.cells (mvCatalog k u)), (.g (.int .i64 (k)))] (.g (.int .i64 (k + cvCatalog u))) := by
 simp only [DtCatalog.sz] at hs
 have hz1 := zc9 DtCSet.sz_nonneg u.fSets
 have hy1 := zdu zdw u.fSets
 simp only [cvCatalog] at hk
 simp only [cvCatalog]
 refine zbv Try.func18 (by rfl) (by rfl) (by rw [Try.ntmps18]; exact Nat.le_of_ble_eq_true rfl) rfl (by decide) ?_
 rw [Try.ntmps18]
 refine AW_k [(0, _), (1, _)] ⟨rfl, rfl, trivial⟩ ?_
 refine AW_r rfl rfl fun K hK => ?_
 simp (disch := omega) [zbj, gE, tP, DtCatalog.cells, mvCatalog]
 repeat' first | (refine ⟨by omega, ?_⟩) | (intro _)
 refine hK _ ?_; clear hK K
 refine AW_r rfl rfl fun K hK => ?_
 simp (disch := omega) [zbj, gE, tP, DtCatalog.cells, mvCatalog]
 repeat' first | (exfalso; omega) | (refine zc3 (zbi zc0 (zbi zct zbu)) (heldCSetS u.fSets (k) (by omega) (by omega)) rfl ?_; simp (disch := omega) [zbj, gE, tP, DtCatalog.cells, mvCatalog]) | (refine ⟨by omega, ?_⟩) | (intro _)
 refine hK _ ?_; clear hK K
 refine zbm ?_
 refine AW_r rfl rfl fun K hK => ?_
 simp (disch := omega) [zbj, gE, tP, DtCatalog.cells, mvCatalog]
 repeat' first | (refine ⟨by omega, ?_⟩) | (intro _)
 refine hK _ ?_; clear hK K
 refine zbl rfl (fun hc14 => ?_) (fun hc14 => ?_)
 ·try simp at hc14
  all_goals
   refine AW_r rfl rfl fun K hK => ?_
   simp (disch := omega) [zbj, gE, tP, DtCatalog.cells, mvCatalog]
   repeat' first | (exfalso; omega) | (refine ⟨fun _ => ?_, fun _ => ?_⟩) | (refine ⟨by omega, ?_⟩) | (intro _)
   all_goals (refine hK _ ?_; clear hK K)
   all_goals
    refine zbo (zb5 ?_)
    simp (disch := omega) [zbj, gE, tP, DtCatalog.cells, mvCatalog]
    all_goals (first | omega | skip)
 try simp at hc14
 refine zbn ?_
 refine zbr ?_
 refine AW_r rfl rfl fun K hK => ?_
 simp (disch := omega) [zbj, gE, tP, DtCatalog.cells, mvCatalog]
 repeat' first | (exfalso; omega) | (refine ⟨fun _ => ?_, fun _ => ?_⟩) | (refine ⟨by omega, ?_⟩) | (intro _)
 all_goals (refine hK _ ?_; clear hK K)
 all_goals
  refine zbo (zb5 ?_)
  simp (disch := omega) [zbj, gE, tP, DtCatalog.cells, mvCatalog]
  all_goals (first | omega | skip)
def mkSaid (k : Int) (u : DtSaid) : DtSaid := { fClient := k, fNo := k + 1, fText := mT (k + 1 + 1) }
def cntSaid (u : DtSaid) : Int := 1 + 1 + 1
theorem zgf (u : DtSaid) : 0 ≤ cntSaid u := by
 unfold cntSaid
 omega
theorem zwv (u : DtSaid) : cntSaid u ≤ 16 * (1 + DtSaid.sz u) := by
 unfold cntSaid
 simp only [DtSaid.sz]
 omega
theorem markSaidS (us : List DtSaid) (k : Int) (hs : szS DtSaid.sz us ≤ 1048576) (hk : 0 ≤ k ∧ k + cntS cntSaid us ≤ 1073741824) : XCall Try.prog 73 [.arr 8 0 us.length, (.g (.int .i64 (k)))] [.own 3 (us.map DtSaid.cells)] (.g (.int .i64 (k + cntS cntSaid us))) [.own 3 ((mkS mkSaid cntSaid k us).map DtSaid.cells)] [] := by
 have hL : us.length ≤ 1048576 := by have := zc9 DtSaid.sz_nonneg us; omega
 refine zby Try.func73 (by rfl) (by rfl) (by rw [Try.ntmps73]; exact Nat.le_of_ble_eq_true rfl) rfl (by simp) rfl rfl ?_
 rw [Try.ntmps73]
 refine zh2 (.own 3 (us.map DtSaid.cells)) (by simp [cvO] <;> assumption) ?_
 refine AW_k [(0, _), (1, _)] ⟨rfl, rfl, trivial⟩ ?_
 refine AW_x rfl rfl fun K hK => ?_
 simp (disch := omega) [zbj, gE, tP, DtSaid.cells, zb3, zbx]
 repeat' first | (refine ⟨by omega, ?_⟩) | (intro _)
 refine hK _ ?_; clear hK K
 refine zbm ?_
 refine AW_x rfl rfl fun K hK => ?_
 simp (disch := omega) [zbj, gE, tP, DtSaid.cells, zb3, zbx]
 repeat' first | (refine ⟨by omega, ?_⟩) | (intro _)
 refine hK _ ?_; clear hK K
 refine zbs ?_
 refine zb4 (fun mM sS => ∃ (i : Nat), mM = us.length - i ∧ (i ≤ us.length) ∧ sS = { env := lkE [(0, .arr 8 0 us.length), (1, (.g (.int .i64 (k + cntS cntSaid (us.take i))))), (5, (.g (.int .i64 ((i : Nat)))))], ob := lk [(8, .own 3 ((mkSR mkSaid cntSaid k us i).map DtSaid.cells))] }) ?_ ?_
 ·refine ⟨_, LeS.kx [(8, 8)] [(0, .arr 8 0 us.length), (1, (.g (.int .i64 (k + cntS cntSaid (us.take (0)))))), (5, (.g (.int .i64 (((0) : Nat)))))] [(8, .own 3 ((mkSR mkSaid cntSaid k us (0)).map DtSaid.cells))] (by simp [KpR, renV2, renV, zbf, zbt, zbd, zbh, zfd, zcp]; try (first | rfl | (omega; done))) (by simp [KpOX, renO, plO, cvO, renV, pl1, zbd, zbh, zbf, zfd, zcp]; try (first | rfl | (rw [← zf5 mkSaid cntSaid k us i (by omega), List.map_set]; refine zfa ?_; simp only [DtSaid.cells, mkSaid]; repeat' (first | rfl | (omega; done) | congr 1)))) (by rfl) (by simp) (by simp) (by rfl) (by simp [formsX, List.range_succ, zbd, zbh]), _, 0, rfl, ?_, rfl⟩
  ·simp
 ·rintro mM sS ⟨i, rfl, hi, rfl⟩
  have hln : (mkSR mkSaid cntSaid k us i).length = us.length := zkj _ _ _ _ _ hi
  refine zbm ?_
  refine AW_x rfl rfl fun K hK => ?_
  simp (disch := omega) [zbj, gE, tP, DtSaid.cells, zb3, zbx]
  repeat' first | (refine ⟨by omega, ?_⟩) | (intro _)
  refine hK _ ?_; clear hK K
  refine zbl rfl (fun hc15 => ?_) (fun hc15 => ?_)
  ·try simp at hc15
   all_goals
    have hcl := zhn zgf us i (by omega)
    have hcu : cntSaid us[i] = 1 + 1 + 1 := rfl
    have hcs := zd9 cntSaid us i (by omega)
    have hsE : DtSaid.sz us[i] ≤ 1048576 := by have := zcl DtSaid.sz_nonneg us us[i] (List.getElem_mem _); simp only [szS] at hs; omega
    simp only [DtSaid.sz] at hsE
    refine zbn ?_
    refine zbr ?_
    refine zbm ?_
    refine zbs ?_
    refine AW_x rfl rfl fun K hK => ?_
    simp (disch := omega) [zbj, gE, tP, DtSaid.cells, zb3, zbx]
    repeat' first | (exfalso; omega) | (refine ⟨fun _ => ?_, fun _ => ?_⟩) | (refine ⟨by omega, ?_⟩) | (intro _)
    all_goals (refine hK _ ?_; clear hK K)
    all_goals
     refine AW_x rfl rfl fun K hK => ?_
     simp (disch := omega) [zbj, gE, tP, DtSaid.cells, zb3, zbx]
     repeat' first | (refine ⟨by omega, ?_⟩) | (intro _)
     refine hK _ ?_; clear hK K
     refine AW_x rfl rfl fun K hK => ?_
     simp (disch := omega) [zbj, gE, tP, DtSaid.cells, zb3, zbx]
     repeat' first | (refine ⟨by omega, ?_⟩) | (intro _)
     refine hK _ ?_; clear hK K
     refine AW_x rfl rfl fun K hK => ?_
     simp (disch := omega) [zbj, gE, tP, DtSaid.cells, zb3, zbx]
     repeat' first | (refine ⟨by omega, ?_⟩) | (intro _)
     refine hK _ ?_; clear hK K
     refine AW_x rfl rfl fun K hK => ?_
     simp (disch := omega) [zbj, gE, tP, DtSaid.cells, zb3, zbx]
     repeat' first | (exfalso; omega) | (refine zdi (zbi zct zbu) (zc4 _ (by omega)) rfl ?_; simp (disch := omega) [zbj, gE, tP, DtSaid.cells, zb3, zbx]) | (refine zdj (zc4 _ (by omega)) (by rfl) ?_ ?_; (focus (simp (disch := omega) [zbj, gE, tP, DtSaid.cells, zb3, zbx, zbp]; done)); simp (disch := omega) [zbj, gE, tP, DtSaid.cells, zb3, zbx]) | (refine ⟨by omega, ?_⟩) | (intro _)
     refine hK _ ?_; clear hK K
     refine zcr rfl rfl fun K hK => ?_
     simp (disch := omega) [zbj, gE, tP, DtSaid.cells, zb3, zbx]
     repeat' first | (refine ⟨by omega, ?_⟩) | (intro _)
     refine hK _ ?_; clear hK K
     refine zbr ?_
     refine zcr rfl rfl fun K hK => ?_
     simp (disch := omega) [zbj, gE, tP, DtSaid.cells, zb3, zbx]
     repeat' first | (refine ⟨by omega, ?_⟩) | (intro _)
     refine hK _ ?_; clear hK K
     refine ⟨_, LeS.kx [(8, 8)] [(0, .arr 8 0 us.length), (1, (.g (.int .i64 (k + cntS cntSaid (us.take (i + 1)))))), (5, (.g (.int .i64 (((i + 1) : Nat)))))] [(8, .own 3 ((mkSR mkSaid cntSaid k us (i + 1)).map DtSaid.cells))] (by simp [KpR, renV2, renV, zbf, zbt, zbd, zbh, zfd, zcp]; try (first | rfl | (omega; done))) (by simp [KpOX, renO, plO, cvO, renV, pl1, zbd, zbh, zbf, zfd, zcp]; try (first | rfl | (rw [← zf5 mkSaid cntSaid k us i (by omega), List.map_set]; refine zfa ?_; simp only [DtSaid.cells, mkSaid]; repeat' (first | rfl | (omega; done) | congr 1)))) (by rfl) (by simp) (by simp) (by rfl) (by simp [formsX, List.range_succ, zbd, zbh]), _, ?_, i + 1, rfl, ?_, rfl⟩
     ·omega
     ·omega
  try simp at hc15
  refine zb9 ?_
  refine zbr ?_
  refine AW_x rfl rfl fun K hK => ?_
  simp (disch := omega) [zbj, gE, tP, DtSaid.cells, zb3, zbx]
  repeat' first | (exfalso; omega) | (refine ⟨fun _ => ?_, fun _ => ?_⟩) | (refine ⟨by omega, ?_⟩) | (intro _)
  all_goals (refine hK _ ?_; clear hK K)
  all_goals
   refine zbo (zce [] [] (by simp [List.range_succ, zbd, zbh, zbf]) (by simp) ?_)
   simp (disch := omega) [zbj, gE, tP, DtSaid.cells, zb3, zbx]
   all_goals ((have e : i = us.length := by omega); subst e; rw [zt9 _ _ _ _ _ (by omega), List.take_of_length_le (by omega)]; exact ⟨rfl, rfl⟩)
theorem heldSaidS (us : List DtSaid) (k : Int) (hs : szS DtSaid.sz us ≤ 1048576) (hk : 0 ≤ k ∧ k + cntS cntSaid us ≤ 1073741824) : PCall Try.prog 74 [.sl 3 ((mkS mkSaid cntSaid k us).map DtSaid.cells), (.g (.int .i64 (k)))] (.g (.int .i64 (k + cntS cntSaid us))) := by
 have hL : us.length ≤ 1048576 := by have := zc9 DtSaid.sz_nonneg us; omega
 refine zbv Try.func74 (by rfl) (by rfl) (by rw [Try.ntmps74]; exact Nat.le_of_ble_eq_true rfl) rfl (by decide) ?_
 rw [Try.ntmps74]
 refine AW_k [(0, _), (1, _)] ⟨rfl, rfl, trivial⟩ ?_
 refine AW_r rfl rfl fun K hK => ?_
 simp (disch := omega) [zbj, gE, tP, DtSaid.cells, zci, mkSaid]
 repeat' first | (refine ⟨by omega, ?_⟩) | (intro _)
 refine hK _ ?_; clear hK K
 refine zbm ?_
 refine AW_r rfl rfl fun K hK => ?_
 simp (disch := omega) [zbj, gE, tP, DtSaid.cells, zci, mkSaid]
 repeat' first | (refine ⟨by omega, ?_⟩) | (intro _)
 refine hK _ ?_; clear hK K
 refine zbs ?_
 refine zb4 (fun mM sS => ∃ (i : Nat), mM = us.length - i ∧ (i ≤ us.length) ∧ sS = { env := lkE [(0, .sl 3 ((mkS mkSaid cntSaid k us).map DtSaid.cells)), (1, (.g (.int .i64 (k + cntS cntSaid (us.take i))))), (5, (.g (.int .i64 ((i : Nat)))))], ob := formOb [] [] }) ?_ ?_
 ·refine ⟨_, LeS.kp [(0, .sl 3 ((mkS mkSaid cntSaid k us).map DtSaid.cells)), (1, (.g (.int .i64 (k + cntS cntSaid (us.take (0)))))), (5, (.g (.int .i64 (((0) : Nat)))))] (by simp [KpE, zbf, zbt, zbd, zcp]; try (first | rfl | (omega; done))), _, 0, rfl, ?_, rfl⟩
  ·simp
 ·rintro mM sS ⟨i, rfl, hi, rfl⟩
  have hln : (mkS mkSaid cntSaid k us).length = us.length := zd0 _ _ _ _
  refine zbm ?_
  refine AW_r rfl rfl fun K hK => ?_
  simp (disch := omega) [zbj, gE, tP, DtSaid.cells, zci, mkSaid]
  repeat' first | (refine ⟨by omega, ?_⟩) | (intro _)
  refine hK _ ?_; clear hK K
  refine zbl rfl (fun hc16 => ?_) (fun hc16 => ?_)
  ·try simp at hc16
   all_goals
    have hcl := zhn zgf us i (by omega)
    have hcu : cntSaid us[i] = 1 + 1 + 1 := rfl
    have hcs := zd9 cntSaid us i (by omega)
    have hsE : DtSaid.sz us[i] ≤ 1048576 := by have := zcl DtSaid.sz_nonneg us us[i] (List.getElem_mem _); simp only [szS] at hs; omega
    simp only [DtSaid.sz] at hsE
    refine zbn ?_
    refine zbr ?_
    refine zbm ?_
    refine zbs ?_
    refine zbm ?_
    refine AW_r rfl rfl fun K hK => ?_
    simp (disch := omega) [zbj, gE, tP, DtSaid.cells, zci, mkSaid]
    repeat' first | (exfalso; omega) | (refine ⟨fun _ => ?_, fun _ => ?_⟩) | (refine ⟨by omega, ?_⟩) | (intro _)
    all_goals (refine hK _ ?_; clear hK K)
    all_goals
     refine zbl rfl (fun hc17 => ?_) (fun hc17 => ?_)
     ·try simp at hc17
      all_goals
       refine AW_r rfl rfl fun K hK => ?_
       simp (disch := omega) [zbj, gE, tP, DtSaid.cells, zci, mkSaid]
       repeat' first | (exfalso; omega) | (refine ⟨fun _ => ?_, fun _ => ?_⟩) | (refine ⟨by omega, ?_⟩) | (intro _)
       all_goals (refine hK _ ?_; clear hK K)
       all_goals
        refine zbo (zb5 ?_)
        simp (disch := omega) [zbj, gE, tP, DtSaid.cells, zci, mkSaid]
        all_goals first | omega | ((have e : i = us.length := by omega); subst e; rw [List.take_of_length_le (by omega)])
     try simp at hc17
     refine zbn ?_
     refine zbr ?_
     refine AW_r rfl rfl fun K hK => ?_
     simp (disch := omega) [zbj, gE, tP, DtSaid.cells, zci, mkSaid]
     repeat' first | (exfalso; omega) | (refine ⟨fun _ => ?_, fun _ => ?_⟩) | (refine ⟨by omega, ?_⟩) | (intro _)
     all_goals (refine hK _ ?_; clear hK K)
     all_goals
      refine zbm ?_
      refine AW_r rfl rfl fun K hK => ?_
      simp (disch := omega) [zbj, gE, tP, DtSaid.cells, zci, mkSaid]
      repeat' first | (refine ⟨by omega, ?_⟩) | (intro _)
      refine hK _ ?_; clear hK K
      refine zbl rfl (fun hc18 => ?_) (fun hc18 => ?_)
      ·try simp at hc18
       all_goals
        refine AW_r rfl rfl fun K hK => ?_
        simp (disch := omega) [zbj, gE, tP, DtSaid.cells, zci, mkSaid]
        repeat' first | (exfalso; omega) | (refine ⟨fun _ => ?_, fun _ => ?_⟩) | (refine ⟨by omega, ?_⟩) | (intro _)
        all_goals (refine hK _ ?_; clear hK K)
        all_goals
         refine zbo (zb5 ?_)
         simp (disch := omega) [zbj, gE, tP, DtSaid.cells, zci, mkSaid]
         all_goals first | omega | ((have e : i = us.length := by omega); subst e; rw [List.take_of_length_le (by omega)])
      try simp at hc18
      refine zbn ?_
      refine zbr ?_
      refine AW_r rfl rfl fun K hK => ?_
      simp (disch := omega) [zbj, gE, tP, DtSaid.cells, zci, mkSaid]
      repeat' first | (exfalso; omega) | (refine ⟨fun _ => ?_, fun _ => ?_⟩) | (refine ⟨by omega, ?_⟩) | (intro _)
      all_goals (refine hK _ ?_; clear hK K)
      all_goals
       refine zbm ?_
       refine AW_q rfl mix (by kernel_rfl) rfl fun K hK => ?_
       simp (disch := omega) [zbj, gE, tP, DtSaid.cells, zci, mkSaid]
       repeat' first | (exfalso; omega) | (refine zc3 (zbi zct zbu) (zc4 _ (by omega)) rfl ?_; simp (disch := omega) [zbj, gE, tP, DtSaid.cells, zci, mkSaid]) | (refine ⟨by omega, ?_⟩) | (intro _)
       refine hK _ ?_; clear hK K
       refine zbl rfl (fun hc19 => ?_) (fun hc19 => ?_)
       ·try simp at hc19
        all_goals
         refine AW_r rfl rfl fun K hK => ?_
         simp (disch := omega) [zbj, gE, tP, DtSaid.cells, zci, mkSaid]
         repeat' first | (exfalso; omega) | (refine ⟨fun _ => ?_, fun _ => ?_⟩) | (refine ⟨by omega, ?_⟩) | (intro _)
         all_goals (refine hK _ ?_; clear hK K)
         all_goals
          refine zbo (zb5 ?_)
          simp (disch := omega) [zbj, gE, tP, DtSaid.cells, zci, mkSaid]
          all_goals first | omega | ((have e : i = us.length := by omega); subst e; rw [List.take_of_length_le (by omega)])
       try simp at hc19
       refine zbn ?_
       refine zbr ?_
       refine zc6 rfl rfl fun K hK => ?_
       simp (disch := omega) [zbj, gE, tP, DtSaid.cells, zci, mkSaid]
       repeat' first | (exfalso; omega) | (refine ⟨fun _ => ?_, fun _ => ?_⟩) | (refine ⟨by omega, ?_⟩) | (intro _)
       all_goals (refine hK _ ?_; clear hK K)
       all_goals
        refine zbr ?_
        refine zc6 rfl rfl fun K hK => ?_
        simp (disch := omega) [zbj, gE, tP, DtSaid.cells, zci, mkSaid]
        repeat' first | (refine ⟨by omega, ?_⟩) | (intro _)
        refine hK _ ?_; clear hK K
        refine ⟨_, LeS.kp [(0, .sl 3 ((mkS mkSaid cntSaid k us).map DtSaid.cells)), (1, (.g (.int .i64 (k + cntS cntSaid (us.take (i + 1)))))), (5, (.g (.int .i64 (((i + 1) : Nat)))))] (by simp [KpE, zbf, zbt, zbd, zcp]; try (first | rfl | (omega; done))), _, ?_, i + 1, rfl, ?_, rfl⟩
        ·omega
        ·omega
  try simp at hc16
  refine zb9 ?_
  refine zbr ?_
  refine AW_r rfl rfl fun K hK => ?_
  simp (disch := omega) [zbj, gE, tP, DtSaid.cells, zci, mkSaid]
  repeat' first | (exfalso; omega) | (refine ⟨fun _ => ?_, fun _ => ?_⟩) | (refine ⟨by omega, ?_⟩) | (intro _)
  all_goals (refine hK _ ?_; clear hK K)
  all_goals
   refine zbo (zb5 ?_)
   simp (disch := omega) [zbj, gE, tP, DtSaid.cells, zci, mkSaid]
   all_goals first | omega | ((have e : i = us.length := by omega); subst e; rw [List.take_of_length_le (by omega)])
def mkState (k : Int) (u : DtState) : DtState := { fCat := { fSets := mkS mkCSet cntCSet (k) u.fCat.fSets }, fSaid := mkS mkSaid cntSaid (k + cntS cntCSet u.fCat.fSets) u.fSaid }
def cntState (u : DtState) : Int := cntS cntCSet u.fCat.fSets + cntS cntSaid u.fSaid
theorem zsy (u : DtState) : cntState u ≤ 16 * (1 + DtState.sz u) := by
 have := zq3 zwu u.fCat.fSets
 have := zq3 zwv u.fSaid
 unfold cntState
 simp only [DtState.sz, DtCatalog.sz]
 omega
def mvState (k : Int) (u : DtState) : DtState := { fCat := { fSets := mkS mkCSet cntCSet (k) u.fCat.fSets }, fSaid := mkS mkSaid cntSaid (k + cntS cntCSet u.fCat.fSets) u.fSaid }
def cvState (u : DtState) : Int := cntS cntCSet u.fCat.fSets + cntS cntSaid u.fSaid
theorem zww (u : DtState) : 0 ≤ cvState u := by
 have := zdu zdw u.fCat.fSets
 have := zdu zgf u.fSaid
 unfold cvState
 omega
theorem markState (u : DtState) (k : Int) (hs : DtState.sz u ≤ 1048576) (hk : 0 ≤ k ∧ k + cvState u ≤ 1073741824) : XCall Try.prog 31 [.agg [.arr 8 0 u.fCat.fSets.length, .arr 9 0 u.fSaid.length], (.g (.int .i64 (k)))] [.own 2 (u.fCat.fSets.map DtCSet.cells), .own 3 (u.fSaid.map DtSaid.cells)] (.g (.int .i64 (k + cvState u))) [.own 2 ((mkS mkCSet cntCSet (k) u.fCat.fSets).map DtCSet.cells), .own 3 ((mkS mkSaid cntSaid (k + cntS cntCSet u.fCat.fSets) u.fSaid).map DtSaid.cells)] [] := by
 simp only [DtState.sz] at hs
 have hz1 := zc9 DtCSet.sz_nonneg u.fCat.fSets
 have hy1 := zdu zdw u.fCat.fSets
 have hz2 := zc9 DtSaid.sz_nonneg u.fSaid
 have hy2 := zdu zgf u.fSaid
 have hz3 := DtCatalog.sz_nonneg u.fCat
 have hq3 := DtCatalog.sz.eq_1 u.fCat
 have hw3 := zjy u.fCat
 have hv3 := cvCatalog.eq_1 u.fCat
 simp only [cvState] at hk
 simp only [cvState]
 refine zby Try.func31 (by rfl) (by rfl) (by rw [Try.ntmps31]; exact Nat.le_of_ble_eq_true rfl) rfl (by simp) rfl rfl ?_
 rw [Try.ntmps31]
 refine zzm (.own 2 (u.fCat.fSets.map DtCSet.cells)) (.own 3 (u.fSaid.map DtSaid.cells)) (by simp [cvO] <;> assumption) (by simp [cvO] <;> assumption) ?_
 refine AW_k [(0, _), (1, _)] ⟨rfl, rfl, trivial⟩ ?_
 refine AW_x rfl rfl fun K hK => ?_
 simp (disch := omega) [zbj, gE, tP, DtState.cells, DtCatalog.cells]
 repeat' first | (refine ⟨by omega, ?_⟩) | (intro _)
 refine hK _ ?_; clear hK K
 refine AW_x rfl rfl fun K hK => ?_
 simp (disch := omega) [zbj, gE, tP, DtState.cells, DtCatalog.cells]
 repeat' first | (exfalso; omega) | (refine zdq [8] true [] (zsw u.fCat (k) (by omega) (by omega)) ?_ ?_ ?_; (focus (simp [List.range_succ, nmC]; done)); (focus (simp (disch := omega) [zbj, gE, tP, DtState.cells, DtCatalog.cells, zbp]; done)); simp (disch := omega) [zbj, gE, tP, DtState.cells, DtCatalog.cells]) | (refine ⟨by omega, ?_⟩) | (intro _)
 refine hK _ ?_; clear hK K
 refine AW_x rfl rfl fun K hK => ?_
 simp (disch := omega) [zbj, gE, tP, DtState.cells, DtCatalog.cells]
 repeat' first | (exfalso; omega) | (refine zdq [9] true [] (markSaidS u.fSaid (k + cvCatalog u.fCat) (by omega) (by omega)) ?_ ?_ ?_; (focus (simp [List.range_succ, nmC]; done)); (focus (simp (disch := omega) [zbj, gE, tP, DtState.cells, DtCatalog.cells, zbp]; done)); simp (disch := omega) [zbj, gE, tP, DtState.cells, DtCatalog.cells]) | (refine ⟨by omega, ?_⟩) | (intro _)
 refine hK _ ?_; clear hK K
 refine AW_x rfl rfl fun K hK => ?_
 simp (disch := omega) [zbj, gE, tP, DtState.cells, DtCatalog.cells]
 repeat' first | (refine ⟨by omega, ?_⟩) | (intro _)
 refine hK _ ?_; clear hK K
 refine zbo (zce [] [] (by simp [List.range_succ, zbd, zbh, zbf]) (by simp) ?_)
 simp (disch := omega) [zbj, gE, tP, DtState.cells, DtCatalog.cells]
 all_goals (first | omega | exact ⟨by omega, rfl⟩ | exact ⟨by omega, rfl, rfl⟩ | skip)
theorem zh4 (u : DtState) (k : Int) (hs : DtState.sz u ≤ 1048576) (hk : 0 ≤ k ∧ k + cvState u ≤ 1073741824) : PCall Try.prog 32 [.agg (DtState.cells (mvState k u)), (.g (.int .i64 (k)))] (.g (.int .i64 (k + cvState u))) := by
 simp only [DtState.sz] at hs
 have hz1 := zc9 DtCSet.sz_nonneg u.fCat.fSets
 have hy1 := zdu zdw u.fCat.fSets
 have hz2 := zc9 DtSaid.sz_nonneg u.fSaid
 have hy2 := zdu zgf u.fSaid
 have hz3 := DtCatalog.sz_nonneg u.fCat
 have hq3 := DtCatalog.sz.eq_1 u.fCat
 have hw3 := zjy u.fCat
 have hv3 := cvCatalog.eq_1 u.fCat
 simp only [cvState] at hk
 simp only [cvState]
 refine zbv Try.func32 (by rfl) (by rfl) (by rw [Try.ntmps32]; exact Nat.le_of_ble_eq_true rfl) rfl (by decide) ?_
 rw [Try.ntmps32]
 refine AW_k [(0, _), (1, _)] ⟨rfl, rfl, trivial⟩ ?_
 refine AW_r rfl rfl fun K hK => ?_
 simp (disch := omega) [zbj, gE, tP, DtState.cells, DtCatalog.cells, mvState, mvCatalog, cvCatalog]
 repeat' first | (refine ⟨by omega, ?_⟩) | (intro _)
 refine hK _ ?_; clear hK K
 refine AW_r rfl rfl fun K hK => ?_
 simp (disch := omega) [zbj, gE, tP, DtState.cells, DtCatalog.cells, mvState, mvCatalog, cvCatalog]
 repeat' first | (exfalso; omega) | (refine zc3 (zbi (zb7 rfl) (zbi zct zbu)) (zsx u.fCat (k) (by omega) (by omega)) rfl ?_; simp (disch := omega) [zbj, gE, tP, DtState.cells, DtCatalog.cells, mvState, mvCatalog, cvCatalog]) | (refine ⟨by omega, ?_⟩) | (intro _)
 refine hK _ ?_; clear hK K
 refine zbm ?_
 refine AW_r rfl rfl fun K hK => ?_
 simp (disch := omega) [zbj, gE, tP, DtState.cells, DtCatalog.cells, mvState, mvCatalog, cvCatalog]
 repeat' first | (refine ⟨by omega, ?_⟩) | (intro _)
 refine hK _ ?_; clear hK K
 refine zbl rfl (fun hc20 => ?_) (fun hc20 => ?_)
 ·try simp at hc20
  all_goals
   refine AW_r rfl rfl fun K hK => ?_
   simp (disch := omega) [zbj, gE, tP, DtState.cells, DtCatalog.cells, mvState, mvCatalog, cvCatalog]
   repeat' first | (exfalso; omega) | (refine ⟨fun _ => ?_, fun _ => ?_⟩) | (refine ⟨by omega, ?_⟩) | (intro _)
   all_goals (refine hK _ ?_; clear hK K)
   all_goals
    refine zbo (zb5 ?_)
    simp (disch := omega) [zbj, gE, tP, DtState.cells, DtCatalog.cells, mvState, mvCatalog, cvCatalog]
    all_goals (first | omega | skip)
 try simp at hc20
 refine zbn ?_
 refine zbr ?_
 refine AW_r rfl rfl fun K hK => ?_
 simp (disch := omega) [zbj, gE, tP, DtState.cells, DtCatalog.cells, mvState, mvCatalog, cvCatalog]
 repeat' first | (exfalso; omega) | (refine zc3 (zbi zc0 (zbi zct zbu)) (heldSaidS u.fSaid (k + cvCatalog u.fCat) (by omega) (by omega)) rfl ?_; simp (disch := omega) [zbj, gE, tP, DtState.cells, DtCatalog.cells, mvState, mvCatalog, cvCatalog]) | (refine ⟨fun _ => ?_, fun _ => ?_⟩) | (refine ⟨by omega, ?_⟩) | (intro _)
 all_goals (refine hK _ ?_; clear hK K)
 all_goals
  refine zbm ?_
  refine AW_r rfl rfl fun K hK => ?_
  simp (disch := omega) [zbj, gE, tP, DtState.cells, DtCatalog.cells, mvState, mvCatalog, cvCatalog]
  repeat' first | (refine ⟨by omega, ?_⟩) | (intro _)
  refine hK _ ?_; clear hK K
  refine zbl rfl (fun hc21 => ?_) (fun hc21 => ?_)
  ·try simp at hc21
   all_goals
    refine AW_r rfl rfl fun K hK => ?_
    simp (disch := omega) [zbj, gE, tP, DtState.cells, DtCatalog.cells, mvState, mvCatalog, cvCatalog]
    repeat' first | (exfalso; omega) | (refine ⟨fun _ => ?_, fun _ => ?_⟩) | (refine ⟨by omega, ?_⟩) | (intro _)
    all_goals (refine hK _ ?_; clear hK K)
    all_goals
     refine zbo (zb5 ?_)
     simp (disch := omega) [zbj, gE, tP, DtState.cells, DtCatalog.cells, mvState, mvCatalog, cvCatalog]
     all_goals (first | omega | skip)
  try simp at hc21
  refine zbn ?_
  refine zbr ?_
  refine AW_r rfl rfl fun K hK => ?_
  simp (disch := omega) [zbj, gE, tP, DtState.cells, DtCatalog.cells, mvState, mvCatalog, cvCatalog]
  repeat' first | (exfalso; omega) | (refine ⟨fun _ => ?_, fun _ => ?_⟩) | (refine ⟨by omega, ?_⟩) | (intro _)
  all_goals (refine hK _ ?_; clear hK K)
  all_goals
   refine zbo (zb5 ?_)
   simp (disch := omega) [zbj, gE, tP, DtState.cells, DtCatalog.cells, mvState, mvCatalog, cvCatalog]
   all_goals (first | omega | skip)
def mkCall (k : Int) (u : DtCall) : DtCall := { fStart := k, fEnd := k + 1, fCmd := { fKind := k + 1 + 1, fClient := k + 1 + 1 + 1, fNo := k + 1 + 1 + 1 + 1, fSet := mT (k + 1 + 1 + 1 + 1 + 1), fName := mT (k + 1 + 1 + 1 + 1 + 1 + 1), fTag := mT (k + 1 + 1 + 1 + 1 + 1 + 1 + 1), fN := k + 1 + 1 + 1 + 1 + 1 + 1 + 1 + 1, fChunks := mkL mT (k + 1 + 1 + 1 + 1 + 1 + 1 + 1 + 1 + 1) u.fCmd.fChunks.length }, fText := mT (k + 1 + 1 + 1 + 1 + 1 + 1 + 1 + 1 + 1 + (u.fCmd.fChunks.length : Nat)) }
def cntCall (u : DtCall) : Int := 1 + 1 + 1 + 1 + 1 + 1 + 1 + 1 + 1 + (u.fCmd.fChunks.length : Nat) + 1
end Go.Proofs.Ytmheohnbkaoipaa.Vs
