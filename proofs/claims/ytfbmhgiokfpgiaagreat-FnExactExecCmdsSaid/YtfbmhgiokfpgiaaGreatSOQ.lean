import Derived.Test.YtfbmhgiokfpgiaaGreatSN1
import Derived.Test.YtfbmhgiokfpgiaaGreatSDQ
open Go Go.Proofs Go.Proofs.YtfbmhgiokfpgiaaGreat.Vs
namespace Go.Proofs.YtfbmhgiokfpgiaaGreat.Vs
set_option linter.all false
set_option maxHeartbeats 4000000
set_option linter.unusedSimpArgs false
set_option linter.unusedVariables false
set_option maxRecDepth 100000
theorem zgr {l : List (List AV)} {i : Nat} {a b : List AV} (h : a = b) : l.set i a = l.set i b := by rw [h]
theorem zfd {α : Type} {f : α → Int} (hf : ∀ x, 0 ≤ f x) (l : List α) : (l.length : Int) ≤ szS f l := by have := zct hf l; unfold szS; omega
theorem cnt_sz {α : Type} {cnt sz : α → Int} (h : ∀ u, cnt u ≤ 16 * (1 + sz u)) : ∀ us : List α, cntS cnt us ≤ 16 * szS sz us
 | [] => by simp [zc7, szS, zdy]
 | u :: us => by
  have h1 := cnt_sz h us
  have h2 := h u
  simp only [szS, zc9, zfl, List.length_cons] at h1 ⊢
  omega
theorem cnt_sz0 {α : Type} {cnt : α → Int} (h : ∀ u, cnt u ≤ 16) : ∀ us : List α, cntS cnt us ≤ 16 * (us.length : Nat)
 | [] => by simp [zc7]
 | u :: us => by
  have h1 := cnt_sz0 h us
  have h2 := h u
  simp only [zfl, List.length_cons]
  omega
def mkCmd (k : Int) (u : DtCmd) : DtCmd := { fKind := k, fClient := k + 1, fNo := k + 1 + 1, fSet := mT (k + 1 + 1 + 1), fName := mT (k + 1 + 1 + 1 + 1), fTag := mT (k + 1 + 1 + 1 + 1 + 1), fN := k + 1 + 1 + 1 + 1 + 1 + 1, fChunks := mkL mT (k + 1 + 1 + 1 + 1 + 1 + 1 + 1) u.fChunks.length }
def cntCmd (u : DtCmd) : Int := 1 + 1 + 1 + 1 + 1 + 1 + 1 + (u.fChunks.length : Nat)
theorem zmr (u : DtCmd) : 0 ≤ cntCmd u := by
 unfold cntCmd
 omega
theorem cntCmd_sz (u : DtCmd) : cntCmd u ≤ 16 * (1 + DtCmd.sz u) := by
 have := zfd zcp u.fChunks
 unfold cntCmd
 simp only [DtCmd.sz]
 omega
theorem markCmdS (us : List DtCmd) (k : Int) (hs : szS DtCmd.sz us ≤ 1048576) (hk : 0 ≤ k ∧ k + cntS cntCmd us ≤ 1073741824) : XCall Tryz.prog 11 [.arr 8 0 us.length, (.g (.int .i64 (k)))] [.own 8 (us.map DtCmd.cells)] (.g (.int .i64 (k + cntS cntCmd us))) [.own 8 ((mkS mkCmd cntCmd k us).map DtCmd.cells)] [] := by
 have hL : us.length ≤ 1048576 := by have := zfd DtCmd.sz_nonneg us; omega
 refine zcg Tryz.func11 (by rfl) (by rfl) (by rw [Tryz.ntmps11]; exact Nat.le_of_ble_eq_true rfl) rfl (by simp) rfl rfl ?_
 rw [Tryz.ntmps11]
 refine AW_x1 (.own 8 (us.map DtCmd.cells)) (by simp [cvO] <;> assumption) ?_
 refine AW_k [(0, _), (1, _)] ⟨rfl, rfl, trivial⟩ ?_
 refine AW_x rfl rfl fun K hK => ?_
 simp (disch := omega) [zbd, gE, tP, DtCmd.cells, zb7, zb3]
 repeat' first | (refine ⟨by omega, ?_⟩) | (intro _)
 refine hK _ ?_; clear hK K
 refine zbr ?_
 refine AW_x rfl rfl fun K hK => ?_
 simp (disch := omega) [zbd, gE, tP, DtCmd.cells, zb7, zb3]
 repeat' first | (refine ⟨by omega, ?_⟩) | (intro _)
 refine hK _ ?_; clear hK K
 refine zb0 ?_
 refine zcf (fun mM sS => ∃ (i : Nat), mM = us.length - i ∧ (i ≤ us.length) ∧ sS = { env := lkE [(0, .arr 8 0 us.length), (1, (.g (.int .i64 (k + cntS cntCmd (us.take i))))), (5, (.g (.int .i64 ((i : Nat)))))], ob := lk [(8, .own 8 ((mkSR mkCmd cntCmd k us i).map DtCmd.cells))] }) ?_ ?_
 ·refine ⟨_, LeS.kx [(8, 8)] [(0, .arr 8 0 us.length), (1, (.g (.int .i64 (k + cntS cntCmd (us.take (0)))))), (5, (.g (.int .i64 (((0) : Nat)))))] [(8, .own 8 ((mkSR mkCmd cntCmd k us (0)).map DtCmd.cells))] (by simp [KpR, renV2, renV, zbl, zb5, zbi, zbp, zgz, zc7]; try (first | rfl | (omega; done))) (by simp [KpOX, renO, plO, cvO, renV, pl1, zbi, zbp, zbl, zgz, zc7]; try (first | rfl | (rw [← zht mkCmd cntCmd k us i (by omega), List.map_set]; refine zgr ?_; simp only [DtCmd.cells, mkCmd]; repeat' (first | rfl | (omega; done) | congr 1)))) (by rfl) (by simp) (by simp) (by rfl) (by simp [formsX, List.range_succ, zbi, zbp]), _, 0, rfl, ?_, rfl⟩
  ·simp
 ·rintro mM sS ⟨i, rfl, hi, rfl⟩
  have hln : (mkSR mkCmd cntCmd k us i).length = us.length := zp8 _ _ _ _ _ hi
  refine zbr ?_
  refine AW_x rfl rfl fun K hK => ?_
  simp (disch := omega) [zbd, gE, tP, DtCmd.cells, zb7, zb3]
  repeat' first | (refine ⟨by omega, ?_⟩) | (intro _)
  refine hK _ ?_; clear hK K
  refine zbu rfl (fun hc1 => ?_) (fun hc1 => ?_)
  ·try simp at hc1
   all_goals
    have hcl := zp7 zmr us i (by omega)
    have hcu : cntCmd us[i] = 1 + 1 + 1 + 1 + 1 + 1 + 1 + (us[i].fChunks.length : Nat) := rfl
    have hcs := zg9 cntCmd us i (by omega)
    have hzn1 := zfd zcp us[i].fChunks
    have hsE : DtCmd.sz us[i] ≤ 1048576 := by have := zdp DtCmd.sz_nonneg us us[i] (List.getElem_mem _); simp only [szS] at hs; omega
    simp only [DtCmd.sz] at hsE
    refine zbv ?_
    refine zb4 ?_
    refine zbr ?_
    refine zb0 ?_
    refine AW_x rfl rfl fun K hK => ?_
    simp (disch := omega) [zbd, gE, tP, DtCmd.cells, zb7, zb3]
    repeat' first | (exfalso; omega) | (refine ⟨fun _ => ?_, fun _ => ?_⟩) | (refine ⟨by omega, ?_⟩) | (intro _)
    all_goals (refine hK _ ?_; clear hK K)
    all_goals
     refine AW_x rfl rfl fun K hK => ?_
     simp (disch := omega) [zbd, gE, tP, DtCmd.cells, zb7, zb3]
     repeat' first | (refine ⟨by omega, ?_⟩) | (intro _)
     refine hK _ ?_; clear hK K
     refine AW_x rfl rfl fun K hK => ?_
     simp (disch := omega) [zbd, gE, tP, DtCmd.cells, zb7, zb3]
     repeat' first | (refine ⟨by omega, ?_⟩) | (intro _)
     refine hK _ ?_; clear hK K
     refine AW_x rfl rfl fun K hK => ?_
     simp (disch := omega) [zbd, gE, tP, DtCmd.cells, zb7, zb3]
     repeat' first | (refine ⟨by omega, ?_⟩) | (intro _)
     refine hK _ ?_; clear hK K
     refine AW_x rfl rfl fun K hK => ?_
     simp (disch := omega) [zbd, gE, tP, DtCmd.cells, zb7, zb3]
     repeat' first | (refine ⟨by omega, ?_⟩) | (intro _)
     refine hK _ ?_; clear hK K
     refine AW_x rfl rfl fun K hK => ?_
     simp (disch := omega) [zbd, gE, tP, DtCmd.cells, zb7, zb3]
     repeat' first | (refine ⟨by omega, ?_⟩) | (intro _)
     refine hK _ ?_; clear hK K
     refine AW_x rfl rfl fun K hK => ?_
     simp (disch := omega) [zbd, gE, tP, DtCmd.cells, zb7, zb3]
     repeat' first | (exfalso; omega) | (refine zde (zbh zcx zbs) (zdb _ (by omega)) rfl ?_; simp (disch := omega) [zbd, gE, tP, DtCmd.cells, zb7, zb3]) | (refine zdf (zdb _ (by omega)) (by rfl) ?_ ?_; (focus (simp (disch := omega) [zbd, gE, tP, DtCmd.cells, zb7, zb3, zba]; done)); simp (disch := omega) [zbd, gE, tP, DtCmd.cells, zb7, zb3]) | (refine ⟨by omega, ?_⟩) | (intro _)
     refine hK _ ?_; clear hK K
     refine AW_x rfl rfl fun K hK => ?_
     simp (disch := omega) [zbd, gE, tP, DtCmd.cells, zb7, zb3]
     repeat' first | (refine ⟨by omega, ?_⟩) | (intro _)
     refine hK _ ?_; clear hK K
     refine AW_x rfl rfl fun K hK => ?_
     simp (disch := omega) [zbd, gE, tP, DtCmd.cells, zb7, zb3]
     repeat' first | (exfalso; omega) | (refine zde (zbh zcx zbs) (zdb _ (by omega)) rfl ?_; simp (disch := omega) [zbd, gE, tP, DtCmd.cells, zb7, zb3]) | (refine zdf (zdb _ (by omega)) (by rfl) ?_ ?_; (focus (simp (disch := omega) [zbd, gE, tP, DtCmd.cells, zb7, zb3, zba]; done)); simp (disch := omega) [zbd, gE, tP, DtCmd.cells, zb7, zb3]) | (refine ⟨by omega, ?_⟩) | (intro _)
     refine hK _ ?_; clear hK K
     refine AW_x rfl rfl fun K hK => ?_
     simp (disch := omega) [zbd, gE, tP, DtCmd.cells, zb7, zb3]
     repeat' first | (refine ⟨by omega, ?_⟩) | (intro _)
     refine hK _ ?_; clear hK K
     refine AW_x rfl rfl fun K hK => ?_
     simp (disch := omega) [zbd, gE, tP, DtCmd.cells, zb7, zb3]
     repeat' first | (exfalso; omega) | (refine zde (zbh zcx zbs) (zdb _ (by omega)) rfl ?_; simp (disch := omega) [zbd, gE, tP, DtCmd.cells, zb7, zb3]) | (refine zdf (zdb _ (by omega)) (by rfl) ?_ ?_; (focus (simp (disch := omega) [zbd, gE, tP, DtCmd.cells, zb7, zb3, zba]; done)); simp (disch := omega) [zbd, gE, tP, DtCmd.cells, zb7, zb3]) | (refine ⟨by omega, ?_⟩) | (intro _)
     refine hK _ ?_; clear hK K
     refine AW_x rfl rfl fun K hK => ?_
     simp (disch := omega) [zbd, gE, tP, DtCmd.cells, zb7, zb3]
     repeat' first | (refine ⟨by omega, ?_⟩) | (intro _)
     refine hK _ ?_; clear hK K
     refine AW_x rfl rfl fun K hK => ?_
     simp (disch := omega) [zbd, gE, tP, DtCmd.cells, zb7, zb3]
     repeat' first | (refine ⟨by omega, ?_⟩) | (intro _)
     refine hK _ ?_; clear hK K
     refine AW_x rfl rfl fun K hK => ?_
     simp (disch := omega) [zbd, gE, tP, DtCmd.cells, zb7, zb3]
     repeat' first | (refine ⟨by omega, ?_⟩) | (intro _)
     refine hK _ ?_; clear hK K
     refine zdd rfl rfl fun K hK => ?_
     simp (disch := omega) [zbd, gE, tP, DtCmd.cells, zb7, zb3]
     repeat' first | (exfalso; omega) | (refine XKd_n (n := 8) (i := i) (f0 := 7) (zmq us[i].fChunks _ (by omega) (by omega)) ?_ ?_ ?_ ?_ rfl ?_ rfl ?_ ?_; (focus (simp; done)); (focus rfl); (focus rfl); (focus (simp [zd8, zf6]; done)); (focus (simp; done)); (focus first | exact ⟨_, zb3 _ _ _ _ (by omega), rfl⟩ | exact ⟨_, by rw [List.getElem?_map, zlf _ _ _ _ _ (by omega)]; rfl, rfl⟩); simp (disch := omega) [zbd, gE, tP, DtCmd.cells, zb7, zb3]) | (refine ⟨by omega, ?_⟩) | (intro _)
     refine hK _ ?_; clear hK K
     refine zb4 ?_
     refine zdd rfl rfl fun K hK => ?_
     simp (disch := omega) [zbd, gE, tP, DtCmd.cells, zb7, zb3]
     repeat' first | (refine ⟨by omega, ?_⟩) | (intro _)
     refine hK _ ?_; clear hK K
     refine ⟨_, LeS.kx [(8, 8)] [(0, .arr 8 0 us.length), (1, (.g (.int .i64 (k + cntS cntCmd (us.take (i + 1)))))), (5, (.g (.int .i64 (((i + 1) : Nat)))))] [(8, .own 8 ((mkSR mkCmd cntCmd k us (i + 1)).map DtCmd.cells))] (by simp [KpR, renV2, renV, zbl, zb5, zbi, zbp, zgz, zc7]; try (first | rfl | (omega; done))) (by simp [KpOX, renO, plO, cvO, renV, pl1, zbi, zbp, zbl, zgz, zc7]; try (first | rfl | (rw [← zht mkCmd cntCmd k us i (by omega), List.map_set]; refine zgr ?_; simp only [DtCmd.cells, mkCmd]; repeat' (first | rfl | (omega; done) | congr 1)))) (by rfl) (by simp) (by simp) (by rfl) (by simp [formsX, List.range_succ, zbi, zbp]), _, ?_, i + 1, rfl, ?_, rfl⟩
     ·omega
     ·omega
  try simp at hc1
  refine zch ?_
  refine zb4 ?_
  refine AW_x rfl rfl fun K hK => ?_
  simp (disch := omega) [zbd, gE, tP, DtCmd.cells, zb7, zb3]
  repeat' first | (exfalso; omega) | (refine ⟨fun _ => ?_, fun _ => ?_⟩) | (refine ⟨by omega, ?_⟩) | (intro _)
  all_goals (refine hK _ ?_; clear hK K)
  all_goals
   refine zby (zdm [] [] (by simp [List.range_succ, zbi, zbp, zbl]) (by simp) ?_)
   simp (disch := omega) [zbd, gE, tP, DtCmd.cells, zb7, zb3]
   all_goals ((have e : i = us.length := by omega); subst e; rw [mkSR_n _ _ _ _ _ (by omega), List.take_of_length_le (by omega)]; exact ⟨rfl, rfl⟩)
theorem zlg (us : List DtCmd) (k : Int) (hs : szS DtCmd.sz us ≤ 1048576) (hk : 0 ≤ k ∧ k + cntS cntCmd us ≤ 1073741824) : PCall Tryz.prog 12 [.sl 8 ((mkS mkCmd cntCmd k us).map DtCmd.cells), (.g (.int .i64 (k)))] (.g (.int .i64 (k + cntS cntCmd us))) := by
 have hL : us.length ≤ 1048576 := by have := zfd DtCmd.sz_nonneg us; omega
 refine zbz Tryz.func12 (by rfl) (by rfl) (by rw [Tryz.ntmps12]; exact Nat.le_of_ble_eq_true rfl) rfl (by decide) ?_
 rw [Tryz.ntmps12]
 refine AW_k [(0, _), (1, _)] ⟨rfl, rfl, trivial⟩ ?_
 refine AW_r rfl rfl fun K hK => ?_
 simp (disch := omega) [zbd, gE, tP, DtCmd.cells, zcv, mkCmd]
 repeat' first | (refine ⟨by omega, ?_⟩) | (intro _)
 refine hK _ ?_; clear hK K
 refine zbr ?_
 refine AW_r rfl rfl fun K hK => ?_
 simp (disch := omega) [zbd, gE, tP, DtCmd.cells, zcv, mkCmd]
 repeat' first | (refine ⟨by omega, ?_⟩) | (intro _)
 refine hK _ ?_; clear hK K
 refine zb0 ?_
 refine zcf (fun mM sS => ∃ (i : Nat), mM = us.length - i ∧ (i ≤ us.length) ∧ sS = { env := lkE [(0, .sl 8 ((mkS mkCmd cntCmd k us).map DtCmd.cells)), (1, (.g (.int .i64 (k + cntS cntCmd (us.take i))))), (5, (.g (.int .i64 ((i : Nat)))))], ob := formOb [] [] }) ?_ ?_
 ·refine ⟨_, LeS.kp [(0, .sl 8 ((mkS mkCmd cntCmd k us).map DtCmd.cells)), (1, (.g (.int .i64 (k + cntS cntCmd (us.take (0)))))), (5, (.g (.int .i64 (((0) : Nat)))))] (by simp [KpE, zbl, zb5, zbi, zc7]; try (first | rfl | (omega; done))), _, 0, rfl, ?_, rfl⟩
  ·simp
 ·rintro mM sS ⟨i, rfl, hi, rfl⟩
  have hln : (mkS mkCmd cntCmd k us).length = us.length := zf6 _ _ _ _
  refine zbr ?_
  refine AW_r rfl rfl fun K hK => ?_
  simp (disch := omega) [zbd, gE, tP, DtCmd.cells, zcv, mkCmd]
  repeat' first | (refine ⟨by omega, ?_⟩) | (intro _)
  refine hK _ ?_; clear hK K
  refine zbu rfl (fun hc2 => ?_) (fun hc2 => ?_)
  ·try simp at hc2
   all_goals
    have hcl := zp7 zmr us i (by omega)
    have hcu : cntCmd us[i] = 1 + 1 + 1 + 1 + 1 + 1 + 1 + (us[i].fChunks.length : Nat) := rfl
    have hcs := zg9 cntCmd us i (by omega)
    have hzn1 := zfd zcp us[i].fChunks
    have hsE : DtCmd.sz us[i] ≤ 1048576 := by have := zdp DtCmd.sz_nonneg us us[i] (List.getElem_mem _); simp only [szS] at hs; omega
    simp only [DtCmd.sz] at hsE
    refine zbv ?_
    refine zb4 ?_
    refine zbr ?_
    refine zb0 ?_
    refine zbr ?_
    refine AW_r rfl rfl fun K hK => ?_
    simp (disch := omega) [zbd, gE, tP, DtCmd.cells, zcv, mkCmd]
    repeat' first | (exfalso; omega) | (refine ⟨fun _ => ?_, fun _ => ?_⟩) | (refine ⟨by omega, ?_⟩) | (intro _)
    all_goals (refine hK _ ?_; clear hK K)
    all_goals
     refine zbu rfl (fun hc3 => ?_) (fun hc3 => ?_)
     ·try simp at hc3
      all_goals
       refine AW_r rfl rfl fun K hK => ?_
       simp (disch := omega) [zbd, gE, tP, DtCmd.cells, zcv, mkCmd]
       repeat' first | (exfalso; omega) | (refine ⟨fun _ => ?_, fun _ => ?_⟩) | (refine ⟨by omega, ?_⟩) | (intro _)
       all_goals (refine hK _ ?_; clear hK K)
       all_goals
        refine zby (zcd ?_)
        simp (disch := omega) [zbd, gE, tP, DtCmd.cells, zcv, mkCmd]
        all_goals first | omega | ((have e : i = us.length := by omega); subst e; rw [List.take_of_length_le (by omega)])
     try simp at hc3
     refine zbv ?_
     refine zb4 ?_
     refine AW_r rfl rfl fun K hK => ?_
     simp (disch := omega) [zbd, gE, tP, DtCmd.cells, zcv, mkCmd]
     repeat' first | (exfalso; omega) | (refine ⟨fun _ => ?_, fun _ => ?_⟩) | (refine ⟨by omega, ?_⟩) | (intro _)
     all_goals (refine hK _ ?_; clear hK K)
     all_goals
      refine zbr ?_
      refine AW_r rfl rfl fun K hK => ?_
      simp (disch := omega) [zbd, gE, tP, DtCmd.cells, zcv, mkCmd]
      repeat' first | (refine ⟨by omega, ?_⟩) | (intro _)
      refine hK _ ?_; clear hK K
      refine zbu rfl (fun hc4 => ?_) (fun hc4 => ?_)
      ·try simp at hc4
       all_goals
        refine AW_r rfl rfl fun K hK => ?_
        simp (disch := omega) [zbd, gE, tP, DtCmd.cells, zcv, mkCmd]
        repeat' first | (exfalso; omega) | (refine ⟨fun _ => ?_, fun _ => ?_⟩) | (refine ⟨by omega, ?_⟩) | (intro _)
        all_goals (refine hK _ ?_; clear hK K)
        all_goals
         refine zby (zcd ?_)
         simp (disch := omega) [zbd, gE, tP, DtCmd.cells, zcv, mkCmd]
         all_goals first | omega | ((have e : i = us.length := by omega); subst e; rw [List.take_of_length_le (by omega)])
      try simp at hc4
      refine zbv ?_
      refine zb4 ?_
      refine AW_r rfl rfl fun K hK => ?_
      simp (disch := omega) [zbd, gE, tP, DtCmd.cells, zcv, mkCmd]
      repeat' first | (exfalso; omega) | (refine ⟨fun _ => ?_, fun _ => ?_⟩) | (refine ⟨by omega, ?_⟩) | (intro _)
      all_goals (refine hK _ ?_; clear hK K)
      all_goals
       refine zbr ?_
       refine AW_r rfl rfl fun K hK => ?_
       simp (disch := omega) [zbd, gE, tP, DtCmd.cells, zcv, mkCmd]
       repeat' first | (refine ⟨by omega, ?_⟩) | (intro _)
       refine hK _ ?_; clear hK K
       refine zbu rfl (fun hc5 => ?_) (fun hc5 => ?_)
       ·try simp at hc5
        all_goals
         refine AW_r rfl rfl fun K hK => ?_
         simp (disch := omega) [zbd, gE, tP, DtCmd.cells, zcv, mkCmd]
         repeat' first | (exfalso; omega) | (refine ⟨fun _ => ?_, fun _ => ?_⟩) | (refine ⟨by omega, ?_⟩) | (intro _)
         all_goals (refine hK _ ?_; clear hK K)
         all_goals
          refine zby (zcd ?_)
          simp (disch := omega) [zbd, gE, tP, DtCmd.cells, zcv, mkCmd]
          all_goals first | omega | ((have e : i = us.length := by omega); subst e; rw [List.take_of_length_le (by omega)])
       try simp at hc5
       refine zbv ?_
       refine zb4 ?_
       refine AW_r rfl rfl fun K hK => ?_
       simp (disch := omega) [zbd, gE, tP, DtCmd.cells, zcv, mkCmd]
       repeat' first | (exfalso; omega) | (refine ⟨fun _ => ?_, fun _ => ?_⟩) | (refine ⟨by omega, ?_⟩) | (intro _)
       all_goals (refine hK _ ?_; clear hK K)
       all_goals
        refine zbr ?_
        refine AW_q rfl mix (by kernel_rfl) rfl fun K hK => ?_
        simp (disch := omega) [zbd, gE, tP, DtCmd.cells, zcv, mkCmd]
        repeat' first | (exfalso; omega) | (refine zco (zbh zcx zbs) (zdb _ (by omega)) rfl ?_; simp (disch := omega) [zbd, gE, tP, DtCmd.cells, zcv, mkCmd]) | (refine ⟨by omega, ?_⟩) | (intro _)
        refine hK _ ?_; clear hK K
        refine zbu rfl (fun hc6 => ?_) (fun hc6 => ?_)
        ·try simp at hc6
         all_goals
          refine AW_r rfl rfl fun K hK => ?_
          simp (disch := omega) [zbd, gE, tP, DtCmd.cells, zcv, mkCmd]
          repeat' first | (exfalso; omega) | (refine ⟨fun _ => ?_, fun _ => ?_⟩) | (refine ⟨by omega, ?_⟩) | (intro _)
          all_goals (refine hK _ ?_; clear hK K)
          all_goals
           refine zby (zcd ?_)
           simp (disch := omega) [zbd, gE, tP, DtCmd.cells, zcv, mkCmd]
           all_goals first | omega | ((have e : i = us.length := by omega); subst e; rw [List.take_of_length_le (by omega)])
        try simp at hc6
        refine zbv ?_
        refine zb4 ?_
        refine AW_r rfl rfl fun K hK => ?_
        simp (disch := omega) [zbd, gE, tP, DtCmd.cells, zcv, mkCmd]
        repeat' first | (exfalso; omega) | (refine ⟨fun _ => ?_, fun _ => ?_⟩) | (refine ⟨by omega, ?_⟩) | (intro _)
        all_goals (refine hK _ ?_; clear hK K)
        all_goals
         refine zbr ?_
         refine AW_q rfl mix (by kernel_rfl) rfl fun K hK => ?_
         simp (disch := omega) [zbd, gE, tP, DtCmd.cells, zcv, mkCmd]
         repeat' first | (exfalso; omega) | (refine zco (zbh zcx zbs) (zdb _ (by omega)) rfl ?_; simp (disch := omega) [zbd, gE, tP, DtCmd.cells, zcv, mkCmd]) | (refine ⟨by omega, ?_⟩) | (intro _)
         refine hK _ ?_; clear hK K
         refine zbu rfl (fun hc7 => ?_) (fun hc7 => ?_)
         ·try simp at hc7
          all_goals
           refine AW_r rfl rfl fun K hK => ?_
           simp (disch := omega) [zbd, gE, tP, DtCmd.cells, zcv, mkCmd]
           repeat' first | (exfalso; omega) | (refine ⟨fun _ => ?_, fun _ => ?_⟩) | (refine ⟨by omega, ?_⟩) | (intro _)
           all_goals (refine hK _ ?_; clear hK K)
           all_goals
            refine zby (zcd ?_)
            simp (disch := omega) [zbd, gE, tP, DtCmd.cells, zcv, mkCmd]
            all_goals first | omega | ((have e : i = us.length := by omega); subst e; rw [List.take_of_length_le (by omega)])
         try simp at hc7
         refine zbv ?_
         refine zb4 ?_
         refine AW_r rfl rfl fun K hK => ?_
         simp (disch := omega) [zbd, gE, tP, DtCmd.cells, zcv, mkCmd]
         repeat' first | (exfalso; omega) | (refine ⟨fun _ => ?_, fun _ => ?_⟩) | (refine ⟨by omega, ?_⟩) | (intro _)
         all_goals (refine hK _ ?_; clear hK K)
         all_goals
          refine zbr ?_
          refine AW_q rfl mix (by kernel_rfl) rfl fun K hK => ?_
          simp (disch := omega) [zbd, gE, tP, DtCmd.cells, zcv, mkCmd]
          repeat' first | (exfalso; omega) | (refine zco (zbh zcx zbs) (zdb _ (by omega)) rfl ?_; simp (disch := omega) [zbd, gE, tP, DtCmd.cells, zcv, mkCmd]) | (refine ⟨by omega, ?_⟩) | (intro _)
          refine hK _ ?_; clear hK K
          refine zbu rfl (fun hc8 => ?_) (fun hc8 => ?_)
          ·try simp at hc8
           all_goals
            refine AW_r rfl rfl fun K hK => ?_
            simp (disch := omega) [zbd, gE, tP, DtCmd.cells, zcv, mkCmd]
            repeat' first | (exfalso; omega) | (refine ⟨fun _ => ?_, fun _ => ?_⟩) | (refine ⟨by omega, ?_⟩) | (intro _)
            all_goals (refine hK _ ?_; clear hK K)
            all_goals
             refine zby (zcd ?_)
             simp (disch := omega) [zbd, gE, tP, DtCmd.cells, zcv, mkCmd]
             all_goals first | omega | ((have e : i = us.length := by omega); subst e; rw [List.take_of_length_le (by omega)])
          try simp at hc8
          refine zbv ?_
          refine zb4 ?_
          refine AW_r rfl rfl fun K hK => ?_
          simp (disch := omega) [zbd, gE, tP, DtCmd.cells, zcv, mkCmd]
          repeat' first | (exfalso; omega) | (refine ⟨fun _ => ?_, fun _ => ?_⟩) | (refine ⟨by omega, ?_⟩) | (intro _)
          all_goals (refine hK _ ?_; clear hK K)
          all_goals
           refine zbr ?_
           refine AW_r rfl rfl fun K hK => ?_
           simp (disch := omega) [zbd, gE, tP, DtCmd.cells, zcv, mkCmd]
           repeat' first | (refine ⟨by omega, ?_⟩) | (intro _)
           refine hK _ ?_; clear hK K
           refine zbu rfl (fun hc9 => ?_) (fun hc9 => ?_)
           ·try simp at hc9
            all_goals
             refine AW_r rfl rfl fun K hK => ?_
             simp (disch := omega) [zbd, gE, tP, DtCmd.cells, zcv, mkCmd]
             repeat' first | (exfalso; omega) | (refine ⟨fun _ => ?_, fun _ => ?_⟩) | (refine ⟨by omega, ?_⟩) | (intro _)
             all_goals (refine hK _ ?_; clear hK K)
             all_goals
              refine zby (zcd ?_)
              simp (disch := omega) [zbd, gE, tP, DtCmd.cells, zcv, mkCmd]
              all_goals first | omega | ((have e : i = us.length := by omega); subst e; rw [List.take_of_length_le (by omega)])
           try simp at hc9
           refine zbv ?_
           refine zb4 ?_
           refine AW_r rfl rfl fun K hK => ?_
           simp (disch := omega) [zbd, gE, tP, DtCmd.cells, zcv, mkCmd]
           repeat' first | (exfalso; omega) | (refine ⟨fun _ => ?_, fun _ => ?_⟩) | (refine ⟨by omega, ?_⟩) | (intro _)
           all_goals (refine hK _ ?_; clear hK K)
           all_goals
            refine AW_r rfl rfl fun K hK => ?_
            simp (disch := omega) [zbd, gE, tP, DtCmd.cells, zcv, mkCmd]
            repeat' first | (exfalso; omega) | (refine zco (zbh zce (zbh zcx zbs)) (ztz us[i].fChunks.length _ (by omega) (by omega)) rfl ?_; simp (disch := omega) [zbd, gE, tP, DtCmd.cells, zcv, mkCmd]) | (refine ⟨by omega, ?_⟩) | (intro _)
            refine hK _ ?_; clear hK K
            refine AW_r rfl rfl fun K hK => ?_
            simp (disch := omega) [zbd, gE, tP, DtCmd.cells, zcv, mkCmd]
            repeat' first | (refine ⟨by omega, ?_⟩) | (intro _)
            refine hK _ ?_; clear hK K
            refine zbu rfl (fun hc10 => ?_) (fun hc10 => ?_)
            ·try simp at hc10
             all_goals
              refine AW_r rfl rfl fun K hK => ?_
              simp (disch := omega) [zbd, gE, tP, DtCmd.cells, zcv, mkCmd]
              repeat' first | (exfalso; omega) | (refine ⟨fun _ => ?_, fun _ => ?_⟩) | (refine ⟨by omega, ?_⟩) | (intro _)
              all_goals (refine hK _ ?_; clear hK K)
              all_goals
               refine zby (zcd ?_)
               simp (disch := omega) [zbd, gE, tP, DtCmd.cells, zcv, mkCmd]
               all_goals first | omega | ((have e : i = us.length := by omega); subst e; rw [List.take_of_length_le (by omega)])
            try simp at hc10
            refine zbv ?_
            refine zb4 ?_
            refine zdi rfl rfl fun K hK => ?_
            simp (disch := omega) [zbd, gE, tP, DtCmd.cells, zcv, mkCmd]
            repeat' first | (exfalso; omega) | (refine ⟨fun _ => ?_, fun _ => ?_⟩) | (refine ⟨by omega, ?_⟩) | (intro _)
            all_goals (refine hK _ ?_; clear hK K)
            all_goals
             refine ⟨_, LeS.kp [(0, .sl 8 ((mkS mkCmd cntCmd k us).map DtCmd.cells)), (1, (.g (.int .i64 (k + cntS cntCmd (us.take (i + 1)))))), (5, (.g (.int .i64 (((i + 1) : Nat)))))] (by simp [KpE, zbl, zb5, zbi, zc7]; try (first | rfl | (omega; done))), _, ?_, i + 1, rfl, ?_, rfl⟩
             ·omega
             ·omega
  try simp at hc2
  refine zch ?_
  refine zb4 ?_
  refine AW_r rfl rfl fun K hK => ?_
  simp (disch := omega) [zbd, gE, tP, DtCmd.cells, zcv, mkCmd]
  repeat' first | (exfalso; omega) | (refine ⟨fun _ => ?_, fun _ => ?_⟩) | (refine ⟨by omega, ?_⟩) | (intro _)
  all_goals (refine hK _ ?_; clear hK K)
  all_goals
   refine zby (zcd ?_)
   simp (disch := omega) [zbd, gE, tP, DtCmd.cells, zcv, mkCmd]
   all_goals first | omega | ((have e : i = us.length := by omega); subst e; rw [List.take_of_length_le (by omega)])
theorem toCmdX (u : DtCmd) (hs : DtCmd.sz u ≤ 1048576) : XCall Tryz.prog 30 [.agg (DtCmd.cells u)] [] (.agg [.g (.int .i64 u.fKind), .g (.int .i64 u.fClient), .g (.int .i64 u.fNo), .s u.fSet, .s u.fName, .s u.fTag, .g (.int .i64 u.fN), .arr 16 0 u.fChunks.length]) [] [.own 1 (u.fChunks.map cS)] := by
 simp only [DtCmd.sz] at hs
 have hz1 := zfd zcp u.fChunks
 refine zcg Tryz.func30 (by rfl) (by rfl) (by rw [Tryz.ntmps30]; exact Nat.le_of_ble_eq_true rfl) rfl (by simp) rfl rfl ?_
 rw [Tryz.ntmps30]
 refine zfb   ?_
 refine AW_k [(0, _)] ⟨rfl, trivial⟩ ?_
 refine AW_x rfl rfl fun K hK => ?_
 simp (disch := omega) [zbd, gE, tP, DtCmd.cells]
 repeat' first | (refine ⟨by omega, ?_⟩) | (intro _)
 refine hK _ ?_; clear hK K
 refine AW_x rfl rfl fun K hK => ?_
 simp (disch := omega) [zbd, gE, tP, DtCmd.cells]
 repeat' first | (refine ⟨by omega, ?_⟩) | (intro _)
 refine hK _ ?_; clear hK K
 refine AW_x rfl rfl fun K hK => ?_
 simp (disch := omega) [zbd, gE, tP, DtCmd.cells]
 repeat' first | (refine ⟨by omega, ?_⟩) | (intro _)
 refine hK _ ?_; clear hK K
 refine AW_x rfl rfl fun K hK => ?_
 simp (disch := omega) [zbd, gE, tP, DtCmd.cells]
 repeat' first | (refine ⟨by omega, ?_⟩) | (intro _)
 refine hK _ ?_; clear hK K
 refine AW_x rfl rfl fun K hK => ?_
 simp (disch := omega) [zbd, gE, tP, DtCmd.cells]
 repeat' first | (refine ⟨by omega, ?_⟩) | (intro _)
 refine hK _ ?_; clear hK K
 refine AW_x rfl rfl fun K hK => ?_
 simp (disch := omega) [zbd, gE, tP, DtCmd.cells]
 repeat' first | (refine ⟨by omega, ?_⟩) | (intro _)
 refine hK _ ?_; clear hK K
 refine AW_x rfl rfl fun K hK => ?_
 simp (disch := omega) [zbd, gE, tP, DtCmd.cells]
 repeat' first | (refine ⟨by omega, ?_⟩) | (intro _)
 refine hK _ ?_; clear hK K
 refine AW_x rfl rfl fun K hK => ?_
 simp (disch := omega) [zbd, gE, tP, DtCmd.cells]
 repeat' first | (refine ⟨by omega, ?_⟩) | (intro _)
 refine hK _ ?_; clear hK K
 refine AW_x rfl rfl fun K hK => ?_
 simp (disch := omega) [zbd, gE, tP, DtCmd.cells]
 repeat' first | (refine ⟨by omega, ?_⟩) | (intro _)
 refine hK _ ?_; clear hK K
 refine AW_x rfl rfl fun K hK => ?_
 simp (disch := omega) [zbd, gE, tP, DtCmd.cells]
 repeat' first | (exfalso; omega) | (refine zfs [] true [] (zxj u.fChunks (by omega)) ?_ ?_ ?_; (focus (simp [List.range_succ, nmC]; done)); (focus (simp (disch := omega) [zbd, gE, tP, DtCmd.cells, zba]; done)); simp (disch := omega) [zbd, gE, tP, DtCmd.cells]) | (refine ⟨by omega, ?_⟩) | (intro _)
 refine hK _ ?_; clear hK K
 refine AW_x rfl rfl fun K hK => ?_
 simp (disch := omega) [zbd, gE, tP, DtCmd.cells]
 repeat' first | (refine ⟨by omega, ?_⟩) | (intro _)
 refine hK _ ?_; clear hK K
 refine zby (zdm [448] [] (by simp [List.range_succ, zbi, zbp, zbl]) (by simp) ?_)
 simp (disch := omega) [zbd, gE, tP, DtCmd.cells]
 all_goals skip
def mkId (k : Int) (u : DtId) : DtId := { fRep := k, fSlot := k + 1 }
def cntId (u : DtId) : Int := 1 + 1
theorem zqa (u : DtId) : 0 ≤ cntId u := by
 unfold cntId
 omega
theorem cntId_sz (u : DtId) : cntId u ≤ 16 := by unfold cntId; omega
theorem markIdS (us : List DtId) (k : Int) (hl : us.length ≤ 1048576) (hk : 0 ≤ k ∧ k + cntS cntId us ≤ 1073741824) : XCall Tryz.prog 23 [.arr 8 0 us.length, (.g (.int .i64 (k)))] [.own 2 (us.map DtId.cells)] (.g (.int .i64 (k + cntS cntId us))) [.own 2 ((mkS mkId cntId k us).map DtId.cells)] [] := by
 have hL := hl
 refine zcg Tryz.func23 (by rfl) (by rfl) (by rw [Tryz.ntmps23]; exact Nat.le_of_ble_eq_true rfl) rfl (by simp) rfl rfl ?_
 rw [Tryz.ntmps23]
 refine AW_x1 (.own 2 (us.map DtId.cells)) (by simp [cvO] <;> assumption) ?_
 refine AW_k [(0, _), (1, _)] ⟨rfl, rfl, trivial⟩ ?_
 refine AW_x rfl rfl fun K hK => ?_
 simp (disch := omega) [zbd, gE, tP, DtId.cells, zb7, zb3]
 repeat' first | (refine ⟨by omega, ?_⟩) | (intro _)
 refine hK _ ?_; clear hK K
 refine zbr ?_
 refine AW_x rfl rfl fun K hK => ?_
 simp (disch := omega) [zbd, gE, tP, DtId.cells, zb7, zb3]
 repeat' first | (refine ⟨by omega, ?_⟩) | (intro _)
 refine hK _ ?_; clear hK K
 refine zb0 ?_
 refine zcf (fun mM sS => ∃ (i : Nat), mM = us.length - i ∧ (i ≤ us.length) ∧ sS = { env := lkE [(0, .arr 8 0 us.length), (1, (.g (.int .i64 (k + cntS cntId (us.take i))))), (5, (.g (.int .i64 ((i : Nat)))))], ob := lk [(8, .own 2 ((mkSR mkId cntId k us i).map DtId.cells))] }) ?_ ?_
 ·refine ⟨_, LeS.kx [(8, 8)] [(0, .arr 8 0 us.length), (1, (.g (.int .i64 (k + cntS cntId (us.take (0)))))), (5, (.g (.int .i64 (((0) : Nat)))))] [(8, .own 2 ((mkSR mkId cntId k us (0)).map DtId.cells))] (by simp [KpR, renV2, renV, zbl, zb5, zbi, zbp, zgz, zc7]; try (first | rfl | (omega; done))) (by simp [KpOX, renO, plO, cvO, renV, pl1, zbi, zbp, zbl, zgz, zc7]; try (first | rfl | (rw [← zht mkId cntId k us i (by omega), List.map_set]; refine zgr ?_; simp only [DtId.cells, mkId]; repeat' (first | rfl | (omega; done) | congr 1)))) (by rfl) (by simp) (by simp) (by rfl) (by simp [formsX, List.range_succ, zbi, zbp]), _, 0, rfl, ?_, rfl⟩
  ·simp
 ·rintro mM sS ⟨i, rfl, hi, rfl⟩
  have hln : (mkSR mkId cntId k us i).length = us.length := zp8 _ _ _ _ _ hi
  refine zbr ?_
  refine AW_x rfl rfl fun K hK => ?_
  simp (disch := omega) [zbd, gE, tP, DtId.cells, zb7, zb3]
  repeat' first | (refine ⟨by omega, ?_⟩) | (intro _)
  refine hK _ ?_; clear hK K
  refine zbu rfl (fun hc11 => ?_) (fun hc11 => ?_)
  ·try simp at hc11
   all_goals
    have hcl := zp7 zqa us i (by omega)
    have hcu : cntId us[i] = 1 + 1 := rfl
    have hcs := zg9 cntId us i (by omega)
    refine zbv ?_
    refine zb4 ?_
    refine zbr ?_
    refine zb0 ?_
    refine AW_x rfl rfl fun K hK => ?_
    simp (disch := omega) [zbd, gE, tP, DtId.cells, zb7, zb3]
    repeat' first | (exfalso; omega) | (refine ⟨fun _ => ?_, fun _ => ?_⟩) | (refine ⟨by omega, ?_⟩) | (intro _)
    all_goals (refine hK _ ?_; clear hK K)
    all_goals
     refine AW_x rfl rfl fun K hK => ?_
     simp (disch := omega) [zbd, gE, tP, DtId.cells, zb7, zb3]
     repeat' first | (refine ⟨by omega, ?_⟩) | (intro _)
     refine hK _ ?_; clear hK K
     refine AW_x rfl rfl fun K hK => ?_
     simp (disch := omega) [zbd, gE, tP, DtId.cells, zb7, zb3]
     repeat' first | (refine ⟨by omega, ?_⟩) | (intro _)
     refine hK _ ?_; clear hK K
     refine zdd rfl rfl fun K hK => ?_
     simp (disch := omega) [zbd, gE, tP, DtId.cells, zb7, zb3]
     repeat' first | (refine ⟨by omega, ?_⟩) | (intro _)
     refine hK _ ?_; clear hK K
     refine zb4 ?_
     refine zdd rfl rfl fun K hK => ?_
     simp (disch := omega) [zbd, gE, tP, DtId.cells, zb7, zb3]
     repeat' first | (refine ⟨by omega, ?_⟩) | (intro _)
     refine hK _ ?_; clear hK K
     refine ⟨_, LeS.kx [(8, 8)] [(0, .arr 8 0 us.length), (1, (.g (.int .i64 (k + cntS cntId (us.take (i + 1)))))), (5, (.g (.int .i64 (((i + 1) : Nat)))))] [(8, .own 2 ((mkSR mkId cntId k us (i + 1)).map DtId.cells))] (by simp [KpR, renV2, renV, zbl, zb5, zbi, zbp, zgz, zc7]; try (first | rfl | (omega; done))) (by simp [KpOX, renO, plO, cvO, renV, pl1, zbi, zbp, zbl, zgz, zc7]; try (first | rfl | (rw [← zht mkId cntId k us i (by omega), List.map_set]; refine zgr ?_; simp only [DtId.cells, mkId]; repeat' (first | rfl | (omega; done) | congr 1)))) (by rfl) (by simp) (by simp) (by rfl) (by simp [formsX, List.range_succ, zbi, zbp]), _, ?_, i + 1, rfl, ?_, rfl⟩
     ·omega
     ·omega
  try simp at hc11
  refine zch ?_
  refine zb4 ?_
  refine AW_x rfl rfl fun K hK => ?_
  simp (disch := omega) [zbd, gE, tP, DtId.cells, zb7, zb3]
  repeat' first | (exfalso; omega) | (refine ⟨fun _ => ?_, fun _ => ?_⟩) | (refine ⟨by omega, ?_⟩) | (intro _)
  all_goals (refine hK _ ?_; clear hK K)
  all_goals
   refine zby (zdm [] [] (by simp [List.range_succ, zbi, zbp, zbl]) (by simp) ?_)
   simp (disch := omega) [zbd, gE, tP, DtId.cells, zb7, zb3]
   all_goals ((have e : i = us.length := by omega); subst e; rw [mkSR_n _ _ _ _ _ (by omega), List.take_of_length_le (by omega)]; exact ⟨rfl, rfl⟩)
theorem toIdSX (us : List DtId) (hl : us.length ≤ 1048576) : XCall Tryz.prog 31 [.sl 2 (us.map DtId.cells)] [] (.arr 16 0 us.length) [] [.own 2 (us.map DtId.cells)] := by
 have hL := hl
 refine zcg Tryz.func31 (by rfl) (by rfl) (by rw [Tryz.ntmps31]; exact Nat.le_of_ble_eq_true rfl) rfl (by simp) rfl rfl ?_
 rw [Tryz.ntmps31]
 refine zfb   ?_
 refine AW_k [(0, _)] ⟨rfl, trivial⟩ ?_
 refine AW_x rfl rfl fun K hK => ?_
 simp (disch := omega) [zbd, gE, tP, DtId.cells, zdv, zb3, List.range_succ]
 repeat' first | (refine ⟨by omega, ?_⟩) | (intro _)
 refine hK _ ?_; clear hK K
 refine AW_x rfl rfl fun K hK => ?_
 simp (disch := omega) [zbd, gE, tP, DtId.cells, zdv, zb3, List.range_succ]
 repeat' first | (refine ⟨by omega, ?_⟩) | (intro _)
 refine hK _ ?_; clear hK K
 refine zbr ?_
 refine AW_x rfl rfl fun K hK => ?_
 simp (disch := omega) [zbd, gE, tP, DtId.cells, zdv, zb3, List.range_succ]
 repeat' first | (refine ⟨by omega, ?_⟩) | (intro _)
 refine hK _ ?_; clear hK K
 refine zb0 ?_
 refine zcf (fun mM sS => ∃ (i : Nat), mM = us.length - i ∧ (i ≤ us.length) ∧ sS = { env := lkE [(0, .sl 2 (us.map DtId.cells)), (3, .arr 128 0 us.length), (4, (.g (.int .i64 ((i : Nat)))))], ob := lk [(128, .own 2 (cpS [.g (.int .i64 0), .g (.int .i64 0)] DtId.cells us i))] }) ?_ ?_
 ·refine ⟨_, LeS.kx [(128, 128)] [(0, .sl 2 (us.map DtId.cells)), (3, .arr 128 0 us.length), (4, (.g (.int .i64 (((0) : Nat)))))] [(128, .own 2 (cpS [.g (.int .i64 0), .g (.int .i64 0)] DtId.cells us (0)))] (by simp [KpR, renV2, renV, zbl, zb5, zbi, zbp, zrz, zha]; try (first | rfl | (omega; done))) (by simp [KpOX, renO, plO, cvO, renV, pl1, zbi, zbp, zbl, zrz, zha]; try (first | rfl | (rw [← zp9 _ _ _ i (by omega)]; simp [DtId.cells]; done))) (by rfl) (by simp) (by simp) (by rfl) (by simp [formsX, List.range_succ, zbi, zbp]), _, 0, rfl, ?_, rfl⟩
  ·simp
 ·rintro mM sS ⟨i, rfl, hi, rfl⟩
  have hln : (cpS [.g (.int .i64 0), .g (.int .i64 0)] DtId.cells us i).length = us.length := cpS_len _ _ _ _ hi
  refine zbr ?_
  refine AW_x rfl rfl fun K hK => ?_
  simp (disch := omega) [zbd, gE, tP, DtId.cells, zdv, zb3, List.range_succ]
  repeat' first | (refine ⟨by omega, ?_⟩) | (intro _)
  refine hK _ ?_; clear hK K
  refine zbu rfl (fun hc12 => ?_) (fun hc12 => ?_)
  ·try simp at hc12
   all_goals
    refine zbv ?_
    refine zb4 ?_
    refine zbr ?_
    refine zb0 ?_
    refine zdd rfl rfl fun K hK => ?_
    simp (disch := omega) [zbd, gE, tP, DtId.cells, zdv, zb3, List.range_succ]
    repeat' first | (exfalso; omega) | (refine zde (zbh (zcb rfl) zbs) (toId _) rfl ?_; simp (disch := omega) [zbd, gE, tP, DtId.cells, zdv, zb3, List.range_succ]) | (refine zdf (toId _) (by rfl) ?_ ?_; (focus (simp (disch := omega) [zbd, gE, tP, DtId.cells, zdv, zb3, List.range_succ, zba]; done)); simp (disch := omega) [zbd, gE, tP, DtId.cells, zdv, zb3, List.range_succ]) | (refine ⟨fun _ => ?_, fun _ => ?_⟩) | (refine ⟨by omega, ?_⟩) | (intro _)
    all_goals (refine hK _ ?_; clear hK K)
    all_goals
     refine zb4 ?_
     refine zdd rfl rfl fun K hK => ?_
     simp (disch := omega) [zbd, gE, tP, DtId.cells, zdv, zb3, List.range_succ]
     repeat' first | (refine ⟨by omega, ?_⟩) | (intro _)
     refine hK _ ?_; clear hK K
     refine ⟨_, LeS.kx [(128, 128)] [(0, .sl 2 (us.map DtId.cells)), (3, .arr 128 0 us.length), (4, (.g (.int .i64 (((i + 1) : Nat)))))] [(128, .own 2 (cpS [.g (.int .i64 0), .g (.int .i64 0)] DtId.cells us (i + 1)))] (by simp [KpR, renV2, renV, zbl, zb5, zbi, zbp, zrz, zha]; try (first | rfl | (omega; done))) (by simp [KpOX, renO, plO, cvO, renV, pl1, zbi, zbp, zbl, zrz, zha]; try (first | rfl | (rw [← zp9 _ _ _ i (by omega)]; simp [DtId.cells]; done))) (by rfl) (by simp) (by simp) (by rfl) (by simp [formsX, List.range_succ, zbi, zbp]), _, ?_, i + 1, rfl, ?_, rfl⟩
     ·omega
     ·omega
  try simp at hc12
  refine zch ?_
  refine zb4 ?_
  refine AW_x rfl rfl fun K hK => ?_
  simp (disch := omega) [zbd, gE, tP, DtId.cells, zdv, zb3, List.range_succ]
  repeat' first | (exfalso; omega) | (refine ⟨fun _ => ?_, fun _ => ?_⟩) | (refine ⟨by omega, ?_⟩) | (intro _)
  all_goals (refine hK _ ?_; clear hK K)
  all_goals
   refine zby (zdm [128] [] (by simp [List.range_succ, zbi, zbp, zbl]) (by simp) ?_)
   simp (disch := omega) [zbd, gE, tP, DtId.cells, zdv, zb3, List.range_succ]
   all_goals (rw [cpS_n _ _ _ _ (by omega)])
def mkInst (k : Int) (u : DtInst) : DtInst := { fId := { fRep := k, fSlot := k + 1 }, fBal := k + 1 + 1, fVBal := k + 1 + 1 + 1, fStatus := k + 1 + 1 + 1 + 1, fCmd := { fKind := k + 1 + 1 + 1 + 1 + 1, fClient := k + 1 + 1 + 1 + 1 + 1 + 1, fNo := k + 1 + 1 + 1 + 1 + 1 + 1 + 1, fSet := mT (k + 1 + 1 + 1 + 1 + 1 + 1 + 1 + 1), fName := mT (k + 1 + 1 + 1 + 1 + 1 + 1 + 1 + 1 + 1), fTag := mT (k + 1 + 1 + 1 + 1 + 1 + 1 + 1 + 1 + 1 + 1), fN := k + 1 + 1 + 1 + 1 + 1 + 1 + 1 + 1 + 1 + 1 + 1, fChunks := mkL mT (k + 1 + 1 + 1 + 1 + 1 + 1 + 1 + 1 + 1 + 1 + 1 + 1) u.fCmd.fChunks.length }, fSeq := k + 1 + 1 + 1 + 1 + 1 + 1 + 1 + 1 + 1 + 1 + 1 + 1 + (u.fCmd.fChunks.length : Nat), fDeps := mkS mkId cntId (k + 1 + 1 + 1 + 1 + 1 + 1 + 1 + 1 + 1 + 1 + 1 + 1 + (u.fCmd.fChunks.length : Nat) + 1) u.fDeps, fSame := mB (k + 1 + 1 + 1 + 1 + 1 + 1 + 1 + 1 + 1 + 1 + 1 + 1 + (u.fCmd.fChunks.length : Nat) + 1 + cntS cntId u.fDeps) }
def cntInst (u : DtInst) : Int := 1 + 1 + 1 + 1 + 1 + 1 + 1 + 1 + 1 + 1 + 1 + 1 + (u.fCmd.fChunks.length : Nat) + 1 + cntS cntId u.fDeps + 1
theorem znv (u : DtInst) : 0 ≤ cntInst u := by
 have := zkf zqa u.fDeps
 unfold cntInst
 omega
theorem zxk (u : DtInst) : cntInst u ≤ 16 * (1 + DtInst.sz u) := by
 have := zfd zcp u.fCmd.fChunks
 have := cnt_sz0 cntId_sz u.fDeps
 unfold cntInst
 simp only [DtInst.sz, DtCmd.sz]
 omega
theorem markInstS (us : List DtInst) (k : Int) (hs : szS DtInst.sz us ≤ 1048576) (hk : 0 ≤ k ∧ k + cntS cntInst us ≤ 1073741824) : XCall Tryz.prog 10 [.arr 8 0 us.length, (.g (.int .i64 (k)))] [.own 16 (us.map DtInst.cells)] (.g (.int .i64 (k + cntS cntInst us))) [.own 16 ((mkS mkInst cntInst k us).map DtInst.cells)] [] := by
 have hL : us.length ≤ 1048576 := by have := zfd DtInst.sz_nonneg us; omega
 refine zcg Tryz.func10 (by rfl) (by rfl) (by rw [Tryz.ntmps10]; exact Nat.le_of_ble_eq_true rfl) rfl (by simp) rfl rfl ?_
 rw [Tryz.ntmps10]
 refine AW_x1 (.own 16 (us.map DtInst.cells)) (by simp [cvO] <;> assumption) ?_
 refine AW_k [(0, _), (1, _)] ⟨rfl, rfl, trivial⟩ ?_
 refine AW_x rfl rfl fun K hK => ?_
 simp (disch := omega) [zbd, gE, tP, DtInst.cells, DtId.cells, DtCmd.cells, zb7, zb3]
 repeat' first | (refine ⟨by omega, ?_⟩) | (intro _)
 refine hK _ ?_; clear hK K
 refine zbr ?_
 refine AW_x rfl rfl fun K hK => ?_
 simp (disch := omega) [zbd, gE, tP, DtInst.cells, DtId.cells, DtCmd.cells, zb7, zb3]
 repeat' first | (refine ⟨by omega, ?_⟩) | (intro _)
 refine hK _ ?_; clear hK K
 refine zb0 ?_
 refine zcf (fun mM sS => ∃ (i : Nat), mM = us.length - i ∧ (i ≤ us.length) ∧ sS = { env := lkE [(0, .arr 8 0 us.length), (1, (.g (.int .i64 (k + cntS cntInst (us.take i))))), (5, (.g (.int .i64 ((i : Nat)))))], ob := lk [(8, .own 16 ((mkSR mkInst cntInst k us i).map DtInst.cells))] }) ?_ ?_
 ·refine ⟨_, LeS.kx [(8, 8)] [(0, .arr 8 0 us.length), (1, (.g (.int .i64 (k + cntS cntInst (us.take (0)))))), (5, (.g (.int .i64 (((0) : Nat)))))] [(8, .own 16 ((mkSR mkInst cntInst k us (0)).map DtInst.cells))] (by simp [KpR, renV2, renV, zbl, zb5, zbi, zbp, zgz, zc7]; try (first | rfl | (omega; done))) (by simp [KpOX, renO, plO, cvO, renV, pl1, zbi, zbp, zbl, zgz, zc7]; try (first | rfl | (rw [← zht mkInst cntInst k us i (by omega), List.map_set]; refine zgr ?_; simp only [DtInst.cells, DtId.cells, DtCmd.cells, mkInst]; repeat' (first | rfl | (omega; done) | congr 1)))) (by rfl) (by simp) (by simp) (by rfl) (by simp [formsX, List.range_succ, zbi, zbp]), _, 0, rfl, ?_, rfl⟩
  ·simp
 ·rintro mM sS ⟨i, rfl, hi, rfl⟩
  have hln : (mkSR mkInst cntInst k us i).length = us.length := zp8 _ _ _ _ _ hi
  refine zbr ?_
  refine AW_x rfl rfl fun K hK => ?_
  simp (disch := omega) [zbd, gE, tP, DtInst.cells, DtId.cells, DtCmd.cells, zb7, zb3]
  repeat' first | (refine ⟨by omega, ?_⟩) | (intro _)
  refine hK _ ?_; clear hK K
  refine zbu rfl (fun hc13 => ?_) (fun hc13 => ?_)
  ·try simp at hc13
   all_goals
    have hcl := zp7 znv us i (by omega)
    have hcu : cntInst us[i] = 1 + 1 + 1 + 1 + 1 + 1 + 1 + 1 + 1 + 1 + 1 + 1 + (us[i].fCmd.fChunks.length : Nat) + 1 + cntS cntId us[i].fDeps + 1 := rfl
    have hcs := zg9 cntInst us i (by omega)
    have hzn1 := zfd zcp us[i].fCmd.fChunks
    have hcn2 := zkf zqa us[i].fDeps
    have hsE : DtInst.sz us[i] ≤ 1048576 := by have := zdp DtInst.sz_nonneg us us[i] (List.getElem_mem _); simp only [szS] at hs; omega
    simp only [DtInst.sz, DtCmd.sz] at hsE
    refine zbv ?_
    refine zb4 ?_
    refine zbr ?_
    refine zb0 ?_
    refine AW_x rfl rfl fun K hK => ?_
    simp (disch := omega) [zbd, gE, tP, DtInst.cells, DtId.cells, DtCmd.cells, zb7, zb3]
    repeat' first | (exfalso; omega) | (refine ⟨fun _ => ?_, fun _ => ?_⟩) | (refine ⟨by omega, ?_⟩) | (intro _)
    all_goals (refine hK _ ?_; clear hK K)
    all_goals
     refine AW_x rfl rfl fun K hK => ?_
     simp (disch := omega) [zbd, gE, tP, DtInst.cells, DtId.cells, DtCmd.cells, zb7, zb3]
     repeat' first | (refine ⟨by omega, ?_⟩) | (intro _)
     refine hK _ ?_; clear hK K
     refine AW_x rfl rfl fun K hK => ?_
     simp (disch := omega) [zbd, gE, tP, DtInst.cells, DtId.cells, DtCmd.cells, zb7, zb3]
     repeat' first | (refine ⟨by omega, ?_⟩) | (intro _)
     refine hK _ ?_; clear hK K
     refine AW_x rfl rfl fun K hK => ?_
     simp (disch := omega) [zbd, gE, tP, DtInst.cells, DtId.cells, DtCmd.cells, zb7, zb3]
     repeat' first | (refine ⟨by omega, ?_⟩) | (intro _)
     refine hK _ ?_; clear hK K
     refine AW_x rfl rfl fun K hK => ?_
     simp (disch := omega) [zbd, gE, tP, DtInst.cells, DtId.cells, DtCmd.cells, zb7, zb3]
     repeat' first | (refine ⟨by omega, ?_⟩) | (intro _)
     refine hK _ ?_; clear hK K
     refine AW_x rfl rfl fun K hK => ?_
     simp (disch := omega) [zbd, gE, tP, DtInst.cells, DtId.cells, DtCmd.cells, zb7, zb3]
     repeat' first | (refine ⟨by omega, ?_⟩) | (intro _)
     refine hK _ ?_; clear hK K
     refine AW_x rfl rfl fun K hK => ?_
     simp (disch := omega) [zbd, gE, tP, DtInst.cells, DtId.cells, DtCmd.cells, zb7, zb3]
     repeat' first | (refine ⟨by omega, ?_⟩) | (intro _)
     refine hK _ ?_; clear hK K
     refine AW_x rfl rfl fun K hK => ?_
     simp (disch := omega) [zbd, gE, tP, DtInst.cells, DtId.cells, DtCmd.cells, zb7, zb3]
     repeat' first | (refine ⟨by omega, ?_⟩) | (intro _)
     refine hK _ ?_; clear hK K
     refine AW_x rfl rfl fun K hK => ?_
     simp (disch := omega) [zbd, gE, tP, DtInst.cells, DtId.cells, DtCmd.cells, zb7, zb3]
     repeat' first | (refine ⟨by omega, ?_⟩) | (intro _)
     refine hK _ ?_; clear hK K
     refine AW_x rfl rfl fun K hK => ?_
     simp (disch := omega) [zbd, gE, tP, DtInst.cells, DtId.cells, DtCmd.cells, zb7, zb3]
     repeat' first | (refine ⟨by omega, ?_⟩) | (intro _)
     refine hK _ ?_; clear hK K
     refine AW_x rfl rfl fun K hK => ?_
     simp (disch := omega) [zbd, gE, tP, DtInst.cells, DtId.cells, DtCmd.cells, zb7, zb3]
     repeat' first | (refine ⟨by omega, ?_⟩) | (intro _)
     refine hK _ ?_; clear hK K
     refine AW_x rfl rfl fun K hK => ?_
     simp (disch := omega) [zbd, gE, tP, DtInst.cells, DtId.cells, DtCmd.cells, zb7, zb3]
     repeat' first | (refine ⟨by omega, ?_⟩) | (intro _)
     refine hK _ ?_; clear hK K
     refine AW_x rfl rfl fun K hK => ?_
     simp (disch := omega) [zbd, gE, tP, DtInst.cells, DtId.cells, DtCmd.cells, zb7, zb3]
     repeat' first | (refine ⟨by omega, ?_⟩) | (intro _)
     refine hK _ ?_; clear hK K
     refine AW_x rfl rfl fun K hK => ?_
     simp (disch := omega) [zbd, gE, tP, DtInst.cells, DtId.cells, DtCmd.cells, zb7, zb3]
     repeat' first | (refine ⟨by omega, ?_⟩) | (intro _)
     refine hK _ ?_; clear hK K
     refine AW_x rfl rfl fun K hK => ?_
     simp (disch := omega) [zbd, gE, tP, DtInst.cells, DtId.cells, DtCmd.cells, zb7, zb3]
     repeat' first | (refine ⟨by omega, ?_⟩) | (intro _)
     refine hK _ ?_; clear hK K
     refine AW_x rfl rfl fun K hK => ?_
     simp (disch := omega) [zbd, gE, tP, DtInst.cells, DtId.cells, DtCmd.cells, zb7, zb3]
     repeat' first | (refine ⟨by omega, ?_⟩) | (intro _)
     refine hK _ ?_; clear hK K
     refine AW_x rfl rfl fun K hK => ?_
     simp (disch := omega) [zbd, gE, tP, DtInst.cells, DtId.cells, DtCmd.cells, zb7, zb3]
     repeat' first | (exfalso; omega) | (refine zde (zbh zcx zbs) (zdb _ (by omega)) rfl ?_; simp (disch := omega) [zbd, gE, tP, DtInst.cells, DtId.cells, DtCmd.cells, zb7, zb3]) | (refine zdf (zdb _ (by omega)) (by rfl) ?_ ?_; (focus (simp (disch := omega) [zbd, gE, tP, DtInst.cells, DtId.cells, DtCmd.cells, zb7, zb3, zba]; done)); simp (disch := omega) [zbd, gE, tP, DtInst.cells, DtId.cells, DtCmd.cells, zb7, zb3]) | (refine ⟨by omega, ?_⟩) | (intro _)
     refine hK _ ?_; clear hK K
     refine AW_x rfl rfl fun K hK => ?_
     simp (disch := omega) [zbd, gE, tP, DtInst.cells, DtId.cells, DtCmd.cells, zb7, zb3]
     repeat' first | (refine ⟨by omega, ?_⟩) | (intro _)
     refine hK _ ?_; clear hK K
     refine AW_x rfl rfl fun K hK => ?_
     simp (disch := omega) [zbd, gE, tP, DtInst.cells, DtId.cells, DtCmd.cells, zb7, zb3]
     repeat' first | (exfalso; omega) | (refine zde (zbh zcx zbs) (zdb _ (by omega)) rfl ?_; simp (disch := omega) [zbd, gE, tP, DtInst.cells, DtId.cells, DtCmd.cells, zb7, zb3]) | (refine zdf (zdb _ (by omega)) (by rfl) ?_ ?_; (focus (simp (disch := omega) [zbd, gE, tP, DtInst.cells, DtId.cells, DtCmd.cells, zb7, zb3, zba]; done)); simp (disch := omega) [zbd, gE, tP, DtInst.cells, DtId.cells, DtCmd.cells, zb7, zb3]) | (refine ⟨by omega, ?_⟩) | (intro _)
     refine hK _ ?_; clear hK K
     refine AW_x rfl rfl fun K hK => ?_
     simp (disch := omega) [zbd, gE, tP, DtInst.cells, DtId.cells, DtCmd.cells, zb7, zb3]
     repeat' first | (refine ⟨by omega, ?_⟩) | (intro _)
     refine hK _ ?_; clear hK K
     refine AW_x rfl rfl fun K hK => ?_
     simp (disch := omega) [zbd, gE, tP, DtInst.cells, DtId.cells, DtCmd.cells, zb7, zb3]
     repeat' first | (exfalso; omega) | (refine zde (zbh zcx zbs) (zdb _ (by omega)) rfl ?_; simp (disch := omega) [zbd, gE, tP, DtInst.cells, DtId.cells, DtCmd.cells, zb7, zb3]) | (refine zdf (zdb _ (by omega)) (by rfl) ?_ ?_; (focus (simp (disch := omega) [zbd, gE, tP, DtInst.cells, DtId.cells, DtCmd.cells, zb7, zb3, zba]; done)); simp (disch := omega) [zbd, gE, tP, DtInst.cells, DtId.cells, DtCmd.cells, zb7, zb3]) | (refine ⟨by omega, ?_⟩) | (intro _)
     refine hK _ ?_; clear hK K
     refine AW_x rfl rfl fun K hK => ?_
     simp (disch := omega) [zbd, gE, tP, DtInst.cells, DtId.cells, DtCmd.cells, zb7, zb3]
     repeat' first | (refine ⟨by omega, ?_⟩) | (intro _)
     refine hK _ ?_; clear hK K
     refine AW_x rfl rfl fun K hK => ?_
     simp (disch := omega) [zbd, gE, tP, DtInst.cells, DtId.cells, DtCmd.cells, zb7, zb3]
     repeat' first | (refine ⟨by omega, ?_⟩) | (intro _)
     refine hK _ ?_; clear hK K
     refine AW_x rfl rfl fun K hK => ?_
     simp (disch := omega) [zbd, gE, tP, DtInst.cells, DtId.cells, DtCmd.cells, zb7, zb3]
     repeat' first | (refine ⟨by omega, ?_⟩) | (intro _)
     refine hK _ ?_; clear hK K
     refine AW_x rfl rfl fun K hK => ?_
     simp (disch := omega) [zbd, gE, tP, DtInst.cells, DtId.cells, DtCmd.cells, zb7, zb3]
     repeat' first | (exfalso; omega) | (refine XKd_n (n := 8) (i := i) (f0 := 12) (zmq us[i].fCmd.fChunks _ (by omega) (by omega)) ?_ ?_ ?_ ?_ rfl ?_ rfl ?_ ?_; (focus (simp; done)); (focus rfl); (focus rfl); (focus (simp [zd8, zf6]; done)); (focus (simp; done)); (focus first | exact ⟨_, zb3 _ _ _ _ (by omega), rfl⟩ | exact ⟨_, by rw [List.getElem?_map, zlf _ _ _ _ _ (by omega)]; rfl, rfl⟩); simp (disch := omega) [zbd, gE, tP, DtInst.cells, DtId.cells, DtCmd.cells, zb7, zb3]) | (refine ⟨by omega, ?_⟩) | (intro _)
     refine hK _ ?_; clear hK K
     refine AW_x rfl rfl fun K hK => ?_
     simp (disch := omega) [zbd, gE, tP, DtInst.cells, DtId.cells, DtCmd.cells, zb7, zb3]
     repeat' first | (refine ⟨by omega, ?_⟩) | (intro _)
     refine hK _ ?_; clear hK K
     refine AW_x rfl rfl fun K hK => ?_
     simp (disch := omega) [zbd, gE, tP, DtInst.cells, DtId.cells, DtCmd.cells, zb7, zb3]
     repeat' first | (refine ⟨by omega, ?_⟩) | (intro _)
     refine hK _ ?_; clear hK K
     refine AW_x rfl rfl fun K hK => ?_
     simp (disch := omega) [zbd, gE, tP, DtInst.cells, DtId.cells, DtCmd.cells, zb7, zb3]
     repeat' first | (exfalso; omega) | (refine XKd_n (n := 8) (i := i) (f0 := 14) (markIdS us[i].fDeps _ (by omega) (by omega)) ?_ ?_ ?_ ?_ rfl ?_ rfl ?_ ?_; (focus (simp; done)); (focus rfl); (focus rfl); (focus (simp [zd8, zf6]; done)); (focus (simp; done)); (focus first | exact ⟨_, zb3 _ _ _ _ (by omega), rfl⟩ | exact ⟨_, by rw [List.getElem?_map, zlf _ _ _ _ _ (by omega)]; rfl, rfl⟩); simp (disch := omega) [zbd, gE, tP, DtInst.cells, DtId.cells, DtCmd.cells, zb7, zb3]) | (refine ⟨by omega, ?_⟩) | (intro _)
     refine hK _ ?_; clear hK K
     refine AW_x rfl rfl fun K hK => ?_
     simp (disch := omega) [zbd, gE, tP, DtInst.cells, DtId.cells, DtCmd.cells, zb7, zb3]
     repeat' first | (refine ⟨by omega, ?_⟩) | (intro _)
     refine hK _ ?_; clear hK K
     refine zdd rfl rfl fun K hK => ?_
     simp (disch := omega) [zbd, gE, tP, DtInst.cells, DtId.cells, DtCmd.cells, zb7, zb3]
     repeat' first | (refine ⟨by omega, ?_⟩) | (intro _)
     refine hK _ ?_; clear hK K
     refine zb4 ?_
     refine zdd rfl rfl fun K hK => ?_
     simp (disch := omega) [zbd, gE, tP, DtInst.cells, DtId.cells, DtCmd.cells, zb7, zb3]
     repeat' first | (refine ⟨by omega, ?_⟩) | (intro _)
     refine hK _ ?_; clear hK K
     refine ⟨_, LeS.kx [(8, 8)] [(0, .arr 8 0 us.length), (1, (.g (.int .i64 (k + cntS cntInst (us.take (i + 1)))))), (5, (.g (.int .i64 (((i + 1) : Nat)))))] [(8, .own 16 ((mkSR mkInst cntInst k us (i + 1)).map DtInst.cells))] (by simp [KpR, renV2, renV, zbl, zb5, zbi, zbp, zgz, zc7]; try (first | rfl | (omega; done))) (by simp [KpOX, renO, plO, cvO, renV, pl1, zbi, zbp, zbl, zgz, zc7]; try (first | rfl | (rw [← zht mkInst cntInst k us i (by omega), List.map_set]; refine zgr ?_; simp only [DtInst.cells, DtId.cells, DtCmd.cells, mkInst]; repeat' (first | rfl | (omega; done) | congr 1)))) (by rfl) (by simp) (by simp) (by rfl) (by simp [formsX, List.range_succ, zbi, zbp]), _, ?_, i + 1, rfl, ?_, rfl⟩
     ·omega
     ·omega
  try simp at hc13
  refine zch ?_
  refine zb4 ?_
  refine AW_x rfl rfl fun K hK => ?_
  simp (disch := omega) [zbd, gE, tP, DtInst.cells, DtId.cells, DtCmd.cells, zb7, zb3]
  repeat' first | (exfalso; omega) | (refine ⟨fun _ => ?_, fun _ => ?_⟩) | (refine ⟨by omega, ?_⟩) | (intro _)
  all_goals (refine hK _ ?_; clear hK K)
  all_goals
   refine zby (zdm [] [] (by simp [List.range_succ, zbi, zbp, zbl]) (by simp) ?_)
   simp (disch := omega) [zbd, gE, tP, DtInst.cells, DtId.cells, DtCmd.cells, zb7, zb3]
   all_goals ((have e : i = us.length := by omega); subst e; rw [mkSR_n _ _ _ _ _ (by omega), List.take_of_length_le (by omega)]; exact ⟨rfl, rfl⟩)
theorem toInstX (u : DtInst) (hs : DtInst.sz u ≤ 1048576) : XCall Tryz.prog 16 [.agg (DtInst.cells u)] [] (.agg [.g (.int .i64 u.fId.fRep), .g (.int .i64 u.fId.fSlot), .g (.int .i64 u.fBal), .g (.int .i64 u.fVBal), .g (.int .i64 u.fStatus), .g (.int .i64 u.fCmd.fKind), .g (.int .i64 u.fCmd.fClient), .g (.int .i64 u.fCmd.fNo), .s u.fCmd.fSet, .s u.fCmd.fName, .s u.fCmd.fTag, .g (.int .i64 u.fCmd.fN), .arr 16 0 u.fCmd.fChunks.length, .g (.int .i64 u.fSeq), .arr 17 0 u.fDeps.length, .g (.bool u.fSame)]) [] [.own 1 (u.fCmd.fChunks.map cS), .own 2 (u.fDeps.map DtId.cells)] := by
 simp only [DtInst.sz] at hs
 have hz1 := zfd zcp u.fCmd.fChunks
 have hz7 := DtCmd.sz_nonneg u.fCmd
 refine zcg Tryz.func16 (by rfl) (by rfl) (by rw [Tryz.ntmps16]; exact Nat.le_of_ble_eq_true rfl) rfl (by simp) rfl rfl ?_
 rw [Tryz.ntmps16]
 refine zfb   ?_
 refine AW_k [(0, _)] ⟨rfl, trivial⟩ ?_
 refine AW_x rfl rfl fun K hK => ?_
 simp (disch := omega) [zbd, gE, tP, DtInst.cells, DtId.cells, DtCmd.cells]
 repeat' first | (refine ⟨by omega, ?_⟩) | (intro _)
 refine hK _ ?_; clear hK K
 refine AW_x rfl rfl fun K hK => ?_
 simp (disch := omega) [zbd, gE, tP, DtInst.cells, DtId.cells, DtCmd.cells]
 repeat' first | (refine ⟨by omega, ?_⟩) | (intro _)
 refine hK _ ?_; clear hK K
 refine AW_x rfl rfl fun K hK => ?_
 simp (disch := omega) [zbd, gE, tP, DtInst.cells, DtId.cells, DtCmd.cells]
 repeat' first | (exfalso; omega) | (refine zde (zbh (zcb rfl) zbs) (toId _) rfl ?_; simp (disch := omega) [zbd, gE, tP, DtInst.cells, DtId.cells, DtCmd.cells]) | (refine zdf (toId _) (by rfl) ?_ ?_; (focus (simp (disch := omega) [zbd, gE, tP, DtInst.cells, DtId.cells, DtCmd.cells, zba]; done)); simp (disch := omega) [zbd, gE, tP, DtInst.cells, DtId.cells, DtCmd.cells]) | (refine ⟨by omega, ?_⟩) | (intro _)
 refine hK _ ?_; clear hK K
 refine AW_x rfl rfl fun K hK => ?_
 simp (disch := omega) [zbd, gE, tP, DtInst.cells, DtId.cells, DtCmd.cells]
 repeat' first | (refine ⟨by omega, ?_⟩) | (intro _)
 refine hK _ ?_; clear hK K
 refine AW_x rfl rfl fun K hK => ?_
 simp (disch := omega) [zbd, gE, tP, DtInst.cells, DtId.cells, DtCmd.cells]
 repeat' first | (refine ⟨by omega, ?_⟩) | (intro _)
 refine hK _ ?_; clear hK K
 refine AW_x rfl rfl fun K hK => ?_
 simp (disch := omega) [zbd, gE, tP, DtInst.cells, DtId.cells, DtCmd.cells]
 repeat' first | (refine ⟨by omega, ?_⟩) | (intro _)
 refine hK _ ?_; clear hK K
 refine AW_x rfl rfl fun K hK => ?_
 simp (disch := omega) [zbd, gE, tP, DtInst.cells, DtId.cells, DtCmd.cells]
 repeat' first | (exfalso; omega) | (refine zfs [] true [] (toCmdX u.fCmd (by omega)) ?_ ?_ ?_; (focus (simp [List.range_succ, nmC]; done)); (focus (simp (disch := omega) [zbd, gE, tP, DtInst.cells, DtId.cells, DtCmd.cells, zba]; done)); simp (disch := omega) [zbd, gE, tP, DtInst.cells, DtId.cells, DtCmd.cells]) | (refine ⟨by omega, ?_⟩) | (intro _)
 refine hK _ ?_; clear hK K
 refine AW_x rfl rfl fun K hK => ?_
 simp (disch := omega) [zbd, gE, tP, DtInst.cells, DtId.cells, DtCmd.cells]
 repeat' first | (refine ⟨by omega, ?_⟩) | (intro _)
 refine hK _ ?_; clear hK K
 refine AW_x rfl rfl fun K hK => ?_
 simp (disch := omega) [zbd, gE, tP, DtInst.cells, DtId.cells, DtCmd.cells]
 repeat' first | (exfalso; omega) | (refine zfs [] true [] (toIdSX u.fDeps (by omega)) ?_ ?_ ?_; (focus (simp [List.range_succ, nmC]; done)); (focus (simp (disch := omega) [zbd, gE, tP, DtInst.cells, DtId.cells, DtCmd.cells, zba]; done)); simp (disch := omega) [zbd, gE, tP, DtInst.cells, DtId.cells, DtCmd.cells]) | (refine ⟨by omega, ?_⟩) | (intro _)
 refine hK _ ?_; clear hK K
 refine AW_x rfl rfl fun K hK => ?_
 simp (disch := omega) [zbd, gE, tP, DtInst.cells, DtId.cells, DtCmd.cells]
 repeat' first | (refine ⟨by omega, ?_⟩) | (intro _)
 refine hK _ ?_; clear hK K
 refine AW_x rfl rfl fun K hK => ?_
 simp (disch := omega) [zbd, gE, tP, DtInst.cells, DtId.cells, DtCmd.cells]
 repeat' first | (refine ⟨by omega, ?_⟩) | (intro _)
 refine hK _ ?_; clear hK K
 refine zby (zdm [320, 432] [] (by simp [List.range_succ, zbi, zbp, zbl]) (by simp) ?_)
 simp (disch := omega) [zbd, gE, tP, DtInst.cells, DtId.cells, DtCmd.cells]
 all_goals skip
theorem zlh (us : List DtInst) (hs : szS DtInst.sz us ≤ 1048576) : XCall Tryz.prog 6 [.sl 16 (us.map DtInst.cells)] [] (.arr 16 0 us.length) [] [.own 16 (us.map DtInst.cells)] := by
 have hL : us.length ≤ 1048576 := by have := zfd DtInst.sz_nonneg us; omega
 refine zcg Tryz.func6 (by rfl) (by rfl) (by rw [Tryz.ntmps6]; exact Nat.le_of_ble_eq_true rfl) rfl (by simp) rfl rfl ?_
 rw [Tryz.ntmps6]
 refine zfb   ?_
 refine AW_k [(0, _)] ⟨rfl, trivial⟩ ?_
 refine AW_x rfl rfl fun K hK => ?_
 simp (disch := omega) [zbd, gE, tP, DtInst.cells, DtId.cells, DtCmd.cells, zdv, zb3, List.range_succ]
 repeat' first | (refine ⟨by omega, ?_⟩) | (intro _)
 refine hK _ ?_; clear hK K
 refine AW_x rfl rfl fun K hK => ?_
 simp (disch := omega) [zbd, gE, tP, DtInst.cells, DtId.cells, DtCmd.cells, zdv, zb3, List.range_succ]
 repeat' first | (refine ⟨by omega, ?_⟩) | (intro _)
 refine hK _ ?_; clear hK K
 refine zbr ?_
 refine AW_x rfl rfl fun K hK => ?_
 simp (disch := omega) [zbd, gE, tP, DtInst.cells, DtId.cells, DtCmd.cells, zdv, zb3, List.range_succ]
 repeat' first | (refine ⟨by omega, ?_⟩) | (intro _)
 refine hK _ ?_; clear hK K
 refine zb0 ?_
 refine zcf (fun mM sS => ∃ (i : Nat), mM = us.length - i ∧ (i ≤ us.length) ∧ sS = { env := lkE [(0, .sl 16 (us.map DtInst.cells)), (3, .arr 128 0 us.length), (4, (.g (.int .i64 ((i : Nat)))))], ob := lk [(128, .own 16 (cpS [.g (.int .i64 0), .g (.int .i64 0), .g (.int .i64 0), .g (.int .i64 0), .g (.int .i64 0), .g (.int .i64 0), .g (.int .i64 0), .g (.int .i64 0), .s [], .s [], .s [], .g (.int .i64 0), .g (.slice none 0 0), .g (.int .i64 0), .g (.slice none 0 0), .g (.bool false)] DtInst.cells us i))] }) ?_ ?_
 ·refine ⟨_, LeS.kx [(128, 128)] [(0, .sl 16 (us.map DtInst.cells)), (3, .arr 128 0 us.length), (4, (.g (.int .i64 (((0) : Nat)))))] [(128, .own 16 (cpS [.g (.int .i64 0), .g (.int .i64 0), .g (.int .i64 0), .g (.int .i64 0), .g (.int .i64 0), .g (.int .i64 0), .g (.int .i64 0), .g (.int .i64 0), .s [], .s [], .s [], .g (.int .i64 0), .g (.slice none 0 0), .g (.int .i64 0), .g (.slice none 0 0), .g (.bool false)] DtInst.cells us (0)))] (by simp [KpR, renV2, renV, zbl, zb5, zbi, zbp, zrz, zha]; try (first | rfl | (omega; done))) (by simp [KpOX, renO, plO, cvO, renV, pl1, zbi, zbp, zbl, zrz, zha]; try (first | rfl | (rw [← zp9 _ _ _ i (by omega)]; simp [DtInst.cells, DtId.cells, DtCmd.cells]; done))) (by rfl) (by simp) (by simp) (by rfl) (by simp [formsX, List.range_succ, zbi, zbp]), _, 0, rfl, ?_, rfl⟩
  ·simp
 ·rintro mM sS ⟨i, rfl, hi, rfl⟩
  have hln : (cpS [.g (.int .i64 0), .g (.int .i64 0), .g (.int .i64 0), .g (.int .i64 0), .g (.int .i64 0), .g (.int .i64 0), .g (.int .i64 0), .g (.int .i64 0), .s [], .s [], .s [], .g (.int .i64 0), .g (.slice none 0 0), .g (.int .i64 0), .g (.slice none 0 0), .g (.bool false)] DtInst.cells us i).length = us.length := cpS_len _ _ _ _ hi
  refine zbr ?_
  refine AW_x rfl rfl fun K hK => ?_
  simp (disch := omega) [zbd, gE, tP, DtInst.cells, DtId.cells, DtCmd.cells, zdv, zb3, List.range_succ]
  repeat' first | (refine ⟨by omega, ?_⟩) | (intro _)
  refine hK _ ?_; clear hK K
  refine zbu rfl (fun hc14 => ?_) (fun hc14 => ?_)
  ·try simp at hc14
   all_goals
    have hsE : DtInst.sz us[i] ≤ 1048576 := by have := zdp DtInst.sz_nonneg us us[i] (List.getElem_mem _); simp only [szS] at hs; omega
    refine zbv ?_
    refine zb4 ?_
    refine zbr ?_
    refine zb0 ?_
    refine zdd rfl rfl fun K hK => ?_
    simp (disch := omega) [zbd, gE, tP, DtInst.cells, DtId.cells, DtCmd.cells, zdv, zb3, List.range_succ]
    repeat' first | (exfalso; omega) | (refine zfs [] true [] (toInstX us[i] (by omega)) ?_ ?_ ?_; (focus (simp [List.range_succ, nmC]; done)); (focus (simp (disch := omega) [zbd, gE, tP, DtInst.cells, DtId.cells, DtCmd.cells, zdv, zb3, List.range_succ, zba]; done)); simp (disch := omega) [zbd, gE, tP, DtInst.cells, DtId.cells, DtCmd.cells, zdv, zb3, List.range_succ]) | (refine ⟨fun _ => ?_, fun _ => ?_⟩) | (refine ⟨by omega, ?_⟩) | (intro _)
    all_goals (refine hK _ ?_; clear hK K)
    all_goals
     refine zb4 ?_
     refine zdd rfl rfl fun K hK => ?_
     simp (disch := omega) [zbd, gE, tP, DtInst.cells, DtId.cells, DtCmd.cells, zdv, zb3, List.range_succ]
     repeat' first | (refine ⟨by omega, ?_⟩) | (intro _)
     refine hK _ ?_; clear hK K
     refine ⟨_, LeS.kx [(128, 128)] [(0, .sl 16 (us.map DtInst.cells)), (3, .arr 128 0 us.length), (4, (.g (.int .i64 (((i + 1) : Nat)))))] [(128, .own 16 (cpS [.g (.int .i64 0), .g (.int .i64 0), .g (.int .i64 0), .g (.int .i64 0), .g (.int .i64 0), .g (.int .i64 0), .g (.int .i64 0), .g (.int .i64 0), .s [], .s [], .s [], .g (.int .i64 0), .g (.slice none 0 0), .g (.int .i64 0), .g (.slice none 0 0), .g (.bool false)] DtInst.cells us (i + 1)))] (by simp [KpR, renV2, renV, zbl, zb5, zbi, zbp, zrz, zha]; try (first | rfl | (omega; done))) (by simp [KpOX, renO, plO, cvO, renV, pl1, zbi, zbp, zbl, zrz, zha]; try (first | rfl | (rw [← zp9 _ _ _ i (by omega)]; simp [DtInst.cells, DtId.cells, DtCmd.cells]; done))) (by rfl) (by simp) (by simp) (by rfl) (by simp [formsX, List.range_succ, zbi, zbp]), _, ?_, i + 1, rfl, ?_, rfl⟩
     ·omega
     ·omega
  try simp at hc14
  refine zch ?_
  refine zb4 ?_
  refine AW_x rfl rfl fun K hK => ?_
  simp (disch := omega) [zbd, gE, tP, DtInst.cells, DtId.cells, DtCmd.cells, zdv, zb3, List.range_succ]
  repeat' first | (exfalso; omega) | (refine ⟨fun _ => ?_, fun _ => ?_⟩) | (refine ⟨by omega, ?_⟩) | (intro _)
  all_goals (refine hK _ ?_; clear hK K)
  all_goals
   refine zby (zdm [128] [] (by simp [List.range_succ, zbi, zbp, zbl]) (by simp) ?_)
   simp (disch := omega) [zbd, gE, tP, DtInst.cells, DtId.cells, DtCmd.cells, zdv, zb3, List.range_succ]
   all_goals (rw [cpS_n _ _ _ _ (by omega)])
end Go.Proofs.YtfbmhgiokfpgiaaGreat.Vs
