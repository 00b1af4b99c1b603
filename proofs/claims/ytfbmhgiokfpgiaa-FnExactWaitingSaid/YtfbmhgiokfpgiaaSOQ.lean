import Derived.Test.YtfbmhgiokfpgiaaSN1
import Derived.Test.YtfbmhgiokfpgiaaSDQ
open Go Go.Proofs Go.Proofs.Ytfbmhgiokfpgiaa.Vs
namespace Go.Proofs.Ytfbmhgiokfpgiaa.Vs
set_option linter.all false
set_option linter.unusedSimpArgs false
set_option linter.unusedVariables false
set_option maxRecDepth 100000
theorem zhj {l : List (List AV)} {i : Nat} {a b : List AV} (h : a = b) : l.set i a = l.set i b := by rw [h]
theorem zge {α : Type} {f : α → Int} (hf : ∀ x, 0 ≤ f x) (l : List α) : (l.length : Int) ≤ szS f l := by have := zcl hf l; unfold szS; omega
theorem cnt_sz {α : Type} {cnt sz : α → Int} (h : ∀ u, cnt u ≤ 16 * (1 + sz u)) : ∀ us : List α, cntS cnt us ≤ 16 * szS sz us
 | [] => by simp [zcv, szS, zdn]
 | u :: us => by
  have h1 := cnt_sz h us
  have h2 := h u
  simp only [szS, zfv, zdq, List.length_cons] at h1 ⊢
  omega
theorem zxc {α : Type} {cnt : α → Int} (h : ∀ u, cnt u ≤ 16) : ∀ us : List α, cntS cnt us ≤ 16 * (us.length : Nat)
 | [] => by simp [zcv]
 | u :: us => by
  have h1 := zxc h us
  have h2 := h u
  simp only [zdq, List.length_cons]
  omega
def mkId (k : Int) (u : DtId) : DtId := { fRep := k, fSlot := k + 1 }
def cntId (u : DtId) : Int := 1 + 1
theorem zhk (u : DtId) : 0 ≤ cntId u := by
 unfold cntId
 omega
theorem zsf (u : DtId) : cntId u ≤ 16 := by unfold cntId; omega
theorem zxd (us : List DtId) (k : Int) (hl : us.length ≤ 1048576) (hk : 0 ≤ k ∧ k + cntS cntId us ≤ 1073741824) : XCall Try.prog 12 [.arr 8 0 us.length, (.g (.int .i64 (k)))] [.own 2 (us.map DtId.cells)] (.g (.int .i64 (k + cntS cntId us))) [.own 2 ((mkS mkId cntId k us).map DtId.cells)] [] := by
 have hL := hl
 refine zcd Try.func12 (by rfl) (by rfl) (by rw [Try.ntmps12]; exact Nat.le_of_ble_eq_true rfl) rfl (by simp) rfl rfl ?_
 rw [Try.ntmps12]
 refine AW_x1 (.own 2 (us.map DtId.cells)) (by simp [cvO] <;> assumption) ?_
 refine AW_k [(0, _), (1, _)] ⟨rfl, rfl, trivial⟩ ?_
 refine AW_x rfl rfl fun K hK => ?_
 simp (disch := omega) [zbc, gE, tP, DtId.cells, zb7, zbv]
 repeat' first | (refine ⟨by omega, ?_⟩) | (intro _)
 refine hK _ ?_; clear hK K
 refine zbo ?_
 refine AW_x rfl rfl fun K hK => ?_
 simp (disch := omega) [zbc, gE, tP, DtId.cells, zb7, zbv]
 repeat' first | (refine ⟨by omega, ?_⟩) | (intro _)
 refine hK _ ?_; clear hK K
 refine zbw ?_
 refine zcb (fun mM sS => ∃ (i : Nat), mM = us.length - i ∧ (i ≤ us.length) ∧ sS = { env := lkE [(0, .arr 8 0 us.length), (1, (.g (.int .i64 (k + cntS cntId (us.take i))))), (5, (.g (.int .i64 ((i : Nat)))))], ob := lk [(8, .own 2 ((mkSR mkId cntId k us i).map DtId.cells))] }) ?_ ?_
 ·refine ⟨_, LeS.kx [(8, 8)] [(0, .arr 8 0 us.length), (1, (.g (.int .i64 (k + cntS cntId (us.take (0)))))), (5, (.g (.int .i64 (((0) : Nat)))))] [(8, .own 2 ((mkSR mkId cntId k us (0)).map DtId.cells))] (by simp [KpR, renV2, renV, zbl, zbz, zbj, zbu, zjd, zcv]; try (first | rfl | (omega; done))) (by simp [KpOX, renO, plO, cvO, renV, pl1, zbj, zbu, zbl, zjd, zcv]; try (first | rfl | (rw [← zj1 mkId cntId k us i (by omega), List.map_set]; refine zhj ?_; simp only [DtId.cells, mkId]; repeat' (first | rfl | (omega; done) | congr 1)))) (by rfl) (by simp) (by simp) (by rfl) (by simp [formsX, List.range_succ, zbj, zbu]), _, 0, rfl, ?_, rfl⟩
  ·simp
 ·rintro mM sS ⟨i, rfl, hi, rfl⟩
  have hln : (mkSR mkId cntId k us i).length = us.length := zse _ _ _ _ _ hi
  refine zbo ?_
  refine AW_x rfl rfl fun K hK => ?_
  simp (disch := omega) [zbc, gE, tP, DtId.cells, zb7, zbv]
  repeat' first | (refine ⟨by omega, ?_⟩) | (intro _)
  refine hK _ ?_; clear hK K
  refine zbr rfl (fun hc1 => ?_) (fun hc1 => ?_)
  ·try simp at hc1
   all_goals
    have hcl := zrf zhk us i (by omega)
    have hcu : cntId us[i] = 1 + 1 := rfl
    have hcs := zhi cntId us i (by omega)
    refine zbs ?_
    refine zbx ?_
    refine zbo ?_
    refine zbw ?_
    refine AW_x rfl rfl fun K hK => ?_
    simp (disch := omega) [zbc, gE, tP, DtId.cells, zb7, zbv]
    repeat' first | (exfalso; omega) | (refine ⟨fun _ => ?_, fun _ => ?_⟩) | (refine ⟨by omega, ?_⟩) | (intro _)
    all_goals (refine hK _ ?_; clear hK K)
    all_goals
     refine AW_x rfl rfl fun K hK => ?_
     simp (disch := omega) [zbc, gE, tP, DtId.cells, zb7, zbv]
     repeat' first | (refine ⟨by omega, ?_⟩) | (intro _)
     refine hK _ ?_; clear hK K
     refine AW_x rfl rfl fun K hK => ?_
     simp (disch := omega) [zbc, gE, tP, DtId.cells, zb7, zbv]
     repeat' first | (refine ⟨by omega, ?_⟩) | (intro _)
     refine hK _ ?_; clear hK K
     refine zdt rfl rfl fun K hK => ?_
     simp (disch := omega) [zbc, gE, tP, DtId.cells, zb7, zbv]
     repeat' first | (refine ⟨by omega, ?_⟩) | (intro _)
     refine hK _ ?_; clear hK K
     refine zbx ?_
     refine zdt rfl rfl fun K hK => ?_
     simp (disch := omega) [zbc, gE, tP, DtId.cells, zb7, zbv]
     repeat' first | (refine ⟨by omega, ?_⟩) | (intro _)
     refine hK _ ?_; clear hK K
     refine ⟨_, LeS.kx [(8, 8)] [(0, .arr 8 0 us.length), (1, (.g (.int .i64 (k + cntS cntId (us.take (i + 1)))))), (5, (.g (.int .i64 (((i + 1) : Nat)))))] [(8, .own 2 ((mkSR mkId cntId k us (i + 1)).map DtId.cells))] (by simp [KpR, renV2, renV, zbl, zbz, zbj, zbu, zjd, zcv]; try (first | rfl | (omega; done))) (by simp [KpOX, renO, plO, cvO, renV, pl1, zbj, zbu, zbl, zjd, zcv]; try (first | rfl | (rw [← zj1 mkId cntId k us i (by omega), List.map_set]; refine zhj ?_; simp only [DtId.cells, mkId]; repeat' (first | rfl | (omega; done) | congr 1)))) (by rfl) (by simp) (by simp) (by rfl) (by simp [formsX, List.range_succ, zbj, zbu]), _, ?_, i + 1, rfl, ?_, rfl⟩
     ·omega
     ·omega
  try simp at hc1
  refine zce ?_
  refine zbx ?_
  refine AW_x rfl rfl fun K hK => ?_
  simp (disch := omega) [zbc, gE, tP, DtId.cells, zb7, zbv]
  repeat' first | (exfalso; omega) | (refine ⟨fun _ => ?_, fun _ => ?_⟩) | (refine ⟨by omega, ?_⟩) | (intro _)
  all_goals (refine hK _ ?_; clear hK K)
  all_goals
   refine zbt (zdf [] [] (by simp [List.range_succ, zbj, zbu, zbl]) (by simp) ?_)
   simp (disch := omega) [zbc, gE, tP, DtId.cells, zb7, zbv]
   all_goals ((have e : i = us.length := by omega); subst e; rw [mkSR_n _ _ _ _ _ (by omega), List.take_of_length_le (by omega)]; exact ⟨rfl, rfl⟩)
theorem zm5 (us : List DtId) (k : Int) (hl : us.length ≤ 1048576) (hk : 0 ≤ k ∧ k + cntS cntId us ≤ 1073741824) : PCall Try.prog 13 [.sl 2 ((mkS mkId cntId k us).map DtId.cells), (.g (.int .i64 (k)))] (.g (.int .i64 (k + cntS cntId us))) := by
 have hL := hl
 refine zbq Try.func13 (by rfl) (by rfl) (by rw [Try.ntmps13]; exact Nat.le_of_ble_eq_true rfl) rfl (by decide) ?_
 rw [Try.ntmps13]
 refine AW_k [(0, _), (1, _)] ⟨rfl, rfl, trivial⟩ ?_
 refine AW_r rfl rfl fun K hK => ?_
 simp (disch := omega) [zbc, gE, tP, DtId.cells, zfe, mkId]
 repeat' first | (refine ⟨by omega, ?_⟩) | (intro _)
 refine hK _ ?_; clear hK K
 refine zbo ?_
 refine AW_r rfl rfl fun K hK => ?_
 simp (disch := omega) [zbc, gE, tP, DtId.cells, zfe, mkId]
 repeat' first | (refine ⟨by omega, ?_⟩) | (intro _)
 refine hK _ ?_; clear hK K
 refine zbw ?_
 refine zcb (fun mM sS => ∃ (i : Nat), mM = us.length - i ∧ (i ≤ us.length) ∧ sS = { env := lkE [(0, .sl 2 ((mkS mkId cntId k us).map DtId.cells)), (1, (.g (.int .i64 (k + cntS cntId (us.take i))))), (5, (.g (.int .i64 ((i : Nat)))))], ob := formOb [] [] }) ?_ ?_
 ·refine ⟨_, LeS.kp [(0, .sl 2 ((mkS mkId cntId k us).map DtId.cells)), (1, (.g (.int .i64 (k + cntS cntId (us.take (0)))))), (5, (.g (.int .i64 (((0) : Nat)))))] (by simp [KpE, zbl, zbz, zbj, zcv]; try (first | rfl | (omega; done))), _, 0, rfl, ?_, rfl⟩
  ·simp
 ·rintro mM sS ⟨i, rfl, hi, rfl⟩
  have hln : (mkS mkId cntId k us).length = us.length := zfq _ _ _ _
  refine zbo ?_
  refine AW_r rfl rfl fun K hK => ?_
  simp (disch := omega) [zbc, gE, tP, DtId.cells, zfe, mkId]
  repeat' first | (refine ⟨by omega, ?_⟩) | (intro _)
  refine hK _ ?_; clear hK K
  refine zbr rfl (fun hc2 => ?_) (fun hc2 => ?_)
  ·try simp at hc2
   all_goals
    have hcl := zrf zhk us i (by omega)
    have hcu : cntId us[i] = 1 + 1 := rfl
    have hcs := zhi cntId us i (by omega)
    refine zbs ?_
    refine zbx ?_
    refine zbo ?_
    refine zbw ?_
    refine zbo ?_
    refine AW_r rfl rfl fun K hK => ?_
    simp (disch := omega) [zbc, gE, tP, DtId.cells, zfe, mkId]
    repeat' first | (exfalso; omega) | (refine ⟨fun _ => ?_, fun _ => ?_⟩) | (refine ⟨by omega, ?_⟩) | (intro _)
    all_goals (refine hK _ ?_; clear hK K)
    all_goals
     refine zbr rfl (fun hc3 => ?_) (fun hc3 => ?_)
     ·try simp at hc3
      all_goals
       refine AW_r rfl rfl fun K hK => ?_
       simp (disch := omega) [zbc, gE, tP, DtId.cells, zfe, mkId]
       repeat' first | (exfalso; omega) | (refine ⟨fun _ => ?_, fun _ => ?_⟩) | (refine ⟨by omega, ?_⟩) | (intro _)
       all_goals (refine hK _ ?_; clear hK K)
       all_goals
        refine zbt (zb4 ?_)
        simp (disch := omega) [zbc, gE, tP, DtId.cells, zfe, mkId]
        all_goals first | omega | ((have e : i = us.length := by omega); subst e; rw [List.take_of_length_le (by omega)])
     try simp at hc3
     refine zbs ?_
     refine zbx ?_
     refine AW_r rfl rfl fun K hK => ?_
     simp (disch := omega) [zbc, gE, tP, DtId.cells, zfe, mkId]
     repeat' first | (exfalso; omega) | (refine ⟨fun _ => ?_, fun _ => ?_⟩) | (refine ⟨by omega, ?_⟩) | (intro _)
     all_goals (refine hK _ ?_; clear hK K)
     all_goals
      refine zbo ?_
      refine AW_r rfl rfl fun K hK => ?_
      simp (disch := omega) [zbc, gE, tP, DtId.cells, zfe, mkId]
      repeat' first | (refine ⟨by omega, ?_⟩) | (intro _)
      refine hK _ ?_; clear hK K
      refine zbr rfl (fun hc4 => ?_) (fun hc4 => ?_)
      ·try simp at hc4
       all_goals
        refine AW_r rfl rfl fun K hK => ?_
        simp (disch := omega) [zbc, gE, tP, DtId.cells, zfe, mkId]
        repeat' first | (exfalso; omega) | (refine ⟨fun _ => ?_, fun _ => ?_⟩) | (refine ⟨by omega, ?_⟩) | (intro _)
        all_goals (refine hK _ ?_; clear hK K)
        all_goals
         refine zbt (zb4 ?_)
         simp (disch := omega) [zbc, gE, tP, DtId.cells, zfe, mkId]
         all_goals first | omega | ((have e : i = us.length := by omega); subst e; rw [List.take_of_length_le (by omega)])
      try simp at hc4
      refine zbs ?_
      refine zbx ?_
      refine zc6 rfl rfl fun K hK => ?_
      simp (disch := omega) [zbc, gE, tP, DtId.cells, zfe, mkId]
      repeat' first | (exfalso; omega) | (refine ⟨fun _ => ?_, fun _ => ?_⟩) | (refine ⟨by omega, ?_⟩) | (intro _)
      all_goals (refine hK _ ?_; clear hK K)
      all_goals
       refine zbx ?_
       refine zc6 rfl rfl fun K hK => ?_
       simp (disch := omega) [zbc, gE, tP, DtId.cells, zfe, mkId]
       repeat' first | (refine ⟨by omega, ?_⟩) | (intro _)
       refine hK _ ?_; clear hK K
       refine ⟨_, LeS.kp [(0, .sl 2 ((mkS mkId cntId k us).map DtId.cells)), (1, (.g (.int .i64 (k + cntS cntId (us.take (i + 1)))))), (5, (.g (.int .i64 (((i + 1) : Nat)))))] (by simp [KpE, zbl, zbz, zbj, zcv]; try (first | rfl | (omega; done))), _, ?_, i + 1, rfl, ?_, rfl⟩
       ·omega
       ·omega
  try simp at hc2
  refine zce ?_
  refine zbx ?_
  refine AW_r rfl rfl fun K hK => ?_
  simp (disch := omega) [zbc, gE, tP, DtId.cells, zfe, mkId]
  repeat' first | (exfalso; omega) | (refine ⟨fun _ => ?_, fun _ => ?_⟩) | (refine ⟨by omega, ?_⟩) | (intro _)
  all_goals (refine hK _ ?_; clear hK K)
  all_goals
   refine zbt (zb4 ?_)
   simp (disch := omega) [zbc, gE, tP, DtId.cells, zfe, mkId]
   all_goals first | omega | ((have e : i = us.length := by omega); subst e; rw [List.take_of_length_le (by omega)])
theorem toIdSX (us : List DtId) (hl : us.length ≤ 1048576) : XCall Try.prog 38 [.sl 2 (us.map DtId.cells)] [] (.arr 16 0 us.length) [] [.own 2 (us.map DtId.cells)] := by
 have hL := hl
 refine zcd Try.func38 (by rfl) (by rfl) (by rw [Try.ntmps38]; exact Nat.le_of_ble_eq_true rfl) rfl (by simp) rfl rfl ?_
 rw [Try.ntmps38]
 refine zh3   ?_
 refine AW_k [(0, _)] ⟨rfl, trivial⟩ ?_
 refine AW_x rfl rfl fun K hK => ?_
 simp (disch := omega) [zbc, gE, tP, DtId.cells, zc8, zbv, List.range_succ]
 repeat' first | (refine ⟨by omega, ?_⟩) | (intro _)
 refine hK _ ?_; clear hK K
 refine AW_x rfl rfl fun K hK => ?_
 simp (disch := omega) [zbc, gE, tP, DtId.cells, zc8, zbv, List.range_succ]
 repeat' first | (refine ⟨by omega, ?_⟩) | (intro _)
 refine hK _ ?_; clear hK K
 refine zbo ?_
 refine AW_x rfl rfl fun K hK => ?_
 simp (disch := omega) [zbc, gE, tP, DtId.cells, zc8, zbv, List.range_succ]
 repeat' first | (refine ⟨by omega, ?_⟩) | (intro _)
 refine hK _ ?_; clear hK K
 refine zbw ?_
 refine zcb (fun mM sS => ∃ (i : Nat), mM = us.length - i ∧ (i ≤ us.length) ∧ sS = { env := lkE [(0, .sl 2 (us.map DtId.cells)), (3, .arr 128 0 us.length), (4, (.g (.int .i64 ((i : Nat)))))], ob := lk [(128, .own 2 (cpS [.g (.int .i64 0), .g (.int .i64 0)] DtId.cells us i))] }) ?_ ?_
 ·refine ⟨_, LeS.kx [(128, 128)] [(0, .sl 2 (us.map DtId.cells)), (3, .arr 128 0 us.length), (4, (.g (.int .i64 (((0) : Nat)))))] [(128, .own 2 (cpS [.g (.int .i64 0), .g (.int .i64 0)] DtId.cells us (0)))] (by simp [KpR, renV2, renV, zbl, zbz, zbj, zbu, zpp, zgd]; try (first | rfl | (omega; done))) (by simp [KpOX, renO, plO, cvO, renV, pl1, zbj, zbu, zbl, zpp, zgd]; try (first | rfl | (rw [← zm4 _ _ _ i (by omega)]; simp [DtId.cells]; done))) (by rfl) (by simp) (by simp) (by rfl) (by simp [formsX, List.range_succ, zbj, zbu]), _, 0, rfl, ?_, rfl⟩
  ·simp
 ·rintro mM sS ⟨i, rfl, hi, rfl⟩
  have hln : (cpS [.g (.int .i64 0), .g (.int .i64 0)] DtId.cells us i).length = us.length := zxb _ _ _ _ hi
  refine zbo ?_
  refine AW_x rfl rfl fun K hK => ?_
  simp (disch := omega) [zbc, gE, tP, DtId.cells, zc8, zbv, List.range_succ]
  repeat' first | (refine ⟨by omega, ?_⟩) | (intro _)
  refine hK _ ?_; clear hK K
  refine zbr rfl (fun hc5 => ?_) (fun hc5 => ?_)
  ·try simp at hc5
   all_goals
    refine zbs ?_
    refine zbx ?_
    refine zbo ?_
    refine zbw ?_
    refine zdt rfl rfl fun K hK => ?_
    simp (disch := omega) [zbc, gE, tP, DtId.cells, zc8, zbv, List.range_succ]
    repeat' first | (exfalso; omega) | (refine zdu (zbg (zb6 rfl) zbn) (toId _) rfl ?_; simp (disch := omega) [zbc, gE, tP, DtId.cells, zc8, zbv, List.range_succ]) | (refine zdv (toId _) (by rfl) ?_ ?_; (focus (simp (disch := omega) [zbc, gE, tP, DtId.cells, zc8, zbv, List.range_succ, zbd]; done)); simp (disch := omega) [zbc, gE, tP, DtId.cells, zc8, zbv, List.range_succ]) | (refine ⟨fun _ => ?_, fun _ => ?_⟩) | (refine ⟨by omega, ?_⟩) | (intro _)
    all_goals (refine hK _ ?_; clear hK K)
    all_goals
     refine zbx ?_
     refine zdt rfl rfl fun K hK => ?_
     simp (disch := omega) [zbc, gE, tP, DtId.cells, zc8, zbv, List.range_succ]
     repeat' first | (refine ⟨by omega, ?_⟩) | (intro _)
     refine hK _ ?_; clear hK K
     refine ⟨_, LeS.kx [(128, 128)] [(0, .sl 2 (us.map DtId.cells)), (3, .arr 128 0 us.length), (4, (.g (.int .i64 (((i + 1) : Nat)))))] [(128, .own 2 (cpS [.g (.int .i64 0), .g (.int .i64 0)] DtId.cells us (i + 1)))] (by simp [KpR, renV2, renV, zbl, zbz, zbj, zbu, zpp, zgd]; try (first | rfl | (omega; done))) (by simp [KpOX, renO, plO, cvO, renV, pl1, zbj, zbu, zbl, zpp, zgd]; try (first | rfl | (rw [← zm4 _ _ _ i (by omega)]; simp [DtId.cells]; done))) (by rfl) (by simp) (by simp) (by rfl) (by simp [formsX, List.range_succ, zbj, zbu]), _, ?_, i + 1, rfl, ?_, rfl⟩
     ·omega
     ·omega
  try simp at hc5
  refine zce ?_
  refine zbx ?_
  refine AW_x rfl rfl fun K hK => ?_
  simp (disch := omega) [zbc, gE, tP, DtId.cells, zc8, zbv, List.range_succ]
  repeat' first | (exfalso; omega) | (refine ⟨fun _ => ?_, fun _ => ?_⟩) | (refine ⟨by omega, ?_⟩) | (intro _)
  all_goals (refine hK _ ?_; clear hK K)
  all_goals
   refine zbt (zdf [128] [] (by simp [List.range_succ, zbj, zbu, zbl]) (by simp) ?_)
   simp (disch := omega) [zbc, gE, tP, DtId.cells, zc8, zbv, List.range_succ]
   all_goals (rw [cpS_n _ _ _ _ (by omega)])
def mkCmd (k : Int) (u : DtCmd) : DtCmd := { fKind := k, fClient := k + 1, fNo := k + 1 + 1, fSet := mT (k + 1 + 1 + 1), fName := mT (k + 1 + 1 + 1 + 1), fTag := mT (k + 1 + 1 + 1 + 1 + 1), fN := k + 1 + 1 + 1 + 1 + 1 + 1, fChunks := mkL mT (k + 1 + 1 + 1 + 1 + 1 + 1 + 1) u.fChunks.length }
def cntCmd (u : DtCmd) : Int := 1 + 1 + 1 + 1 + 1 + 1 + 1 + (u.fChunks.length : Nat)
theorem toCmdX (u : DtCmd) (hs : DtCmd.sz u ≤ 1048576) : XCall Try.prog 37 [.agg (DtCmd.cells u)] [] (.agg [.g (.int .i64 u.fKind), .g (.int .i64 u.fClient), .g (.int .i64 u.fNo), .s u.fSet, .s u.fName, .s u.fTag, .g (.int .i64 u.fN), .arr 16 0 u.fChunks.length]) [] [.own 1 (u.fChunks.map cS)] := by
 simp only [DtCmd.sz] at hs
 have hz1 := zge zck u.fChunks
 refine zcd Try.func37 (by rfl) (by rfl) (by rw [Try.ntmps37]; exact Nat.le_of_ble_eq_true rfl) rfl (by simp) rfl rfl ?_
 rw [Try.ntmps37]
 refine zh3   ?_
 refine AW_k [(0, _)] ⟨rfl, trivial⟩ ?_
 refine AW_x rfl rfl fun K hK => ?_
 simp (disch := omega) [zbc, gE, tP, DtCmd.cells]
 repeat' first | (refine ⟨by omega, ?_⟩) | (intro _)
 refine hK _ ?_; clear hK K
 refine AW_x rfl rfl fun K hK => ?_
 simp (disch := omega) [zbc, gE, tP, DtCmd.cells]
 repeat' first | (refine ⟨by omega, ?_⟩) | (intro _)
 refine hK _ ?_; clear hK K
 refine AW_x rfl rfl fun K hK => ?_
 simp (disch := omega) [zbc, gE, tP, DtCmd.cells]
 repeat' first | (refine ⟨by omega, ?_⟩) | (intro _)
 refine hK _ ?_; clear hK K
 refine AW_x rfl rfl fun K hK => ?_
 simp (disch := omega) [zbc, gE, tP, DtCmd.cells]
 repeat' first | (refine ⟨by omega, ?_⟩) | (intro _)
 refine hK _ ?_; clear hK K
 refine AW_x rfl rfl fun K hK => ?_
 simp (disch := omega) [zbc, gE, tP, DtCmd.cells]
 repeat' first | (refine ⟨by omega, ?_⟩) | (intro _)
 refine hK _ ?_; clear hK K
 refine AW_x rfl rfl fun K hK => ?_
 simp (disch := omega) [zbc, gE, tP, DtCmd.cells]
 repeat' first | (refine ⟨by omega, ?_⟩) | (intro _)
 refine hK _ ?_; clear hK K
 refine AW_x rfl rfl fun K hK => ?_
 simp (disch := omega) [zbc, gE, tP, DtCmd.cells]
 repeat' first | (refine ⟨by omega, ?_⟩) | (intro _)
 refine hK _ ?_; clear hK K
 refine AW_x rfl rfl fun K hK => ?_
 simp (disch := omega) [zbc, gE, tP, DtCmd.cells]
 repeat' first | (refine ⟨by omega, ?_⟩) | (intro _)
 refine hK _ ?_; clear hK K
 refine AW_x rfl rfl fun K hK => ?_
 simp (disch := omega) [zbc, gE, tP, DtCmd.cells]
 repeat' first | (refine ⟨by omega, ?_⟩) | (intro _)
 refine hK _ ?_; clear hK K
 refine AW_x rfl rfl fun K hK => ?_
 simp (disch := omega) [zbc, gE, tP, DtCmd.cells]
 repeat' first | (exfalso; omega) | (refine zgs [] true [] (ztk u.fChunks (by omega)) ?_ ?_ ?_; (focus (simp [List.range_succ, nmC]; done)); (focus (simp (disch := omega) [zbc, gE, tP, DtCmd.cells, zbd]; done)); simp (disch := omega) [zbc, gE, tP, DtCmd.cells]) | (refine ⟨by omega, ?_⟩) | (intro _)
 refine hK _ ?_; clear hK K
 refine AW_x rfl rfl fun K hK => ?_
 simp (disch := omega) [zbc, gE, tP, DtCmd.cells]
 repeat' first | (refine ⟨by omega, ?_⟩) | (intro _)
 refine hK _ ?_; clear hK K
 refine zbt (zdf [448] [] (by simp [List.range_succ, zbj, zbu, zbl]) (by simp) ?_)
 simp (disch := omega) [zbc, gE, tP, DtCmd.cells]
 all_goals skip
def mkInst (k : Int) (u : DtInst) : DtInst := { fId := { fRep := k, fSlot := k + 1 }, fBal := k + 1 + 1, fVBal := k + 1 + 1 + 1, fStatus := k + 1 + 1 + 1 + 1, fCmd := { fKind := k + 1 + 1 + 1 + 1 + 1, fClient := k + 1 + 1 + 1 + 1 + 1 + 1, fNo := k + 1 + 1 + 1 + 1 + 1 + 1 + 1, fSet := mT (k + 1 + 1 + 1 + 1 + 1 + 1 + 1 + 1), fName := mT (k + 1 + 1 + 1 + 1 + 1 + 1 + 1 + 1 + 1), fTag := mT (k + 1 + 1 + 1 + 1 + 1 + 1 + 1 + 1 + 1 + 1), fN := k + 1 + 1 + 1 + 1 + 1 + 1 + 1 + 1 + 1 + 1 + 1, fChunks := mkL mT (k + 1 + 1 + 1 + 1 + 1 + 1 + 1 + 1 + 1 + 1 + 1 + 1) u.fCmd.fChunks.length }, fSeq := k + 1 + 1 + 1 + 1 + 1 + 1 + 1 + 1 + 1 + 1 + 1 + 1 + (u.fCmd.fChunks.length : Nat), fDeps := mkS mkId cntId (k + 1 + 1 + 1 + 1 + 1 + 1 + 1 + 1 + 1 + 1 + 1 + 1 + (u.fCmd.fChunks.length : Nat) + 1) u.fDeps, fSame := mB (k + 1 + 1 + 1 + 1 + 1 + 1 + 1 + 1 + 1 + 1 + 1 + 1 + (u.fCmd.fChunks.length : Nat) + 1 + cntS cntId u.fDeps) }
def cntInst (u : DtInst) : Int := 1 + 1 + 1 + 1 + 1 + 1 + 1 + 1 + 1 + 1 + 1 + 1 + (u.fCmd.fChunks.length : Nat) + 1 + cntS cntId u.fDeps + 1
theorem zl1 (u : DtInst) : 0 ≤ cntInst u := by
 have := zk3 zhk u.fDeps
 unfold cntInst
 omega
theorem ztl (u : DtInst) : cntInst u ≤ 16 * (1 + DtInst.sz u) := by
 have := zge zck u.fCmd.fChunks
 have := zxc zsf u.fDeps
 unfold cntInst
 simp only [DtInst.sz, DtCmd.sz]
 omega
theorem zxe (us : List DtInst) (k : Int) (hs : szS DtInst.sz us ≤ 1048576) (hk : 0 ≤ k ∧ k + cntS cntInst us ≤ 1073741824) : XCall Try.prog 11 [.arr 8 0 us.length, (.g (.int .i64 (k)))] [.own 16 (us.map DtInst.cells)] (.g (.int .i64 (k + cntS cntInst us))) [.own 16 ((mkS mkInst cntInst k us).map DtInst.cells)] [] := by
 have hL : us.length ≤ 1048576 := by have := zge DtInst.sz_nonneg us; omega
 refine zcd Try.func11 (by rfl) (by rfl) (by rw [Try.ntmps11]; exact Nat.le_of_ble_eq_true rfl) rfl (by simp) rfl rfl ?_
 rw [Try.ntmps11]
 refine AW_x1 (.own 16 (us.map DtInst.cells)) (by simp [cvO] <;> assumption) ?_
 refine AW_k [(0, _), (1, _)] ⟨rfl, rfl, trivial⟩ ?_
 refine AW_x rfl rfl fun K hK => ?_
 simp (disch := omega) [zbc, gE, tP, DtInst.cells, DtId.cells, DtCmd.cells, zb7, zbv]
 repeat' first | (refine ⟨by omega, ?_⟩) | (intro _)
 refine hK _ ?_; clear hK K
 refine zbo ?_
 refine AW_x rfl rfl fun K hK => ?_
 simp (disch := omega) [zbc, gE, tP, DtInst.cells, DtId.cells, DtCmd.cells, zb7, zbv]
 repeat' first | (refine ⟨by omega, ?_⟩) | (intro _)
 refine hK _ ?_; clear hK K
 refine zbw ?_
 refine zcb (fun mM sS => ∃ (i : Nat), mM = us.length - i ∧ (i ≤ us.length) ∧ sS = { env := lkE [(0, .arr 8 0 us.length), (1, (.g (.int .i64 (k + cntS cntInst (us.take i))))), (5, (.g (.int .i64 ((i : Nat)))))], ob := lk [(8, .own 16 ((mkSR mkInst cntInst k us i).map DtInst.cells))] }) ?_ ?_
 ·refine ⟨_, LeS.kx [(8, 8)] [(0, .arr 8 0 us.length), (1, (.g (.int .i64 (k + cntS cntInst (us.take (0)))))), (5, (.g (.int .i64 (((0) : Nat)))))] [(8, .own 16 ((mkSR mkInst cntInst k us (0)).map DtInst.cells))] (by simp [KpR, renV2, renV, zbl, zbz, zbj, zbu, zjd, zcv]; try (first | rfl | (omega; done))) (by simp [KpOX, renO, plO, cvO, renV, pl1, zbj, zbu, zbl, zjd, zcv]; try (first | rfl | (rw [← zj1 mkInst cntInst k us i (by omega), List.map_set]; refine zhj ?_; simp only [DtInst.cells, DtId.cells, DtCmd.cells, mkInst]; repeat' (first | rfl | (omega; done) | congr 1)))) (by rfl) (by simp) (by simp) (by rfl) (by simp [formsX, List.range_succ, zbj, zbu]), _, 0, rfl, ?_, rfl⟩
  ·simp
 ·rintro mM sS ⟨i, rfl, hi, rfl⟩
  have hln : (mkSR mkInst cntInst k us i).length = us.length := zse _ _ _ _ _ hi
  refine zbo ?_
  refine AW_x rfl rfl fun K hK => ?_
  simp (disch := omega) [zbc, gE, tP, DtInst.cells, DtId.cells, DtCmd.cells, zb7, zbv]
  repeat' first | (refine ⟨by omega, ?_⟩) | (intro _)
  refine hK _ ?_; clear hK K
  refine zbr rfl (fun hc6 => ?_) (fun hc6 => ?_)
  ·try simp at hc6
   all_goals
    have hcl := zrf zl1 us i (by omega)
    have hcu : cntInst us[i] = 1 + 1 + 1 + 1 + 1 + 1 + 1 + 1 + 1 + 1 + 1 + 1 + (us[i].fCmd.fChunks.length : Nat) + 1 + cntS cntId us[i].fDeps + 1 := rfl
    have hcs := zhi cntInst us i (by omega)
    have hzn1 := zge zck us[i].fCmd.fChunks
    have hcn2 := zk3 zhk us[i].fDeps
    have hsE : DtInst.sz us[i] ≤ 1048576 := by have := zfc DtInst.sz_nonneg us us[i] (List.getElem_mem _); simp only [szS] at hs; omega
    simp only [DtInst.sz, DtCmd.sz] at hsE
    refine zbs ?_
    refine zbx ?_
    refine zbo ?_
    refine zbw ?_
    refine AW_x rfl rfl fun K hK => ?_
    simp (disch := omega) [zbc, gE, tP, DtInst.cells, DtId.cells, DtCmd.cells, zb7, zbv]
    repeat' first | (exfalso; omega) | (refine ⟨fun _ => ?_, fun _ => ?_⟩) | (refine ⟨by omega, ?_⟩) | (intro _)
    all_goals (refine hK _ ?_; clear hK K)
    all_goals
     refine AW_x rfl rfl fun K hK => ?_
     simp (disch := omega) [zbc, gE, tP, DtInst.cells, DtId.cells, DtCmd.cells, zb7, zbv]
     repeat' first | (refine ⟨by omega, ?_⟩) | (intro _)
     refine hK _ ?_; clear hK K
     refine AW_x rfl rfl fun K hK => ?_
     simp (disch := omega) [zbc, gE, tP, DtInst.cells, DtId.cells, DtCmd.cells, zb7, zbv]
     repeat' first | (refine ⟨by omega, ?_⟩) | (intro _)
     refine hK _ ?_; clear hK K
     refine AW_x rfl rfl fun K hK => ?_
     simp (disch := omega) [zbc, gE, tP, DtInst.cells, DtId.cells, DtCmd.cells, zb7, zbv]
     repeat' first | (refine ⟨by omega, ?_⟩) | (intro _)
     refine hK _ ?_; clear hK K
     refine AW_x rfl rfl fun K hK => ?_
     simp (disch := omega) [zbc, gE, tP, DtInst.cells, DtId.cells, DtCmd.cells, zb7, zbv]
     repeat' first | (refine ⟨by omega, ?_⟩) | (intro _)
     refine hK _ ?_; clear hK K
     refine AW_x rfl rfl fun K hK => ?_
     simp (disch := omega) [zbc, gE, tP, DtInst.cells, DtId.cells, DtCmd.cells, zb7, zbv]
     repeat' first | (refine ⟨by omega, ?_⟩) | (intro _)
     refine hK _ ?_; clear hK K
     refine AW_x rfl rfl fun K hK => ?_
     simp (disch := omega) [zbc, gE, tP, DtInst.cells, DtId.cells, DtCmd.cells, zb7, zbv]
     repeat' first | (refine ⟨by omega, ?_⟩) | (intro _)
     refine hK _ ?_; clear hK K
     refine AW_x rfl rfl fun K hK => ?_
     simp (disch := omega) [zbc, gE, tP, DtInst.cells, DtId.cells, DtCmd.cells, zb7, zbv]
     repeat' first | (refine ⟨by omega, ?_⟩) | (intro _)
     refine hK _ ?_; clear hK K
     refine AW_x rfl rfl fun K hK => ?_
     simp (disch := omega) [zbc, gE, tP, DtInst.cells, DtId.cells, DtCmd.cells, zb7, zbv]
     repeat' first | (refine ⟨by omega, ?_⟩) | (intro _)
     refine hK _ ?_; clear hK K
     refine AW_x rfl rfl fun K hK => ?_
     simp (disch := omega) [zbc, gE, tP, DtInst.cells, DtId.cells, DtCmd.cells, zb7, zbv]
     repeat' first | (refine ⟨by omega, ?_⟩) | (intro _)
     refine hK _ ?_; clear hK K
     refine AW_x rfl rfl fun K hK => ?_
     simp (disch := omega) [zbc, gE, tP, DtInst.cells, DtId.cells, DtCmd.cells, zb7, zbv]
     repeat' first | (refine ⟨by omega, ?_⟩) | (intro _)
     refine hK _ ?_; clear hK K
     refine AW_x rfl rfl fun K hK => ?_
     simp (disch := omega) [zbc, gE, tP, DtInst.cells, DtId.cells, DtCmd.cells, zb7, zbv]
     repeat' first | (refine ⟨by omega, ?_⟩) | (intro _)
     refine hK _ ?_; clear hK K
     refine AW_x rfl rfl fun K hK => ?_
     simp (disch := omega) [zbc, gE, tP, DtInst.cells, DtId.cells, DtCmd.cells, zb7, zbv]
     repeat' first | (refine ⟨by omega, ?_⟩) | (intro _)
     refine hK _ ?_; clear hK K
     refine AW_x rfl rfl fun K hK => ?_
     simp (disch := omega) [zbc, gE, tP, DtInst.cells, DtId.cells, DtCmd.cells, zb7, zbv]
     repeat' first | (refine ⟨by omega, ?_⟩) | (intro _)
     refine hK _ ?_; clear hK K
     refine AW_x rfl rfl fun K hK => ?_
     simp (disch := omega) [zbc, gE, tP, DtInst.cells, DtId.cells, DtCmd.cells, zb7, zbv]
     repeat' first | (refine ⟨by omega, ?_⟩) | (intro _)
     refine hK _ ?_; clear hK K
     refine AW_x rfl rfl fun K hK => ?_
     simp (disch := omega) [zbc, gE, tP, DtInst.cells, DtId.cells, DtCmd.cells, zb7, zbv]
     repeat' first | (refine ⟨by omega, ?_⟩) | (intro _)
     refine hK _ ?_; clear hK K
     refine AW_x rfl rfl fun K hK => ?_
     simp (disch := omega) [zbc, gE, tP, DtInst.cells, DtId.cells, DtCmd.cells, zb7, zbv]
     repeat' first | (exfalso; omega) | (refine zdu (zbg zcr zbn) (zfl _ (by omega)) rfl ?_; simp (disch := omega) [zbc, gE, tP, DtInst.cells, DtId.cells, DtCmd.cells, zb7, zbv]) | (refine zdv (zfl _ (by omega)) (by rfl) ?_ ?_; (focus (simp (disch := omega) [zbc, gE, tP, DtInst.cells, DtId.cells, DtCmd.cells, zb7, zbv, zbd]; done)); simp (disch := omega) [zbc, gE, tP, DtInst.cells, DtId.cells, DtCmd.cells, zb7, zbv]) | (refine ⟨by omega, ?_⟩) | (intro _)
     refine hK _ ?_; clear hK K
     refine AW_x rfl rfl fun K hK => ?_
     simp (disch := omega) [zbc, gE, tP, DtInst.cells, DtId.cells, DtCmd.cells, zb7, zbv]
     repeat' first | (refine ⟨by omega, ?_⟩) | (intro _)
     refine hK _ ?_; clear hK K
     refine AW_x rfl rfl fun K hK => ?_
     simp (disch := omega) [zbc, gE, tP, DtInst.cells, DtId.cells, DtCmd.cells, zb7, zbv]
     repeat' first | (exfalso; omega) | (refine zdu (zbg zcr zbn) (zfl _ (by omega)) rfl ?_; simp (disch := omega) [zbc, gE, tP, DtInst.cells, DtId.cells, DtCmd.cells, zb7, zbv]) | (refine zdv (zfl _ (by omega)) (by rfl) ?_ ?_; (focus (simp (disch := omega) [zbc, gE, tP, DtInst.cells, DtId.cells, DtCmd.cells, zb7, zbv, zbd]; done)); simp (disch := omega) [zbc, gE, tP, DtInst.cells, DtId.cells, DtCmd.cells, zb7, zbv]) | (refine ⟨by omega, ?_⟩) | (intro _)
     refine hK _ ?_; clear hK K
     refine AW_x rfl rfl fun K hK => ?_
     simp (disch := omega) [zbc, gE, tP, DtInst.cells, DtId.cells, DtCmd.cells, zb7, zbv]
     repeat' first | (refine ⟨by omega, ?_⟩) | (intro _)
     refine hK _ ?_; clear hK K
     refine AW_x rfl rfl fun K hK => ?_
     simp (disch := omega) [zbc, gE, tP, DtInst.cells, DtId.cells, DtCmd.cells, zb7, zbv]
     repeat' first | (exfalso; omega) | (refine zdu (zbg zcr zbn) (zfl _ (by omega)) rfl ?_; simp (disch := omega) [zbc, gE, tP, DtInst.cells, DtId.cells, DtCmd.cells, zb7, zbv]) | (refine zdv (zfl _ (by omega)) (by rfl) ?_ ?_; (focus (simp (disch := omega) [zbc, gE, tP, DtInst.cells, DtId.cells, DtCmd.cells, zb7, zbv, zbd]; done)); simp (disch := omega) [zbc, gE, tP, DtInst.cells, DtId.cells, DtCmd.cells, zb7, zbv]) | (refine ⟨by omega, ?_⟩) | (intro _)
     refine hK _ ?_; clear hK K
     refine AW_x rfl rfl fun K hK => ?_
     simp (disch := omega) [zbc, gE, tP, DtInst.cells, DtId.cells, DtCmd.cells, zb7, zbv]
     repeat' first | (refine ⟨by omega, ?_⟩) | (intro _)
     refine hK _ ?_; clear hK K
     refine AW_x rfl rfl fun K hK => ?_
     simp (disch := omega) [zbc, gE, tP, DtInst.cells, DtId.cells, DtCmd.cells, zb7, zbv]
     repeat' first | (refine ⟨by omega, ?_⟩) | (intro _)
     refine hK _ ?_; clear hK K
     refine AW_x rfl rfl fun K hK => ?_
     simp (disch := omega) [zbc, gE, tP, DtInst.cells, DtId.cells, DtCmd.cells, zb7, zbv]
     repeat' first | (refine ⟨by omega, ?_⟩) | (intro _)
     refine hK _ ?_; clear hK K
     refine AW_x rfl rfl fun K hK => ?_
     simp (disch := omega) [zbc, gE, tP, DtInst.cells, DtId.cells, DtCmd.cells, zb7, zbv]
     repeat' first | (exfalso; omega) | (refine XKd_n (n := 8) (i := i) (f0 := 12) (zre us[i].fCmd.fChunks _ (by omega) (by omega)) ?_ ?_ ?_ ?_ rfl ?_ rfl ?_ ?_; (focus (simp; done)); (focus rfl); (focus rfl); (focus (simp [zdw, zfq]; done)); (focus (simp; done)); (focus first | exact ⟨_, zbv _ _ _ _ (by omega), rfl⟩ | exact ⟨_, by rw [List.getElem?_map, zm3 _ _ _ _ _ (by omega)]; rfl, rfl⟩); simp (disch := omega) [zbc, gE, tP, DtInst.cells, DtId.cells, DtCmd.cells, zb7, zbv]) | (refine ⟨by omega, ?_⟩) | (intro _)
     refine hK _ ?_; clear hK K
     refine AW_x rfl rfl fun K hK => ?_
     simp (disch := omega) [zbc, gE, tP, DtInst.cells, DtId.cells, DtCmd.cells, zb7, zbv]
     repeat' first | (refine ⟨by omega, ?_⟩) | (intro _)
     refine hK _ ?_; clear hK K
     refine AW_x rfl rfl fun K hK => ?_
     simp (disch := omega) [zbc, gE, tP, DtInst.cells, DtId.cells, DtCmd.cells, zb7, zbv]
     repeat' first | (refine ⟨by omega, ?_⟩) | (intro _)
     refine hK _ ?_; clear hK K
     refine AW_x rfl rfl fun K hK => ?_
     simp (disch := omega) [zbc, gE, tP, DtInst.cells, DtId.cells, DtCmd.cells, zb7, zbv]
     repeat' first | (exfalso; omega) | (refine XKd_n (n := 8) (i := i) (f0 := 14) (zxd us[i].fDeps _ (by omega) (by omega)) ?_ ?_ ?_ ?_ rfl ?_ rfl ?_ ?_; (focus (simp; done)); (focus rfl); (focus rfl); (focus (simp [zdw, zfq]; done)); (focus (simp; done)); (focus first | exact ⟨_, zbv _ _ _ _ (by omega), rfl⟩ | exact ⟨_, by rw [List.getElem?_map, zm3 _ _ _ _ _ (by omega)]; rfl, rfl⟩); simp (disch := omega) [zbc, gE, tP, DtInst.cells, DtId.cells, DtCmd.cells, zb7, zbv]) | (refine ⟨by omega, ?_⟩) | (intro _)
     refine hK _ ?_; clear hK K
     refine AW_x rfl rfl fun K hK => ?_
     simp (disch := omega) [zbc, gE, tP, DtInst.cells, DtId.cells, DtCmd.cells, zb7, zbv]
     repeat' first | (refine ⟨by omega, ?_⟩) | (intro _)
     refine hK _ ?_; clear hK K
     refine zdt rfl rfl fun K hK => ?_
     simp (disch := omega) [zbc, gE, tP, DtInst.cells, DtId.cells, DtCmd.cells, zb7, zbv]
     repeat' first | (refine ⟨by omega, ?_⟩) | (intro _)
     refine hK _ ?_; clear hK K
     refine zbx ?_
     refine zdt rfl rfl fun K hK => ?_
     simp (disch := omega) [zbc, gE, tP, DtInst.cells, DtId.cells, DtCmd.cells, zb7, zbv]
     repeat' first | (refine ⟨by omega, ?_⟩) | (intro _)
     refine hK _ ?_; clear hK K
     refine ⟨_, LeS.kx [(8, 8)] [(0, .arr 8 0 us.length), (1, (.g (.int .i64 (k + cntS cntInst (us.take (i + 1)))))), (5, (.g (.int .i64 (((i + 1) : Nat)))))] [(8, .own 16 ((mkSR mkInst cntInst k us (i + 1)).map DtInst.cells))] (by simp [KpR, renV2, renV, zbl, zbz, zbj, zbu, zjd, zcv]; try (first | rfl | (omega; done))) (by simp [KpOX, renO, plO, cvO, renV, pl1, zbj, zbu, zbl, zjd, zcv]; try (first | rfl | (rw [← zj1 mkInst cntInst k us i (by omega), List.map_set]; refine zhj ?_; simp only [DtInst.cells, DtId.cells, DtCmd.cells, mkInst]; repeat' (first | rfl | (omega; done) | congr 1)))) (by rfl) (by simp) (by simp) (by rfl) (by simp [formsX, List.range_succ, zbj, zbu]), _, ?_, i + 1, rfl, ?_, rfl⟩
     ·omega
     ·omega
  try simp at hc6
  refine zce ?_
  refine zbx ?_
  refine AW_x rfl rfl fun K hK => ?_
  simp (disch := omega) [zbc, gE, tP, DtInst.cells, DtId.cells, DtCmd.cells, zb7, zbv]
  repeat' first | (exfalso; omega) | (refine ⟨fun _ => ?_, fun _ => ?_⟩) | (refine ⟨by omega, ?_⟩) | (intro _)
  all_goals (refine hK _ ?_; clear hK K)
  all_goals
   refine zbt (zdf [] [] (by simp [List.range_succ, zbj, zbu, zbl]) (by simp) ?_)
   simp (disch := omega) [zbc, gE, tP, DtInst.cells, DtId.cells, DtCmd.cells, zb7, zbv]
   all_goals ((have e : i = us.length := by omega); subst e; rw [mkSR_n _ _ _ _ _ (by omega), List.take_of_length_le (by omega)]; exact ⟨rfl, rfl⟩)
theorem toInstX (u : DtInst) (hs : DtInst.sz u ≤ 1048576) : XCall Try.prog 20 [.agg (DtInst.cells u)] [] (.agg [.g (.int .i64 u.fId.fRep), .g (.int .i64 u.fId.fSlot), .g (.int .i64 u.fBal), .g (.int .i64 u.fVBal), .g (.int .i64 u.fStatus), .g (.int .i64 u.fCmd.fKind), .g (.int .i64 u.fCmd.fClient), .g (.int .i64 u.fCmd.fNo), .s u.fCmd.fSet, .s u.fCmd.fName, .s u.fCmd.fTag, .g (.int .i64 u.fCmd.fN), .arr 16 0 u.fCmd.fChunks.length, .g (.int .i64 u.fSeq), .arr 17 0 u.fDeps.length, .g (.bool u.fSame)]) [] [.own 1 (u.fCmd.fChunks.map cS), .own 2 (u.fDeps.map DtId.cells)] := by
 simp only [DtInst.sz] at hs
 have hz1 := zge zck u.fCmd.fChunks
 have hz7 := DtCmd.sz_nonneg u.fCmd
 refine zcd Try.func20 (by rfl) (by rfl) (by rw [Try.ntmps20]; exact Nat.le_of_ble_eq_true rfl) rfl (by simp) rfl rfl ?_
 rw [Try.ntmps20]
 refine zh3   ?_
 refine AW_k [(0, _)] ⟨rfl, trivial⟩ ?_
 refine AW_x rfl rfl fun K hK => ?_
 simp (disch := omega) [zbc, gE, tP, DtInst.cells, DtId.cells, DtCmd.cells]
 repeat' first | (refine ⟨by omega, ?_⟩) | (intro _)
 refine hK _ ?_; clear hK K
 refine AW_x rfl rfl fun K hK => ?_
 simp (disch := omega) [zbc, gE, tP, DtInst.cells, DtId.cells, DtCmd.cells]
 repeat' first | (refine ⟨by omega, ?_⟩) | (intro _)
 refine hK _ ?_; clear hK K
 refine AW_x rfl rfl fun K hK => ?_
 simp (disch := omega) [zbc, gE, tP, DtInst.cells, DtId.cells, DtCmd.cells]
 repeat' first | (exfalso; omega) | (refine zdu (zbg (zb6 rfl) zbn) (toId _) rfl ?_; simp (disch := omega) [zbc, gE, tP, DtInst.cells, DtId.cells, DtCmd.cells]) | (refine zdv (toId _) (by rfl) ?_ ?_; (focus (simp (disch := omega) [zbc, gE, tP, DtInst.cells, DtId.cells, DtCmd.cells, zbd]; done)); simp (disch := omega) [zbc, gE, tP, DtInst.cells, DtId.cells, DtCmd.cells]) | (refine ⟨by omega, ?_⟩) | (intro _)
 refine hK _ ?_; clear hK K
 refine AW_x rfl rfl fun K hK => ?_
 simp (disch := omega) [zbc, gE, tP, DtInst.cells, DtId.cells, DtCmd.cells]
 repeat' first | (refine ⟨by omega, ?_⟩) | (intro _)
 refine hK _ ?_; clear hK K
 refine AW_x rfl rfl fun K hK => ?_
 simp (disch := omega) [zbc, gE, tP, DtInst.cells, DtId.cells, DtCmd.cells]
 repeat' first | (refine ⟨by omega, ?_⟩) | (intro _)
 refine hK _ ?_; clear hK K
 refine AW_x rfl rfl fun K hK => ?_
 simp (disch := omega) [zbc, gE, tP, DtInst.cells, DtId.cells, DtCmd.cells]
 repeat' first | (refine ⟨by omega, ?_⟩) | (intro _)
 refine hK _ ?_; clear hK K
 refine AW_x rfl rfl fun K hK => ?_
 simp (disch := omega) [zbc, gE, tP, DtInst.cells, DtId.cells, DtCmd.cells]
 repeat' first | (exfalso; omega) | (refine zgs [] true [] (toCmdX u.fCmd (by omega)) ?_ ?_ ?_; (focus (simp [List.range_succ, nmC]; done)); (focus (simp (disch := omega) [zbc, gE, tP, DtInst.cells, DtId.cells, DtCmd.cells, zbd]; done)); simp (disch := omega) [zbc, gE, tP, DtInst.cells, DtId.cells, DtCmd.cells]) | (refine ⟨by omega, ?_⟩) | (intro _)
 refine hK _ ?_; clear hK K
 refine AW_x rfl rfl fun K hK => ?_
 simp (disch := omega) [zbc, gE, tP, DtInst.cells, DtId.cells, DtCmd.cells]
 repeat' first | (refine ⟨by omega, ?_⟩) | (intro _)
 refine hK _ ?_; clear hK K
 refine AW_x rfl rfl fun K hK => ?_
 simp (disch := omega) [zbc, gE, tP, DtInst.cells, DtId.cells, DtCmd.cells]
 repeat' first | (exfalso; omega) | (refine zgs [] true [] (toIdSX u.fDeps (by omega)) ?_ ?_ ?_; (focus (simp [List.range_succ, nmC]; done)); (focus (simp (disch := omega) [zbc, gE, tP, DtInst.cells, DtId.cells, DtCmd.cells, zbd]; done)); simp (disch := omega) [zbc, gE, tP, DtInst.cells, DtId.cells, DtCmd.cells]) | (refine ⟨by omega, ?_⟩) | (intro _)
 refine hK _ ?_; clear hK K
 refine AW_x rfl rfl fun K hK => ?_
 simp (disch := omega) [zbc, gE, tP, DtInst.cells, DtId.cells, DtCmd.cells]
 repeat' first | (refine ⟨by omega, ?_⟩) | (intro _)
 refine hK _ ?_; clear hK K
 refine AW_x rfl rfl fun K hK => ?_
 simp (disch := omega) [zbc, gE, tP, DtInst.cells, DtId.cells, DtCmd.cells]
 repeat' first | (refine ⟨by omega, ?_⟩) | (intro _)
 refine hK _ ?_; clear hK K
 refine zbt (zdf [320, 432] [] (by simp [List.range_succ, zbj, zbu, zbl]) (by simp) ?_)
 simp (disch := omega) [zbc, gE, tP, DtInst.cells, DtId.cells, DtCmd.cells]
 all_goals skip
theorem zj2 (us : List DtInst) (hs : szS DtInst.sz us ≤ 1048576) : XCall Try.prog 7 [.sl 16 (us.map DtInst.cells)] [] (.arr 16 0 us.length) [] [.own 16 (us.map DtInst.cells)] := by
 have hL : us.length ≤ 1048576 := by have := zge DtInst.sz_nonneg us; omega
 refine zcd Try.func7 (by rfl) (by rfl) (by rw [Try.ntmps7]; exact Nat.le_of_ble_eq_true rfl) rfl (by simp) rfl rfl ?_
 rw [Try.ntmps7]
 refine zh3   ?_
 refine AW_k [(0, _)] ⟨rfl, trivial⟩ ?_
 refine AW_x rfl rfl fun K hK => ?_
 simp (disch := omega) [zbc, gE, tP, DtInst.cells, DtId.cells, DtCmd.cells, zc8, zbv, List.range_succ]
 repeat' first | (refine ⟨by omega, ?_⟩) | (intro _)
 refine hK _ ?_; clear hK K
 refine AW_x rfl rfl fun K hK => ?_
 simp (disch := omega) [zbc, gE, tP, DtInst.cells, DtId.cells, DtCmd.cells, zc8, zbv, List.range_succ]
 repeat' first | (refine ⟨by omega, ?_⟩) | (intro _)
 refine hK _ ?_; clear hK K
 refine zbo ?_
 refine AW_x rfl rfl fun K hK => ?_
 simp (disch := omega) [zbc, gE, tP, DtInst.cells, DtId.cells, DtCmd.cells, zc8, zbv, List.range_succ]
 repeat' first | (refine ⟨by omega, ?_⟩) | (intro _)
 refine hK _ ?_; clear hK K
 refine zbw ?_
 refine zcb (fun mM sS => ∃ (i : Nat), mM = us.length - i ∧ (i ≤ us.length) ∧ sS = { env := lkE [(0, .sl 16 (us.map DtInst.cells)), (3, .arr 128 0 us.length), (4, (.g (.int .i64 ((i : Nat)))))], ob := lk [(128, .own 16 (cpS [.g (.int .i64 0), .g (.int .i64 0), .g (.int .i64 0), .g (.int .i64 0), .g (.int .i64 0), .g (.int .i64 0), .g (.int .i64 0), .g (.int .i64 0), .s [], .s [], .s [], .g (.int .i64 0), .g (.slice none 0 0), .g (.int .i64 0), .g (.slice none 0 0), .g (.bool false)] DtInst.cells us i))] }) ?_ ?_
 ·refine ⟨_, LeS.kx [(128, 128)] [(0, .sl 16 (us.map DtInst.cells)), (3, .arr 128 0 us.length), (4, (.g (.int .i64 (((0) : Nat)))))] [(128, .own 16 (cpS [.g (.int .i64 0), .g (.int .i64 0), .g (.int .i64 0), .g (.int .i64 0), .g (.int .i64 0), .g (.int .i64 0), .g (.int .i64 0), .g (.int .i64 0), .s [], .s [], .s [], .g (.int .i64 0), .g (.slice none 0 0), .g (.int .i64 0), .g (.slice none 0 0), .g (.bool false)] DtInst.cells us (0)))] (by simp [KpR, renV2, renV, zbl, zbz, zbj, zbu, zpp, zgd]; try (first | rfl | (omega; done))) (by simp [KpOX, renO, plO, cvO, renV, pl1, zbj, zbu, zbl, zpp, zgd]; try (first | rfl | (rw [← zm4 _ _ _ i (by omega)]; simp [DtInst.cells, DtId.cells, DtCmd.cells]; done))) (by rfl) (by simp) (by simp) (by rfl) (by simp [formsX, List.range_succ, zbj, zbu]), _, 0, rfl, ?_, rfl⟩
  ·simp
 ·rintro mM sS ⟨i, rfl, hi, rfl⟩
  have hln : (cpS [.g (.int .i64 0), .g (.int .i64 0), .g (.int .i64 0), .g (.int .i64 0), .g (.int .i64 0), .g (.int .i64 0), .g (.int .i64 0), .g (.int .i64 0), .s [], .s [], .s [], .g (.int .i64 0), .g (.slice none 0 0), .g (.int .i64 0), .g (.slice none 0 0), .g (.bool false)] DtInst.cells us i).length = us.length := zxb _ _ _ _ hi
  refine zbo ?_
  refine AW_x rfl rfl fun K hK => ?_
  simp (disch := omega) [zbc, gE, tP, DtInst.cells, DtId.cells, DtCmd.cells, zc8, zbv, List.range_succ]
  repeat' first | (refine ⟨by omega, ?_⟩) | (intro _)
  refine hK _ ?_; clear hK K
  refine zbr rfl (fun hc7 => ?_) (fun hc7 => ?_)
  ·try simp at hc7
   all_goals
    have hsE : DtInst.sz us[i] ≤ 1048576 := by have := zfc DtInst.sz_nonneg us us[i] (List.getElem_mem _); simp only [szS] at hs; omega
    refine zbs ?_
    refine zbx ?_
    refine zbo ?_
    refine zbw ?_
    refine zdt rfl rfl fun K hK => ?_
    simp (disch := omega) [zbc, gE, tP, DtInst.cells, DtId.cells, DtCmd.cells, zc8, zbv, List.range_succ]
    repeat' first | (exfalso; omega) | (refine zgs [] true [] (toInstX us[i] (by omega)) ?_ ?_ ?_; (focus (simp [List.range_succ, nmC]; done)); (focus (simp (disch := omega) [zbc, gE, tP, DtInst.cells, DtId.cells, DtCmd.cells, zc8, zbv, List.range_succ, zbd]; done)); simp (disch := omega) [zbc, gE, tP, DtInst.cells, DtId.cells, DtCmd.cells, zc8, zbv, List.range_succ]) | (refine ⟨fun _ => ?_, fun _ => ?_⟩) | (refine ⟨by omega, ?_⟩) | (intro _)
    all_goals (refine hK _ ?_; clear hK K)
    all_goals
     refine zbx ?_
     refine zdt rfl rfl fun K hK => ?_
     simp (disch := omega) [zbc, gE, tP, DtInst.cells, DtId.cells, DtCmd.cells, zc8, zbv, List.range_succ]
     repeat' first | (refine ⟨by omega, ?_⟩) | (intro _)
     refine hK _ ?_; clear hK K
     refine ⟨_, LeS.kx [(128, 128)] [(0, .sl 16 (us.map DtInst.cells)), (3, .arr 128 0 us.length), (4, (.g (.int .i64 (((i + 1) : Nat)))))] [(128, .own 16 (cpS [.g (.int .i64 0), .g (.int .i64 0), .g (.int .i64 0), .g (.int .i64 0), .g (.int .i64 0), .g (.int .i64 0), .g (.int .i64 0), .g (.int .i64 0), .s [], .s [], .s [], .g (.int .i64 0), .g (.slice none 0 0), .g (.int .i64 0), .g (.slice none 0 0), .g (.bool false)] DtInst.cells us (i + 1)))] (by simp [KpR, renV2, renV, zbl, zbz, zbj, zbu, zpp, zgd]; try (first | rfl | (omega; done))) (by simp [KpOX, renO, plO, cvO, renV, pl1, zbj, zbu, zbl, zpp, zgd]; try (first | rfl | (rw [← zm4 _ _ _ i (by omega)]; simp [DtInst.cells, DtId.cells, DtCmd.cells]; done))) (by rfl) (by simp) (by simp) (by rfl) (by simp [formsX, List.range_succ, zbj, zbu]), _, ?_, i + 1, rfl, ?_, rfl⟩
     ·omega
     ·omega
  try simp at hc7
  refine zce ?_
  refine zbx ?_
  refine AW_x rfl rfl fun K hK => ?_
  simp (disch := omega) [zbc, gE, tP, DtInst.cells, DtId.cells, DtCmd.cells, zc8, zbv, List.range_succ]
  repeat' first | (exfalso; omega) | (refine ⟨fun _ => ?_, fun _ => ?_⟩) | (refine ⟨by omega, ?_⟩) | (intro _)
  all_goals (refine hK _ ?_; clear hK K)
  all_goals
   refine zbt (zdf [128] [] (by simp [List.range_succ, zbj, zbu, zbl]) (by simp) ?_)
   simp (disch := omega) [zbc, gE, tP, DtInst.cells, DtId.cells, DtCmd.cells, zc8, zbv, List.range_succ]
   all_goals (rw [cpS_n _ _ _ _ (by omega)])
end Go.Proofs.Ytfbmhgiokfpgiaa.Vs
