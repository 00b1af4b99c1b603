import Derived.Test.YtfbmhgiokfpgiaaSG1
open Go Go.Proofs Go.Proofs.Ytfbmhgiokfpgiaa.Vs
namespace Go.Proofs.Ytfbmhgiokfpgiaa.Vs
set_option linter.all false
set_option linter.unusedSimpArgs false
set_option linter.unusedVariables false
set_option maxRecDepth 100000
theorem zz0 (l : List (List UInt8)) (hn : l.length ≤ 1048576) : PCall Try.prog 99 [.sl 1 (l.map cS)] (.sl 1 (l.map cS)) := by
 refine zbu Try.func99 (by rfl) (by rfl) (by rw [Try.ntmps99]; exact Nat.le_of_ble_eq_true rfl) rfl (by decide) ?_
 rw [Try.ntmps99]
 refine AW_k [(0, _)] ⟨rfl, trivial⟩ ?_
 refine AW_r rfl rfl fun K hK => ?_
 simp (disch := omega) [zbd, gE, tP, aNews, aAppend, tkm, cS]
 repeat' first | (refine ⟨by omega, ?_⟩) | (intro _)
 refine hK _ ?_; clear hK K
 refine AW_r rfl rfl fun K hK => ?_
 simp (disch := omega) [zbd, gE, tP, aNews, aAppend, tkm, cS]
 repeat' first | (refine ⟨by omega, ?_⟩) | (intro _)
 refine hK _ ?_; clear hK K
 refine zbz (zcb ?_)
 simp (disch := omega) [zbd, gE, tP, aNews, aAppend, tkm, cS]
 all_goals simp [tkm]
theorem copyIds (l : List DtId) (hn : l.length ≤ 1048576) : PCall Try.prog 83 [.sl 2 (l.map DtId.cells)] (.sl 2 (l.map DtId.cells)) := by
 refine zbu Try.func83 (by rfl) (by rfl) (by rw [Try.ntmps83]; exact Nat.le_of_ble_eq_true rfl) rfl (by decide) ?_
 rw [Try.ntmps83]
 refine AW_k [(0, _)] ⟨rfl, trivial⟩ ?_
 refine AW_r rfl rfl fun K hK => ?_
 simp (disch := omega) [zbd, gE, tP, aNews, aAppend, tkm, cS]
 repeat' first | (refine ⟨by omega, ?_⟩) | (intro _)
 refine hK _ ?_; clear hK K
 refine AW_r rfl rfl fun K hK => ?_
 simp (disch := omega) [zbd, gE, tP, aNews, aAppend, tkm, cS]
 repeat' first | (refine ⟨by omega, ?_⟩) | (intro _)
 refine hK _ ?_; clear hK K
 refine zbz (zcb ?_)
 simp (disch := omega) [zbd, gE, tP, aNews, aAppend, tkm, cS]
 all_goals simp [tkm]
theorem copyCmd (c : DtCmd) (hn : c.fChunks.length ≤ 1048576) : PCall Try.prog 82 [.agg (DtCmd.cells c)] (.agg (DtCmd.cells c)) := by
 refine zbu Try.func82 (by rfl) (by rfl) (by rw [Try.ntmps82]; exact Nat.le_of_ble_eq_true rfl) rfl (by decide) ?_
 rw [Try.ntmps82]
 refine AW_k [(0, _)] ⟨rfl, trivial⟩ ?_
 refine AW_r rfl rfl fun K hK => ?_
 simp (disch := omega) [zbd, gE, tP, DtCmd.cells]
 repeat' first | (refine ⟨by omega, ?_⟩) | (intro _)
 refine hK _ ?_; clear hK K
 refine AW_r rfl rfl fun K hK => ?_
 simp (disch := omega) [zbd, gE, tP, DtCmd.cells]
 repeat' first | (exfalso; omega) | (refine zck (zbg zca zbr) (zz0 _ (by assumption)) rfl ?_; simp (disch := omega) [zbd, gE, tP, DtCmd.cells]) | (refine ⟨by omega, ?_⟩) | (intro _)
 refine hK _ ?_; clear hK K
 refine AW_r rfl rfl fun K hK => ?_
 simp (disch := omega) [zbd, gE, tP, DtCmd.cells]
 repeat' first | (refine ⟨by omega, ?_⟩) | (intro _)
 refine hK _ ?_; clear hK K
 refine zbz (zcb ?_)
 simp (disch := omega) [zbd, gE, tP, DtCmd.cells]
 all_goals simp [tkm]
theorem zt5 (x : DtInst) (hn : x.fCmd.fChunks.length ≤ 1048576) (hd : x.fDeps.length ≤ 1048576) : PCall Try.prog 62 [.agg (DtInst.cells x)] (.agg (DtInst.cells x)) := by
 refine zbu Try.func62 (by rfl) (by rfl) (by rw [Try.ntmps62]; exact Nat.le_of_ble_eq_true rfl) rfl (by decide) ?_
 rw [Try.ntmps62]
 refine AW_k [(0, _)] ⟨rfl, trivial⟩ ?_
 refine AW_r rfl rfl fun K hK => ?_
 simp (disch := omega) [zbd, gE, tP, DtCmd.cells, DtInst.cells]
 repeat' first | (refine ⟨by omega, ?_⟩) | (intro _)
 refine hK _ ?_; clear hK K
 refine AW_r rfl rfl fun K hK => ?_
 simp (disch := omega) [zbd, gE, tP, DtCmd.cells, DtInst.cells]
 repeat' first | (exfalso; omega) | (refine zck (zbg (zb6 rfl) zbr) (copyCmd _ (by assumption)) rfl ?_; simp (disch := omega) [zbd, gE, tP, DtCmd.cells, DtInst.cells]) | (refine ⟨by omega, ?_⟩) | (intro _)
 refine hK _ ?_; clear hK K
 refine AW_r rfl rfl fun K hK => ?_
 simp (disch := omega) [zbd, gE, tP, DtCmd.cells, DtInst.cells]
 repeat' first | (exfalso; omega) | (refine zck (zbg zca zbr) (copyIds _ (by assumption)) rfl ?_; simp (disch := omega) [zbd, gE, tP, DtCmd.cells, DtInst.cells]) | (refine ⟨by omega, ?_⟩) | (intro _)
 refine hK _ ?_; clear hK K
 refine AW_r rfl rfl fun K hK => ?_
 simp (disch := omega) [zbd, gE, tP, DtCmd.cells, DtInst.cells]
 repeat' first | (refine ⟨by omega, ?_⟩) | (intro _)
 refine hK _ ?_; clear hK K
 refine zbz (zcb ?_)
 simp (disch := omega) [zbd, gE, tP, DtCmd.cells, DtInst.cells]
 all_goals simp [tkm]
theorem inst1 (p : DtInst) (id : DtId) : GCall Try.prog 81 [.agg (DtInst.cells p), .ptr 0 0] [DtId.cells id] [] (.g (.bool (eqB p.fId id))) [] := by
 refine zbu Try.func81 (by rfl) (by rfl) (by rw [Try.ntmps81]; exact Nat.le_of_ble_eq_true rfl) rfl (by decide) ?_
 rw [Try.ntmps81]
 refine AW_k [(0, _), (1, _)] ⟨rfl, rfl, trivial⟩ ?_
 refine AW_r rfl rfl fun K hK => ?_
 simp [DtInst.cells, DtId.cells, DtCmd.cells, zby]
 repeat' first | (refine ⟨by omega, ?_⟩) | (intro _)
 refine hK _ ?_; clear hK K
 refine AW_r rfl rfl fun K hK => ?_
 simp [DtInst.cells, DtId.cells, DtCmd.cells, zby]
 repeat' first | (refine ⟨by omega, ?_⟩) | (intro _)
 refine hK _ ?_; clear hK K
 refine zbz (zcb ?_)
 simp [DtInst.cells, DtId.cells, DtCmd.cells, zby]
 all_goals (rw [Bool.eq_iff_iff, zbf, zft]; simp)
theorem zpc {F : FuncId} {id : DtId} {p : DtInst → Bool} (xs : List DtInst) (hn : xs.length ≤ 1048576) (hf : ∀ x, GCall Try.prog F [.agg (DtInst.cells x), .ptr 0 0] [DtId.cells id] [] (.g (.bool (p x))) []) : GCall Try.prog 80 [.sl 16 (xs.map DtInst.cells), .fn F [] [.ptr 0 0]] [DtId.cells id] [] (.g (.int .i64 (idxZ p xs))) [] := by
 refine zbu Try.func80 (by rfl) (by rfl) (by rw [Try.ntmps80]; exact Nat.le_of_ble_eq_true rfl) rfl (by decide) ?_
 rw [Try.ntmps80]
 refine AW_k [(0, _), (1, _)] ⟨rfl, rfl, trivial⟩ ?_
 refine AW_r rfl rfl fun K hK => ?_
 simp (disch := omega) [zbd, gE, tP, DtInst.cells, DtId.cells, DtCmd.cells]
 repeat' first | (refine zh2 0 (.inr rfl) (zc7 (DtId.cells id) rfl) (zbg (zb6 rfl) (zbg zfz zbr)) (hf _) rfl ?_; try simp (disch := omega) [zbd, gE, tP, DtInst.cells, DtId.cells, DtCmd.cells]) | (refine ⟨by omega, ?_⟩) | (intro _)
 refine hK _ ?_; clear hK K
 refine zbt ?_
 refine AW_r rfl rfl fun K hK => ?_
 simp (disch := omega) [zbd, gE, tP, DtInst.cells, DtId.cells, DtCmd.cells]
 repeat' first | (refine zh2 0 (.inr rfl) (zc7 (DtId.cells id) rfl) (zbg (zb6 rfl) (zbg zfz zbr)) (hf _) rfl ?_; try simp (disch := omega) [zbd, gE, tP, DtInst.cells, DtId.cells, DtCmd.cells]) | (refine ⟨by omega, ?_⟩) | (intro _)
 refine hK _ ?_; clear hK K
 refine zb0 ?_
 refine zcc (fun mM sS => ∃ (i : Nat), mM = xs.length - i ∧ (i ≤ xs.length ∧ ∀ j x, j < i → xs[j]? = some x → p x = false) ∧ sS = { env := lkE [(0, .sl 16 (xs.map DtInst.cells)), (1, .fn F [] [.ptr 0 0]), (6, .sl 16 (xs.map DtInst.cells)), (7, (.g (.int .i64 ((xs.length : Nat))))), (8, (.g (.int .i64 ((i : Nat)))))], ob := formOb [DtId.cells id] [] }) ?_ ?_
 ·refine ⟨_, LeS.kp [(0, .sl 16 (xs.map DtInst.cells)), (1, .fn F [] [.ptr 0 0]), (6, .sl 16 (xs.map DtInst.cells)), (7, (.g (.int .i64 ((xs.length : Nat))))), (8, (.g (.int .i64 (((0) : Nat)))))] (by simp [KpE, zbn, zb4, zbk]; try rfl), _, 0, rfl, ?_, rfl⟩
  ·simp
 ·rintro mM sS ⟨i, rfl, ⟨hi, hpre⟩, rfl⟩
  refine AW_r rfl rfl fun K hK => ?_
  simp (disch := omega) [zbd, gE, tP, DtInst.cells, DtId.cells, DtCmd.cells]
  repeat' first | (refine zh2 0 (.inr rfl) (zc7 (DtId.cells id) rfl) (zbg (zb6 rfl) (zbg zfz zbr)) (hf _) rfl ?_; try simp (disch := omega) [zbd, gE, tP, DtInst.cells, DtId.cells, DtCmd.cells]) | (refine ⟨by omega, ?_⟩) | (intro _)
  refine hK _ ?_; clear hK K
  refine zbt ?_
  refine zbv rfl (fun hc1 => ?_) (fun hc1 => ?_)
  ·try simp [zbb, zba, zbf, zbe, zbp, zbq] at hc1
   all_goals
    have hg : xs[i]? = some (xs[i]) := List.getElem?_eq_getElem (by omega)
    refine zbw ?_
    refine zb3 ?_
    refine zbt ?_
    refine zb0 ?_
    refine AW_r rfl rfl fun K hK => ?_
    simp (disch := omega) [zbd, gE, tP, DtInst.cells, DtId.cells, DtCmd.cells]
    repeat' first | (exfalso; omega) | (refine zh2 0 (.inr rfl) (zc7 (DtId.cells id) rfl) (zbg (zb6 rfl) (zbg zfz zbr)) (hf _) rfl ?_; try simp (disch := omega) [zbd, gE, tP, DtInst.cells, DtId.cells, DtCmd.cells]) | (refine ⟨fun _ => ?_, fun _ => ?_⟩) | (refine ⟨by omega, ?_⟩) | (intro _)
    all_goals (refine hK _ ?_; clear hK K)
    all_goals
     refine AW_r rfl rfl fun K hK => ?_
     simp (disch := omega) [zbd, gE, tP, DtInst.cells, DtId.cells, DtCmd.cells]
     repeat' first | (refine zh2 0 (.inr rfl) (zc7 (DtId.cells id) rfl) (zbg (zb6 rfl) (zbg zfz zbr)) (hf _) rfl ?_; try simp (disch := omega) [zbd, gE, tP, DtInst.cells, DtId.cells, DtCmd.cells]) | (refine ⟨by omega, ?_⟩) | (intro _)
     refine hK _ ?_; clear hK K
     refine zbv rfl (fun hc2 => ?_) (fun hc2 => ?_)
     ·try simp [zbb, zba, zbf, zbe, zbp, zbq] at hc2
      all_goals
       refine AW_r rfl rfl fun K hK => ?_
       simp (disch := omega) [zbd, gE, tP, DtInst.cells, DtId.cells, DtCmd.cells]
       repeat' first | (exfalso; omega) | (refine zh2 0 (.inr rfl) (zc7 (DtId.cells id) rfl) (zbg (zb6 rfl) (zbg zfz zbr)) (hf _) rfl ?_; try simp (disch := omega) [zbd, gE, tP, DtInst.cells, DtId.cells, DtCmd.cells]) | (refine ⟨fun _ => ?_, fun _ => ?_⟩) | (refine ⟨by omega, ?_⟩) | (intro _)
       all_goals (refine hK _ ?_; clear hK K)
       all_goals
        refine zbz (zcb ?_)
        simp (disch := omega) [zbd, gE, tP, DtInst.cells, DtId.cells, DtCmd.cells]
        all_goals first | (exact zdb (by assumption) (by assumption) hpre) | (exact zdl (fun j x h => hpre j x (by omega)))
     ·try simp [zbb, zba, zbf, zbe, zbp, zbq] at hc2
      all_goals
       refine zbw ?_
       refine zb3 ?_
       refine zdf rfl rfl fun K hK => ?_
       simp (disch := omega) [zbd, gE, tP, DtInst.cells, DtId.cells, DtCmd.cells]
       repeat' first | (exfalso; omega) | (refine zh2 0 (.inr rfl) (zc7 (DtId.cells id) rfl) (zbg (zb6 rfl) (zbg zfz zbr)) (hf _) rfl ?_; try simp (disch := omega) [zbd, gE, tP, DtInst.cells, DtId.cells, DtCmd.cells]) | (refine ⟨fun _ => ?_, fun _ => ?_⟩) | (refine ⟨by omega, ?_⟩) | (intro _)
       all_goals (refine hK _ ?_; clear hK K)
       all_goals
        refine ⟨_, LeS.kp [(0, .sl 16 (xs.map DtInst.cells)), (1, .fn F [] [.ptr 0 0]), (6, .sl 16 (xs.map DtInst.cells)), (7, (.g (.int .i64 ((xs.length : Nat))))), (8, (.g (.int .i64 (((i + 1) : Nat)))))] (by simp [KpE, zbn, zb4, zbk]; try rfl), _, ?_, i + 1, rfl, ?_, rfl⟩
        ·omega
        ·refine ⟨by omega, ?_⟩; grind
  ·try simp [zbb, zba, zbf, zbe, zbp, zbq] at hc1
   all_goals
    refine zce ?_
    refine zb3 ?_
    refine AW_r rfl rfl fun K hK => ?_
    simp (disch := omega) [zbd, gE, tP, DtInst.cells, DtId.cells, DtCmd.cells]
    repeat' first | (exfalso; omega) | (refine zh2 0 (.inr rfl) (zc7 (DtId.cells id) rfl) (zbg (zb6 rfl) (zbg zfz zbr)) (hf _) rfl ?_; try simp (disch := omega) [zbd, gE, tP, DtInst.cells, DtId.cells, DtCmd.cells]) | (refine ⟨fun _ => ?_, fun _ => ?_⟩) | (refine ⟨by omega, ?_⟩) | (intro _)
    all_goals (refine hK _ ?_; clear hK K)
    all_goals
     refine zbz (zcb ?_)
     simp (disch := omega) [zbd, gE, tP, DtInst.cells, DtId.cells, DtCmd.cells]
     all_goals first | (exact zdb (by assumption) (by assumption) hpre) | (exact zdl (fun j x h => hpre j x (by omega)))
noncomputable def iAt (l : List DtInst) (id : DtId) : Int := idxZ (fun x => eqB x.fId id) l
theorem zm2 (l : List DtInst) (id : DtId) (hn : l.length ≤ 1048576) : PCall Try.prog 61 [.sl 16 (l.map DtInst.cells), .agg (DtId.cells id)] (.g (.int .i64 (iAt l id))) := by
 refine zbu Try.func61 (by rfl) (by rfl) (by rw [Try.ntmps61]; exact Nat.le_of_ble_eq_true rfl) rfl (by decide) ?_
 rw [Try.ntmps61]
 refine AW_k [(0, _), (1, _)] ⟨rfl, rfl, trivial⟩ ?_
 refine AW_r rfl rfl fun K hK => ?_
 simp [DtInst.cells, DtId.cells, DtCmd.cells]
 repeat' first | (refine ⟨by omega, ?_⟩) | (intro _)
 refine hK _ ?_; clear hK K
 refine AW_r rfl rfl fun K hK => ?_
 simp [DtInst.cells, DtId.cells, DtCmd.cells]
 repeat' first | (refine zh2 64 (.inl rfl) (zc7 (DtId.cells id) rfl) (zbg zca (zbg am2_fn0 zbr)) (zpc _ hn (fun x => inst1 x id)) rfl ?_; simp [DtInst.cells, DtId.cells, DtCmd.cells]) | (refine ⟨by omega, ?_⟩) | (intro _)
 refine hK _ ?_; clear hK K
 refine zbz (zcb ?_)
 simp [DtInst.cells, DtId.cells, DtCmd.cells, iAt]
 all_goals first | omega | (simp_all; done) | (simp [List.take_of_length_le]; done) | ((try simp_all); (try simp (disch := omega) only [zbd, Int.tdiv_eq_ediv_of_nonneg, Int.tmod_eq_emod_of_nonneg, and_true, true_and]); done) | ((try simp_all); (try simp (disch := omega) only [zbd, Int.tdiv_eq_ediv_of_nonneg, Int.tmod_eq_emod_of_nonneg, and_true, true_and] at *); omega)
theorem zt6 (l : List DtInst) (id : DtId) : (∃ i, ∃ h : i < l.length, iAt l id = i ∧ instAt l id = l[i]) ∨ (iAt l id = -1 ∧ instAt l id = zeroInst id) := by
 unfold iAt idxZ instAt
 cases h : l.findIdx? (fun x => eqB x.fId id) with
 | none =>
  refine .inr ⟨rfl, ?_⟩
  rw [List.findIdx?_eq_none_iff] at h
  have : l.find? (fun x => eqB x.fId id) = none := List.find?_eq_none.2 fun x hx => by simp [h x hx]
  rw [this]; rfl
 | some i =>
  obtain ⟨h1, h2, h3⟩ := List.findIdx?_eq_some_iff_getElem.1 h
  refine .inl ⟨i, h1, rfl, ?_⟩
  have : l.find? (fun x => eqB x.fId id) = some l[i] := by
   rw [List.find?_eq_some_iff_getElem]
   exact ⟨h2, i, h1, rfl, fun j hj => by simpa using h3 j hj⟩
  rw [this]; rfl
theorem zfj (l : List DtInst) (id : DtId) (hn : l.length ≤ 1048576) (hm : ∀ x ∈ l, InstSm x) : PCall Try.prog 42 [.sl 16 (l.map DtInst.cells), .agg (DtId.cells id)] (.agg (DtInst.cells (instAt l id))) := by
 rcases zt6 l id with ⟨i, hi, h1, h2⟩ | ⟨h1, h2⟩
 ·have hx := hm _ (List.getElem_mem hi)
  have hx1 := hx.1
  have hx2 := hx.2.1
  refine zbu Try.func42 (by rfl) (by rfl) (by rw [Try.ntmps42]; exact Nat.le_of_ble_eq_true rfl) rfl (by decide) ?_
  rw [Try.ntmps42]
  refine AW_k [(0, _), (1, _)] ⟨rfl, rfl, trivial⟩ ?_
  refine AW_r rfl rfl fun K hK => ?_
  simp (disch := omega) [zbd, gE, tP, DtInst.cells, DtCmd.cells, DtId.cells, h1, h2]
  repeat' first | (refine ⟨by omega, ?_⟩) | (intro _)
  refine hK _ ?_; clear hK K
  refine zbt ?_
  refine AW_r rfl rfl fun K hK => ?_
  simp (disch := omega) [zbd, gE, tP, DtInst.cells, DtCmd.cells, DtId.cells, h1, h2]
  repeat' first | (exfalso; omega) | (refine zck (zbg zca (zbg (zb6 rfl) zbr)) (zm2 _ _ (by assumption)) rfl ?_; simp (disch := omega) [zbd, gE, tP, DtInst.cells, DtCmd.cells, DtId.cells, h1, h2]) | (refine ⟨by omega, ?_⟩) | (intro _)
  refine hK _ ?_; clear hK K
  refine AW_r rfl rfl fun K hK => ?_
  simp (disch := omega) [zbd, gE, tP, DtInst.cells, DtCmd.cells, DtId.cells, h1, h2]
  repeat' first | (refine ⟨by omega, ?_⟩) | (intro _)
  refine hK _ ?_; clear hK K
  refine zbv rfl (fun hc3 => ?_) (fun hc3 => ?_)
  ·try simp [zbb, zba, zbf, zbe, zbp, zbq] at hc3
   all_goals
    refine AW_r rfl rfl fun K hK => ?_
    simp (disch := omega) [zbd, gE, tP, DtInst.cells, DtCmd.cells, DtId.cells, h1, h2]
    repeat' first | (exfalso; omega) | (refine zck (zbg (zb6 rfl) zbr) (zt5 _ (by assumption) (by assumption)) rfl ?_; simp (disch := omega) [zbd, gE, tP, DtInst.cells, DtCmd.cells, DtId.cells, h1, h2]) | (refine ⟨fun _ => ?_, fun _ => ?_⟩) | (refine ⟨by omega, ?_⟩) | (intro _)
    all_goals (refine hK _ ?_; clear hK K)
    all_goals
     refine zbz (zcb ?_)
     simp (disch := omega) [zbd, gE, tP, DtInst.cells, DtCmd.cells, DtId.cells, h1, h2]
     all_goals simp
  ·try simp [zbb, zba, zbf, zbe, zbp, zbq] at hc3
   all_goals
    refine zbw ?_
    refine zb3 ?_
    refine AW_r rfl rfl fun K hK => ?_
    simp (disch := omega) [zbd, gE, tP, DtInst.cells, DtCmd.cells, DtId.cells, h1, h2]
    repeat' first | (exfalso; omega) | (refine ⟨fun _ => ?_, fun _ => ?_⟩) | (refine ⟨by omega, ?_⟩) | (intro _)
    all_goals (refine hK _ ?_; clear hK K)
    all_goals
     refine zbz (zcb ?_)
     simp (disch := omega) [zbd, gE, tP, DtInst.cells, DtCmd.cells, DtId.cells, h1, h2]
     all_goals simp
 ·have e0 := h1
  refine zbu Try.func42 (by rfl) (by rfl) (by rw [Try.ntmps42]; exact Nat.le_of_ble_eq_true rfl) rfl (by decide) ?_
  rw [Try.ntmps42]
  refine AW_k [(0, _), (1, _)] ⟨rfl, rfl, trivial⟩ ?_
  refine AW_r rfl rfl fun K hK => ?_
  simp (disch := omega) [zbd, gE, tP, DtInst.cells, DtCmd.cells, DtId.cells, h1, h2, zeroInst, zeroCmd]
  repeat' first | (refine ⟨by omega, ?_⟩) | (intro _)
  refine hK _ ?_; clear hK K
  refine zbt ?_
  refine AW_r rfl rfl fun K hK => ?_
  simp (disch := omega) [zbd, gE, tP, DtInst.cells, DtCmd.cells, DtId.cells, h1, h2, zeroInst, zeroCmd]
  repeat' first | (exfalso; omega) | (refine zck (zbg zca (zbg (zb6 rfl) zbr)) (zm2 _ _ (by assumption)) rfl ?_; simp (disch := omega) [zbd, gE, tP, DtInst.cells, DtCmd.cells, DtId.cells, h1, h2, zeroInst, zeroCmd]) | (refine ⟨by omega, ?_⟩) | (intro _)
  refine hK _ ?_; clear hK K
  refine AW_r rfl rfl fun K hK => ?_
  simp (disch := omega) [zbd, gE, tP, DtInst.cells, DtCmd.cells, DtId.cells, h1, h2, zeroInst, zeroCmd]
  repeat' first | (refine ⟨by omega, ?_⟩) | (intro _)
  refine hK _ ?_; clear hK K
  refine zbv rfl (fun hc4 => ?_) (fun hc4 => ?_)
  ·try simp [zbb, zba, zbf, zbe, zbp, zbq] at hc4
   all_goals
    refine AW_r rfl rfl fun K hK => ?_
    simp (disch := omega) [zbd, gE, tP, DtInst.cells, DtCmd.cells, DtId.cells, h1, h2, zeroInst, zeroCmd]
    repeat' first | (exfalso; omega) | (refine zck (zbg (zb6 rfl) zbr) (zt5 _ (by assumption) (by assumption)) rfl ?_; simp (disch := omega) [zbd, gE, tP, DtInst.cells, DtCmd.cells, DtId.cells, h1, h2, zeroInst, zeroCmd]) | (refine ⟨fun _ => ?_, fun _ => ?_⟩) | (refine ⟨by omega, ?_⟩) | (intro _)
    all_goals (refine hK _ ?_; clear hK K)
    all_goals
     refine zbz (zcb ?_)
     simp (disch := omega) [zbd, gE, tP, DtInst.cells, DtCmd.cells, DtId.cells, h1, h2, zeroInst, zeroCmd]
     all_goals simp
  ·try simp [zbb, zba, zbf, zbe, zbp, zbq] at hc4
   all_goals
    refine zbw ?_
    refine zb3 ?_
    refine AW_r rfl rfl fun K hK => ?_
    simp (disch := omega) [zbd, gE, tP, DtInst.cells, DtCmd.cells, DtId.cells, h1, h2, zeroInst, zeroCmd]
    repeat' first | (exfalso; omega) | (refine ⟨fun _ => ?_, fun _ => ?_⟩) | (refine ⟨by omega, ?_⟩) | (intro _)
    all_goals (refine hK _ ?_; clear hK K)
    all_goals
     refine zbz (zcb ?_)
     simp (disch := omega) [zbd, gE, tP, DtInst.cells, DtCmd.cells, DtId.cells, h1, h2, zeroInst, zeroCmd]
     all_goals simp
end Go.Proofs.Ytfbmhgiokfpgiaa.Vs
