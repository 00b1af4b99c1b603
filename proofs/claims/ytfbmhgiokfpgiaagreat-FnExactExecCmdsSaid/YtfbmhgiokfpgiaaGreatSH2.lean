import Derived.Test.YtfbmhgiokfpgiaaGreatSG1
open Go Go.Proofs Go.Proofs.YtfbmhgiokfpgiaaGreat.Vs
namespace Go.Proofs.YtfbmhgiokfpgiaaGreat.Vs
set_option linter.all false
set_option linter.unusedSimpArgs false
set_option linter.unusedVariables false
set_option maxRecDepth 100000
theorem copyTexts (l : List (List UInt8)) (hn : l.length ≤ 1048576) : PCall Tryz.prog 71 [.sl 1 (l.map cS)] (.sl 1 (l.map cS)) := by
 refine zbz Tryz.func71 (by rfl) (by rfl) (by rw [Tryz.ntmps71]; exact Nat.le_of_ble_eq_true rfl) rfl (by decide) ?_
 rw [Tryz.ntmps71]
 refine AW_k [(0, _)] ⟨rfl, trivial⟩ ?_
 refine AW_r rfl rfl fun K hK => ?_
 simp (disch := omega) [zbd, gE, tP, aNews, aAppend, tkm, cS]
 repeat' first | (refine ⟨by omega, ?_⟩) | (intro _)
 refine hK _ ?_; clear hK K
 refine AW_r rfl rfl fun K hK => ?_
 simp (disch := omega) [zbd, gE, tP, aNews, aAppend, tkm, cS]
 repeat' first | (refine ⟨by omega, ?_⟩) | (intro _)
 refine hK _ ?_; clear hK K
 refine zby (zcd ?_)
 simp (disch := omega) [zbd, gE, tP, aNews, aAppend, tkm, cS]
 all_goals simp [tkm]
theorem copyIds (l : List DtId) (hn : l.length ≤ 1048576) : PCall Tryz.prog 59 [.sl 2 (l.map DtId.cells)] (.sl 2 (l.map DtId.cells)) := by
 refine zbz Tryz.func59 (by rfl) (by rfl) (by rw [Tryz.ntmps59]; exact Nat.le_of_ble_eq_true rfl) rfl (by decide) ?_
 rw [Tryz.ntmps59]
 refine AW_k [(0, _)] ⟨rfl, trivial⟩ ?_
 refine AW_r rfl rfl fun K hK => ?_
 simp (disch := omega) [zbd, gE, tP, aNews, aAppend, tkm, cS]
 repeat' first | (refine ⟨by omega, ?_⟩) | (intro _)
 refine hK _ ?_; clear hK K
 refine AW_r rfl rfl fun K hK => ?_
 simp (disch := omega) [zbd, gE, tP, aNews, aAppend, tkm, cS]
 repeat' first | (refine ⟨by omega, ?_⟩) | (intro _)
 refine hK _ ?_; clear hK K
 refine zby (zcd ?_)
 simp (disch := omega) [zbd, gE, tP, aNews, aAppend, tkm, cS]
 all_goals simp [tkm]
theorem copyCmd (c : DtCmd) (hn : c.fChunks.length ≤ 1048576) : PCall Tryz.prog 58 [.agg (DtCmd.cells c)] (.agg (DtCmd.cells c)) := by
 refine zbz Tryz.func58 (by rfl) (by rfl) (by rw [Tryz.ntmps58]; exact Nat.le_of_ble_eq_true rfl) rfl (by decide) ?_
 rw [Tryz.ntmps58]
 refine AW_k [(0, _)] ⟨rfl, trivial⟩ ?_
 refine AW_r rfl rfl fun K hK => ?_
 simp (disch := omega) [zbd, gE, tP, DtCmd.cells]
 repeat' first | (refine ⟨by omega, ?_⟩) | (intro _)
 refine hK _ ?_; clear hK K
 refine AW_r rfl rfl fun K hK => ?_
 simp (disch := omega) [zbd, gE, tP, DtCmd.cells]
 repeat' first | (exfalso; omega) | (refine zco (zbh zce zbs) (copyTexts _ (by assumption)) rfl ?_; simp (disch := omega) [zbd, gE, tP, DtCmd.cells]) | (refine ⟨by omega, ?_⟩) | (intro _)
 refine hK _ ?_; clear hK K
 refine AW_r rfl rfl fun K hK => ?_
 simp (disch := omega) [zbd, gE, tP, DtCmd.cells]
 repeat' first | (refine ⟨by omega, ?_⟩) | (intro _)
 refine hK _ ?_; clear hK K
 refine zby (zcd ?_)
 simp (disch := omega) [zbd, gE, tP, DtCmd.cells]
 all_goals simp [tkm]
theorem zv2 (x : DtInst) (hn : x.fCmd.fChunks.length ≤ 1048576) (hd : x.fDeps.length ≤ 1048576) : PCall Tryz.prog 34 [.agg (DtInst.cells x)] (.agg (DtInst.cells x)) := by
 refine zbz Tryz.func34 (by rfl) (by rfl) (by rw [Tryz.ntmps34]; exact Nat.le_of_ble_eq_true rfl) rfl (by decide) ?_
 rw [Tryz.ntmps34]
 refine AW_k [(0, _)] ⟨rfl, trivial⟩ ?_
 refine AW_r rfl rfl fun K hK => ?_
 simp (disch := omega) [zbd, gE, tP, DtCmd.cells, DtInst.cells]
 repeat' first | (refine ⟨by omega, ?_⟩) | (intro _)
 refine hK _ ?_; clear hK K
 refine AW_r rfl rfl fun K hK => ?_
 simp (disch := omega) [zbd, gE, tP, DtCmd.cells, DtInst.cells]
 repeat' first | (exfalso; omega) | (refine zco (zbh (zcb rfl) zbs) (copyCmd _ (by assumption)) rfl ?_; simp (disch := omega) [zbd, gE, tP, DtCmd.cells, DtInst.cells]) | (refine ⟨by omega, ?_⟩) | (intro _)
 refine hK _ ?_; clear hK K
 refine AW_r rfl rfl fun K hK => ?_
 simp (disch := omega) [zbd, gE, tP, DtCmd.cells, DtInst.cells]
 repeat' first | (exfalso; omega) | (refine zco (zbh zce zbs) (copyIds _ (by assumption)) rfl ?_; simp (disch := omega) [zbd, gE, tP, DtCmd.cells, DtInst.cells]) | (refine ⟨by omega, ?_⟩) | (intro _)
 refine hK _ ?_; clear hK K
 refine AW_r rfl rfl fun K hK => ?_
 simp (disch := omega) [zbd, gE, tP, DtCmd.cells, DtInst.cells]
 repeat' first | (refine ⟨by omega, ?_⟩) | (intro _)
 refine hK _ ?_; clear hK K
 refine zby (zcd ?_)
 simp (disch := omega) [zbd, gE, tP, DtCmd.cells, DtInst.cells]
 all_goals simp [tkm]
theorem inst1 (p : DtInst) (id : DtId) : GCall Tryz.prog 57 [.agg (DtInst.cells p), .ptr 0 0] [DtId.cells id] [] (.g (.bool (eqB p.fId id))) [] := by
 refine zbz Tryz.func57 (by rfl) (by rfl) (by rw [Tryz.ntmps57]; exact Nat.le_of_ble_eq_true rfl) rfl (by decide) ?_
 rw [Tryz.ntmps57]
 refine AW_k [(0, _), (1, _)] ⟨rfl, rfl, trivial⟩ ?_
 refine AW_r rfl rfl fun K hK => ?_
 simp [DtInst.cells, DtId.cells, DtCmd.cells, zbx]
 repeat' first | (refine ⟨by omega, ?_⟩) | (intro _)
 refine hK _ ?_; clear hK K
 refine AW_r rfl rfl fun K hK => ?_
 simp [DtInst.cells, DtId.cells, DtCmd.cells, zbx]
 repeat' first | (refine ⟨by omega, ?_⟩) | (intro _)
 refine hK _ ?_; clear hK K
 refine zby (zcd ?_)
 simp [DtInst.cells, DtId.cells, DtCmd.cells, zbx]
 all_goals (rw [Bool.eq_iff_iff, zbg, zgo]; simp)
theorem zp3 {F : FuncId} {id : DtId} {p : DtInst → Bool} (xs : List DtInst) (hn : xs.length ≤ 1048576) (hf : ∀ x, GCall Tryz.prog F [.agg (DtInst.cells x), .ptr 0 0] [DtId.cells id] [] (.g (.bool (p x))) []) : GCall Tryz.prog 56 [.sl 16 (xs.map DtInst.cells), .fn F [] [.ptr 0 0]] [DtId.cells id] [] (.g (.int .i64 (idxZ p xs))) [] := by
 refine zbz Tryz.func56 (by rfl) (by rfl) (by rw [Tryz.ntmps56]; exact Nat.le_of_ble_eq_true rfl) rfl (by decide) ?_
 rw [Tryz.ntmps56]
 refine AW_k [(0, _), (1, _)] ⟨rfl, rfl, trivial⟩ ?_
 refine AW_r rfl rfl fun K hK => ?_
 simp (disch := omega) [zbd, gE, tP, DtInst.cells, DtId.cells, DtCmd.cells]
 repeat' first | (refine zjl 0 (.inr rfl) (zdg (DtId.cells id) rfl) (zbh (zcb rfl) (zbh zgc zbs)) (hf _) rfl ?_; try simp (disch := omega) [zbd, gE, tP, DtInst.cells, DtId.cells, DtCmd.cells]) | (refine ⟨by omega, ?_⟩) | (intro _)
 refine hK _ ?_; clear hK K
 refine zbr ?_
 refine AW_r rfl rfl fun K hK => ?_
 simp (disch := omega) [zbd, gE, tP, DtInst.cells, DtId.cells, DtCmd.cells]
 repeat' first | (refine zjl 0 (.inr rfl) (zdg (DtId.cells id) rfl) (zbh (zcb rfl) (zbh zgc zbs)) (hf _) rfl ?_; try simp (disch := omega) [zbd, gE, tP, DtInst.cells, DtId.cells, DtCmd.cells]) | (refine ⟨by omega, ?_⟩) | (intro _)
 refine hK _ ?_; clear hK K
 refine zb0 ?_
 refine zcf (fun mM sS => ∃ (i : Nat), mM = xs.length - i ∧ (i ≤ xs.length ∧ ∀ j x, j < i → xs[j]? = some x → p x = false) ∧ sS = { env := lkE [(0, .sl 16 (xs.map DtInst.cells)), (1, .fn F [] [.ptr 0 0]), (6, .sl 16 (xs.map DtInst.cells)), (7, (.g (.int .i64 ((xs.length : Nat))))), (8, (.g (.int .i64 ((i : Nat)))))], ob := formOb [DtId.cells id] [] }) ?_ ?_
 ·refine ⟨_, LeS.kp [(0, .sl 16 (xs.map DtInst.cells)), (1, .fn F [] [.ptr 0 0]), (6, .sl 16 (xs.map DtInst.cells)), (7, (.g (.int .i64 ((xs.length : Nat))))), (8, (.g (.int .i64 (((0) : Nat)))))] (by simp [KpE, zbl, zb5, zbi]; try rfl), _, 0, rfl, ?_, rfl⟩
  ·simp
 ·rintro mM sS ⟨i, rfl, ⟨hi, hpre⟩, rfl⟩
  refine AW_r rfl rfl fun K hK => ?_
  simp (disch := omega) [zbd, gE, tP, DtInst.cells, DtId.cells, DtCmd.cells]
  repeat' first | (refine zjl 0 (.inr rfl) (zdg (DtId.cells id) rfl) (zbh (zcb rfl) (zbh zgc zbs)) (hf _) rfl ?_; try simp (disch := omega) [zbd, gE, tP, DtInst.cells, DtId.cells, DtCmd.cells]) | (refine ⟨by omega, ?_⟩) | (intro _)
  refine hK _ ?_; clear hK K
  refine zbr ?_
  refine zbu rfl (fun hc1 => ?_) (fun hc1 => ?_)
  ·try simp [zbc, zbb, zbg, zbf, zbq, zbt] at hc1
   all_goals
    have hg : xs[i]? = some (xs[i]) := List.getElem?_eq_getElem (by omega)
    refine zbv ?_
    refine zb4 ?_
    refine zbr ?_
    refine zb0 ?_
    refine AW_r rfl rfl fun K hK => ?_
    simp (disch := omega) [zbd, gE, tP, DtInst.cells, DtId.cells, DtCmd.cells]
    repeat' first | (exfalso; omega) | (refine zjl 0 (.inr rfl) (zdg (DtId.cells id) rfl) (zbh (zcb rfl) (zbh zgc zbs)) (hf _) rfl ?_; try simp (disch := omega) [zbd, gE, tP, DtInst.cells, DtId.cells, DtCmd.cells]) | (refine ⟨fun _ => ?_, fun _ => ?_⟩) | (refine ⟨by omega, ?_⟩) | (intro _)
    all_goals (refine hK _ ?_; clear hK K)
    all_goals
     refine AW_r rfl rfl fun K hK => ?_
     simp (disch := omega) [zbd, gE, tP, DtInst.cells, DtId.cells, DtCmd.cells]
     repeat' first | (refine zjl 0 (.inr rfl) (zdg (DtId.cells id) rfl) (zbh (zcb rfl) (zbh zgc zbs)) (hf _) rfl ?_; try simp (disch := omega) [zbd, gE, tP, DtInst.cells, DtId.cells, DtCmd.cells]) | (refine ⟨by omega, ?_⟩) | (intro _)
     refine hK _ ?_; clear hK K
     refine zbu rfl (fun hc2 => ?_) (fun hc2 => ?_)
     ·try simp [zbc, zbb, zbg, zbf, zbq, zbt] at hc2
      all_goals
       refine AW_r rfl rfl fun K hK => ?_
       simp (disch := omega) [zbd, gE, tP, DtInst.cells, DtId.cells, DtCmd.cells]
       repeat' first | (exfalso; omega) | (refine zjl 0 (.inr rfl) (zdg (DtId.cells id) rfl) (zbh (zcb rfl) (zbh zgc zbs)) (hf _) rfl ?_; try simp (disch := omega) [zbd, gE, tP, DtInst.cells, DtId.cells, DtCmd.cells]) | (refine ⟨fun _ => ?_, fun _ => ?_⟩) | (refine ⟨by omega, ?_⟩) | (intro _)
       all_goals (refine hK _ ?_; clear hK K)
       all_goals
        refine zby (zcd ?_)
        simp (disch := omega) [zbd, gE, tP, DtInst.cells, DtId.cells, DtCmd.cells]
        all_goals first | (exact zd1 (by assumption) (by assumption) hpre) | (exact zfj (fun j x h => hpre j x (by omega)))
     ·try simp [zbc, zbb, zbg, zbf, zbq, zbt] at hc2
      all_goals
       refine zbv ?_
       refine zb4 ?_
       refine zdi rfl rfl fun K hK => ?_
       simp (disch := omega) [zbd, gE, tP, DtInst.cells, DtId.cells, DtCmd.cells]
       repeat' first | (exfalso; omega) | (refine zjl 0 (.inr rfl) (zdg (DtId.cells id) rfl) (zbh (zcb rfl) (zbh zgc zbs)) (hf _) rfl ?_; try simp (disch := omega) [zbd, gE, tP, DtInst.cells, DtId.cells, DtCmd.cells]) | (refine ⟨fun _ => ?_, fun _ => ?_⟩) | (refine ⟨by omega, ?_⟩) | (intro _)
       all_goals (refine hK _ ?_; clear hK K)
       all_goals
        refine ⟨_, LeS.kp [(0, .sl 16 (xs.map DtInst.cells)), (1, .fn F [] [.ptr 0 0]), (6, .sl 16 (xs.map DtInst.cells)), (7, (.g (.int .i64 ((xs.length : Nat))))), (8, (.g (.int .i64 (((i + 1) : Nat)))))] (by simp [KpE, zbl, zb5, zbi]; try rfl), _, ?_, i + 1, rfl, ?_, rfl⟩
        ·omega
        ·refine ⟨by omega, ?_⟩; grind
  ·try simp [zbc, zbb, zbg, zbf, zbq, zbt] at hc1
   all_goals
    refine zch ?_
    refine zb4 ?_
    refine AW_r rfl rfl fun K hK => ?_
    simp (disch := omega) [zbd, gE, tP, DtInst.cells, DtId.cells, DtCmd.cells]
    repeat' first | (exfalso; omega) | (refine zjl 0 (.inr rfl) (zdg (DtId.cells id) rfl) (zbh (zcb rfl) (zbh zgc zbs)) (hf _) rfl ?_; try simp (disch := omega) [zbd, gE, tP, DtInst.cells, DtId.cells, DtCmd.cells]) | (refine ⟨fun _ => ?_, fun _ => ?_⟩) | (refine ⟨by omega, ?_⟩) | (intro _)
    all_goals (refine hK _ ?_; clear hK K)
    all_goals
     refine zby (zcd ?_)
     simp (disch := omega) [zbd, gE, tP, DtInst.cells, DtId.cells, DtCmd.cells]
     all_goals first | (exact zd1 (by assumption) (by assumption) hpre) | (exact zfj (fun j x h => hpre j x (by omega)))
noncomputable def iAt (l : List DtInst) (id : DtId) : Int := idxZ (fun x => eqB x.fId id) l
theorem zhq (l : List DtInst) (id : DtId) (hn : l.length ≤ 1048576) : PCall Tryz.prog 33 [.sl 16 (l.map DtInst.cells), .agg (DtId.cells id)] (.g (.int .i64 (iAt l id))) := by
 refine zbz Tryz.func33 (by rfl) (by rfl) (by rw [Tryz.ntmps33]; exact Nat.le_of_ble_eq_true rfl) rfl (by decide) ?_
 rw [Tryz.ntmps33]
 refine AW_k [(0, _), (1, _)] ⟨rfl, rfl, trivial⟩ ?_
 refine AW_r rfl rfl fun K hK => ?_
 simp [DtInst.cells, DtId.cells, DtCmd.cells]
 repeat' first | (refine ⟨by omega, ?_⟩) | (intro _)
 refine hK _ ?_; clear hK K
 refine AW_r rfl rfl fun K hK => ?_
 simp [DtInst.cells, DtId.cells, DtCmd.cells]
 repeat' first | (refine zjl 64 (.inl rfl) (zdg (DtId.cells id) rfl) (zbh zce (zbh am2_fn0 zbs)) (zp3 _ hn (fun x => inst1 x id)) rfl ?_; simp [DtInst.cells, DtId.cells, DtCmd.cells]) | (refine ⟨by omega, ?_⟩) | (intro _)
 refine hK _ ?_; clear hK K
 refine zby (zcd ?_)
 simp [DtInst.cells, DtId.cells, DtCmd.cells, iAt]
 all_goals first | omega | (simp_all; done) | (simp [List.take_of_length_le]; done) | ((try simp_all); (try simp (disch := omega) only [zbd, Int.tdiv_eq_ediv_of_nonneg, Int.tmod_eq_emod_of_nonneg, and_true, true_and]); done) | ((try simp_all); (try simp (disch := omega) only [zbd, Int.tdiv_eq_ediv_of_nonneg, Int.tmod_eq_emod_of_nonneg, and_true, true_and] at *); omega)
theorem zp4 (l : List DtInst) (id : DtId) : (∃ i, ∃ h : i < l.length, iAt l id = i ∧ instAt l id = l[i]) ∨ (iAt l id = -1 ∧ instAt l id = zeroInst id) := by
 unfold iAt idxZ instAt
 cases h : l.findIdx? (fun x => eqB x.fId id) with
 | none =>
  refine .inr ⟨rfl, ?_⟩
  rw [List.findIdx?_eq_none_iff] at h
  have : l.find? (fun x => eqB x.fId id) = none := List.find?_eq_none.2 fun x hx => by simp [h x hx]
  rw [this]; rfl
 | some i =>
  obtain ⟨h1, h2, h3⟩ := List.findIdx?_eq_some_iff_getElem.1 h
  refine .inl ⟨i, h1, rfl, ?_⟩
  have : l.find? (fun x => eqB x.fId id) = some l[i] := by
   rw [List.find?_eq_some_iff_getElem]
   exact ⟨h2, i, h1, rfl, fun j hj => by simpa using h3 j hj⟩
  rw [this]; rfl
theorem zfw (l : List DtInst) (id : DtId) (hn : l.length ≤ 1048576) (hm : ∀ x ∈ l, InstSm x) : PCall Tryz.prog 18 [.sl 16 (l.map DtInst.cells), .agg (DtId.cells id)] (.agg (DtInst.cells (instAt l id))) := by
 rcases zp4 l id with ⟨i, hi, h1, h2⟩ | ⟨h1, h2⟩
 ·have hx := hm _ (List.getElem_mem hi)
  have hx1 := hx.1
  have hx2 := hx.2.1
  refine zbz Tryz.func18 (by rfl) (by rfl) (by rw [Tryz.ntmps18]; exact Nat.le_of_ble_eq_true rfl) rfl (by decide) ?_
  rw [Tryz.ntmps18]
  refine AW_k [(0, _), (1, _)] ⟨rfl, rfl, trivial⟩ ?_
  refine AW_r rfl rfl fun K hK => ?_
  simp (disch := omega) [zbd, gE, tP, DtInst.cells, DtCmd.cells, DtId.cells, h1, h2]
  repeat' first | (refine ⟨by omega, ?_⟩) | (intro _)
  refine hK _ ?_; clear hK K
  refine zbr ?_
  refine AW_r rfl rfl fun K hK => ?_
  simp (disch := omega) [zbd, gE, tP, DtInst.cells, DtCmd.cells, DtId.cells, h1, h2]
  repeat' first | (exfalso; omega) | (refine zco (zbh zce (zbh (zcb rfl) zbs)) (zhq _ _ (by assumption)) rfl ?_; simp (disch := omega) [zbd, gE, tP, DtInst.cells, DtCmd.cells, DtId.cells, h1, h2]) | (refine ⟨by omega, ?_⟩) | (intro _)
  refine hK _ ?_; clear hK K
  refine AW_r rfl rfl fun K hK => ?_
  simp (disch := omega) [zbd, gE, tP, DtInst.cells, DtCmd.cells, DtId.cells, h1, h2]
  repeat' first | (refine ⟨by omega, ?_⟩) | (intro _)
  refine hK _ ?_; clear hK K
  refine zbu rfl (fun hc3 => ?_) (fun hc3 => ?_)
  ·try simp [zbc, zbb, zbg, zbf, zbq, zbt] at hc3
   all_goals
    refine AW_r rfl rfl fun K hK => ?_
    simp (disch := omega) [zbd, gE, tP, DtInst.cells, DtCmd.cells, DtId.cells, h1, h2]
    repeat' first | (exfalso; omega) | (refine zco (zbh (zcb rfl) zbs) (zv2 _ (by assumption) (by assumption)) rfl ?_; simp (disch := omega) [zbd, gE, tP, DtInst.cells, DtCmd.cells, DtId.cells, h1, h2]) | (refine ⟨fun _ => ?_, fun _ => ?_⟩) | (refine ⟨by omega, ?_⟩) | (intro _)
    all_goals (refine hK _ ?_; clear hK K)
    all_goals
     refine zby (zcd ?_)
     simp (disch := omega) [zbd, gE, tP, DtInst.cells, DtCmd.cells, DtId.cells, h1, h2]
     all_goals simp
  ·try simp [zbc, zbb, zbg, zbf, zbq, zbt] at hc3
   all_goals
    refine zbv ?_
    refine zb4 ?_
    refine AW_r rfl rfl fun K hK => ?_
    simp (disch := omega) [zbd, gE, tP, DtInst.cells, DtCmd.cells, DtId.cells, h1, h2]
    repeat' first | (exfalso; omega) | (refine ⟨fun _ => ?_, fun _ => ?_⟩) | (refine ⟨by omega, ?_⟩) | (intro _)
    all_goals (refine hK _ ?_; clear hK K)
    all_goals
     refine zby (zcd ?_)
     simp (disch := omega) [zbd, gE, tP, DtInst.cells, DtCmd.cells, DtId.cells, h1, h2]
     all_goals simp
 ·have e0 := h1
  refine zbz Tryz.func18 (by rfl) (by rfl) (by rw [Tryz.ntmps18]; exact Nat.le_of_ble_eq_true rfl) rfl (by decide) ?_
  rw [Tryz.ntmps18]
  refine AW_k [(0, _), (1, _)] ⟨rfl, rfl, trivial⟩ ?_
  refine AW_r rfl rfl fun K hK => ?_
  simp (disch := omega) [zbd, gE, tP, DtInst.cells, DtCmd.cells, DtId.cells, h1, h2, zeroInst, zeroCmd]
  repeat' first | (refine ⟨by omega, ?_⟩) | (intro _)
  refine hK _ ?_; clear hK K
  refine zbr ?_
  refine AW_r rfl rfl fun K hK => ?_
  simp (disch := omega) [zbd, gE, tP, DtInst.cells, DtCmd.cells, DtId.cells, h1, h2, zeroInst, zeroCmd]
  repeat' first | (exfalso; omega) | (refine zco (zbh zce (zbh (zcb rfl) zbs)) (zhq _ _ (by assumption)) rfl ?_; simp (disch := omega) [zbd, gE, tP, DtInst.cells, DtCmd.cells, DtId.cells, h1, h2, zeroInst, zeroCmd]) | (refine ⟨by omega, ?_⟩) | (intro _)
  refine hK _ ?_; clear hK K
  refine AW_r rfl rfl fun K hK => ?_
  simp (disch := omega) [zbd, gE, tP, DtInst.cells, DtCmd.cells, DtId.cells, h1, h2, zeroInst, zeroCmd]
  repeat' first | (refine ⟨by omega, ?_⟩) | (intro _)
  refine hK _ ?_; clear hK K
  refine zbu rfl (fun hc4 => ?_) (fun hc4 => ?_)
  ·try simp [zbc, zbb, zbg, zbf, zbq, zbt] at hc4
   all_goals
    refine AW_r rfl rfl fun K hK => ?_
    simp (disch := omega) [zbd, gE, tP, DtInst.cells, DtCmd.cells, DtId.cells, h1, h2, zeroInst, zeroCmd]
    repeat' first | (exfalso; omega) | (refine zco (zbh (zcb rfl) zbs) (zv2 _ (by assumption) (by assumption)) rfl ?_; simp (disch := omega) [zbd, gE, tP, DtInst.cells, DtCmd.cells, DtId.cells, h1, h2, zeroInst, zeroCmd]) | (refine ⟨fun _ => ?_, fun _ => ?_⟩) | (refine ⟨by omega, ?_⟩) | (intro _)
    all_goals (refine hK _ ?_; clear hK K)
    all_goals
     refine zby (zcd ?_)
     simp (disch := omega) [zbd, gE, tP, DtInst.cells, DtCmd.cells, DtId.cells, h1, h2, zeroInst, zeroCmd]
     all_goals simp
  ·try simp [zbc, zbb, zbg, zbf, zbq, zbt] at hc4
   all_goals
    refine zbv ?_
    refine zb4 ?_
    refine AW_r rfl rfl fun K hK => ?_
    simp (disch := omega) [zbd, gE, tP, DtInst.cells, DtCmd.cells, DtId.cells, h1, h2, zeroInst, zeroCmd]
    repeat' first | (exfalso; omega) | (refine ⟨fun _ => ?_, fun _ => ?_⟩) | (refine ⟨by omega, ?_⟩) | (intro _)
    all_goals (refine hK _ ?_; clear hK K)
    all_goals
     refine zby (zcd ?_)
     simp (disch := omega) [zbd, gE, tP, DtInst.cells, DtCmd.cells, DtId.cells, h1, h2, zeroInst, zeroCmd]
     all_goals simp
end Go.Proofs.YtfbmhgiokfpgiaaGreat.Vs
