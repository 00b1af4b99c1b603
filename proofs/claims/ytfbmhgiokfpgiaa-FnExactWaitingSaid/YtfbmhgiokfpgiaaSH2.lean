import Derived.Test.YtfbmhgiokfpgiaaSG1
open Go Go.Proofs Go.Proofs.Ytfbmhgiokfpgiaa.Vs
namespace Go.Proofs.Ytfbmhgiokfpgiaa.Vs
set_option linter.all false
set_option linter.unusedSimpArgs false
set_option linter.unusedVariables false
set_option maxRecDepth 100000
theorem zwz (l : List (List UInt8)) (hn : l.length ≤ 1048576) : PCall Try.prog 99 [.sl 1 (l.map cS)] (.sl 1 (l.map cS)) := by
 refine zbq Try.func99 (by rfl) (by rfl) (by rw [Try.ntmps99]; exact Nat.le_of_ble_eq_true rfl) rfl (by decide) ?_
 rw [Try.ntmps99]
 refine AW_k [(0, _)] ⟨rfl, trivial⟩ ?_
 refine AW_r rfl rfl fun K hK => ?_
 simp (disch := omega) [zbc, gE, tP, aNews, aAppend, tkm, cS]
 repeat' first | (refine ⟨by omega, ?_⟩) | (intro _)
 refine hK _ ?_; clear hK K
 refine AW_r rfl rfl fun K hK => ?_
 simp (disch := omega) [zbc, gE, tP, aNews, aAppend, tkm, cS]
 repeat' first | (refine ⟨by omega, ?_⟩) | (intro _)
 refine hK _ ?_; clear hK K
 refine zbt (zb4 ?_)
 simp (disch := omega) [zbc, gE, tP, aNews, aAppend, tkm, cS]
 all_goals simp [tkm]
theorem copyIds (l : List DtId) (hn : l.length ≤ 1048576) : PCall Try.prog 83 [.sl 2 (l.map DtId.cells)] (.sl 2 (l.map DtId.cells)) := by
 refine zbq Try.func83 (by rfl) (by rfl) (by rw [Try.ntmps83]; exact Nat.le_of_ble_eq_true rfl) rfl (by decide) ?_
 rw [Try.ntmps83]
 refine AW_k [(0, _)] ⟨rfl, trivial⟩ ?_
 refine AW_r rfl rfl fun K hK => ?_
 simp (disch := omega) [zbc, gE, tP, aNews, aAppend, tkm, cS]
 repeat' first | (refine ⟨by omega, ?_⟩) | (intro _)
 refine hK _ ?_; clear hK K
 refine AW_r rfl rfl fun K hK => ?_
 simp (disch := omega) [zbc, gE, tP, aNews, aAppend, tkm, cS]
 repeat' first | (refine ⟨by omega, ?_⟩) | (intro _)
 refine hK _ ?_; clear hK K
 refine zbt (zb4 ?_)
 simp (disch := omega) [zbc, gE, tP, aNews, aAppend, tkm, cS]
 all_goals simp [tkm]
theorem copyCmd (c : DtCmd) (hn : c.fChunks.length ≤ 1048576) : PCall Try.prog 82 [.agg (DtCmd.cells c)] (.agg (DtCmd.cells c)) := by
 refine zbq Try.func82 (by rfl) (by rfl) (by rw [Try.ntmps82]; exact Nat.le_of_ble_eq_true rfl) rfl (by decide) ?_
 rw [Try.ntmps82]
 refine AW_k [(0, _)] ⟨rfl, trivial⟩ ?_
 refine AW_r rfl rfl fun K hK => ?_
 simp (disch := omega) [zbc, gE, tP, DtCmd.cells]
 repeat' first | (refine ⟨by omega, ?_⟩) | (intro _)
 refine hK _ ?_; clear hK K
 refine AW_r rfl rfl fun K hK => ?_
 simp (disch := omega) [zbc, gE, tP, DtCmd.cells]
 repeat' first | (exfalso; omega) | (refine zcj (zbg zb9 zbn) (zwz _ (by assumption)) rfl ?_; simp (disch := omega) [zbc, gE, tP, DtCmd.cells]) | (refine ⟨by omega, ?_⟩) | (intro _)
 refine hK _ ?_; clear hK K
 refine AW_r rfl rfl fun K hK => ?_
 simp (disch := omega) [zbc, gE, tP, DtCmd.cells]
 repeat' first | (refine ⟨by omega, ?_⟩) | (intro _)
 refine hK _ ?_; clear hK K
 refine zbt (zb4 ?_)
 simp (disch := omega) [zbc, gE, tP, DtCmd.cells]
 all_goals simp [tkm]
theorem zr6 (x : DtInst) (hn : x.fCmd.fChunks.length ≤ 1048576) (hd : x.fDeps.length ≤ 1048576) : PCall Try.prog 62 [.agg (DtInst.cells x)] (.agg (DtInst.cells x)) := by
 refine zbq Try.func62 (by rfl) (by rfl) (by rw [Try.ntmps62]; exact Nat.le_of_ble_eq_true rfl) rfl (by decide) ?_
 rw [Try.ntmps62]
 refine AW_k [(0, _)] ⟨rfl, trivial⟩ ?_
 refine AW_r rfl rfl fun K hK => ?_
 simp (disch := omega) [zbc, gE, tP, DtCmd.cells, DtInst.cells]
 repeat' first | (refine ⟨by omega, ?_⟩) | (intro _)
 refine hK _ ?_; clear hK K
 refine AW_r rfl rfl fun K hK => ?_
 simp (disch := omega) [zbc, gE, tP, DtCmd.cells, DtInst.cells]
 repeat' first | (exfalso; omega) | (refine zcj (zbg (zb6 rfl) zbn) (copyCmd _ (by assumption)) rfl ?_; simp (disch := omega) [zbc, gE, tP, DtCmd.cells, DtInst.cells]) | (refine ⟨by omega, ?_⟩) | (intro _)
 refine hK _ ?_; clear hK K
 refine AW_r rfl rfl fun K hK => ?_
 simp (disch := omega) [zbc, gE, tP, DtCmd.cells, DtInst.cells]
 repeat' first | (exfalso; omega) | (refine zcj (zbg zb9 zbn) (copyIds _ (by assumption)) rfl ?_; simp (disch := omega) [zbc, gE, tP, DtCmd.cells, DtInst.cells]) | (refine ⟨by omega, ?_⟩) | (intro _)
 refine hK _ ?_; clear hK K
 refine AW_r rfl rfl fun K hK => ?_
 simp (disch := omega) [zbc, gE, tP, DtCmd.cells, DtInst.cells]
 repeat' first | (refine ⟨by omega, ?_⟩) | (intro _)
 refine hK _ ?_; clear hK K
 refine zbt (zb4 ?_)
 simp (disch := omega) [zbc, gE, tP, DtCmd.cells, DtInst.cells]
 all_goals simp [tkm]
theorem inst1 (p : DtInst) (id : DtId) : GCall Try.prog 81 [.agg (DtInst.cells p), .ptr 0 0] [DtId.cells id] [] (.g (.bool (eqB p.fId id))) [] := by
 refine zbq Try.func81 (by rfl) (by rfl) (by rw [Try.ntmps81]; exact Nat.le_of_ble_eq_true rfl) rfl (by decide) ?_
 rw [Try.ntmps81]
 refine AW_k [(0, _), (1, _)] ⟨rfl, rfl, trivial⟩ ?_
 refine AW_r rfl rfl fun K hK => ?_
 simp [DtInst.cells, DtId.cells, DtCmd.cells, zch]
 repeat' first | (refine ⟨by omega, ?_⟩) | (intro _)
 refine hK _ ?_; clear hK K
 refine AW_r rfl rfl fun K hK => ?_
 simp [DtInst.cells, DtId.cells, DtCmd.cells, zch]
 repeat' first | (refine ⟨by omega, ?_⟩) | (intro _)
 refine hK _ ?_; clear hK K
 refine zbt (zb4 ?_)
 simp [DtInst.cells, DtId.cells, DtCmd.cells, zch]
 all_goals (rw [Bool.eq_iff_iff, zbf, zgw]; simp)
theorem zmy {F : FuncId} {id : DtId} {p : DtInst → Bool} (xs : List DtInst) (hn : xs.length ≤ 1048576) (hf : ∀ x, GCall Try.prog F [.agg (DtInst.cells x), .ptr 0 0] [DtId.cells id] [] (.g (.bool (p x))) []) : GCall Try.prog 80 [.sl 16 (xs.map DtInst.cells), .fn F [] [.ptr 0 0]] [DtId.cells id] [] (.g (.int .i64 (idxZ p xs))) [] := by
 refine zbq Try.func80 (by rfl) (by rfl) (by rw [Try.ntmps80]; exact Nat.le_of_ble_eq_true rfl) rfl (by decide) ?_
 rw [Try.ntmps80]
 refine AW_k [(0, _), (1, _)] ⟨rfl, rfl, trivial⟩ ?_
 refine AW_r rfl rfl fun K hK => ?_
 simp (disch := omega) [zbc, gE, tP, DtInst.cells, DtId.cells, DtCmd.cells]
 repeat' first | (refine zhf 0 (.inr rfl) (zcw (DtId.cells id) rfl) (zbg (zb6 rfl) (zbg zfk zbn)) (hf _) rfl ?_; try simp (disch := omega) [zbc, gE, tP, DtInst.cells, DtId.cells, DtCmd.cells]) | (refine ⟨by omega, ?_⟩) | (intro _)
 refine hK _ ?_; clear hK K
 refine zbo ?_
 refine AW_r rfl rfl fun K hK => ?_
 simp (disch := omega) [zbc, gE, tP, DtInst.cells, DtId.cells, DtCmd.cells]
 repeat' first | (refine zhf 0 (.inr rfl) (zcw (DtId.cells id) rfl) (zbg (zb6 rfl) (zbg zfk zbn)) (hf _) rfl ?_; try simp (disch := omega) [zbc, gE, tP, DtInst.cells, DtId.cells, DtCmd.cells]) | (refine ⟨by omega, ?_⟩) | (intro _)
 refine hK _ ?_; clear hK K
 refine zbw ?_
 refine zcb (fun mM sS => ∃ (i : Nat), mM = xs.length - i ∧ (i ≤ xs.length ∧ ∀ j x, j < i → xs[j]? = some x → p x = false) ∧ sS = { env := lkE [(0, .sl 16 (xs.map DtInst.cells)), (1, .fn F [] [.ptr 0 0]), (6, .sl 16 (xs.map DtInst.cells)), (7, (.g (.int .i64 ((xs.length : Nat))))), (8, (.g (.int .i64 ((i : Nat)))))], ob := formOb [DtId.cells id] [] }) ?_ ?_
 ·refine ⟨_, LeS.kp [(0, .sl 16 (xs.map DtInst.cells)), (1, .fn F [] [.ptr 0 0]), (6, .sl 16 (xs.map DtInst.cells)), (7, (.g (.int .i64 ((xs.length : Nat))))), (8, (.g (.int .i64 (((0) : Nat)))))] (by simp [KpE, zbl, zbz, zbj]; try rfl), _, 0, rfl, ?_, rfl⟩
  ·simp
 ·rintro mM sS ⟨i, rfl, ⟨hi, hpre⟩, rfl⟩
  refine AW_r rfl rfl fun K hK => ?_
  simp (disch := omega) [zbc, gE, tP, DtInst.cells, DtId.cells, DtCmd.cells]
  repeat' first | (refine zhf 0 (.inr rfl) (zcw (DtId.cells id) rfl) (zbg (zb6 rfl) (zbg zfk zbn)) (hf _) rfl ?_; try simp (disch := omega) [zbc, gE, tP, DtInst.cells, DtId.cells, DtCmd.cells]) | (refine ⟨by omega, ?_⟩) | (intro _)
  refine hK _ ?_; clear hK K
  refine zbo ?_
  refine zbr rfl (fun hc1 => ?_) (fun hc1 => ?_)
  ·try simp [zba, zbb, zbf, zbe, zbm, zbp] at hc1
   all_goals
    have hg : xs[i]? = some (xs[i]) := List.getElem?_eq_getElem (by omega)
    refine zbs ?_
    refine zbx ?_
    refine zbo ?_
    refine zbw ?_
    refine AW_r rfl rfl fun K hK => ?_
    simp (disch := omega) [zbc, gE, tP, DtInst.cells, DtId.cells, DtCmd.cells]
    repeat' first | (exfalso; omega) | (refine zhf 0 (.inr rfl) (zcw (DtId.cells id) rfl) (zbg (zb6 rfl) (zbg zfk zbn)) (hf _) rfl ?_; try simp (disch := omega) [zbc, gE, tP, DtInst.cells, DtId.cells, DtCmd.cells]) | (refine ⟨fun _ => ?_, fun _ => ?_⟩) | (refine ⟨by omega, ?_⟩) | (intro _)
    all_goals (refine hK _ ?_; clear hK K)
    all_goals
     refine AW_r rfl rfl fun K hK => ?_
     simp (disch := omega) [zbc, gE, tP, DtInst.cells, DtId.cells, DtCmd.cells]
     repeat' first | (refine zhf 0 (.inr rfl) (zcw (DtId.cells id) rfl) (zbg (zb6 rfl) (zbg zfk zbn)) (hf _) rfl ?_; try simp (disch := omega) [zbc, gE, tP, DtInst.cells, DtId.cells, DtCmd.cells]) | (refine ⟨by omega, ?_⟩) | (intro _)
     refine hK _ ?_; clear hK K
     refine zbr rfl (fun hc2 => ?_) (fun hc2 => ?_)
     ·try simp [zba, zbb, zbf, zbe, zbm, zbp] at hc2
      all_goals
       refine AW_r rfl rfl fun K hK => ?_
       simp (disch := omega) [zbc, gE, tP, DtInst.cells, DtId.cells, DtCmd.cells]
       repeat' first | (exfalso; omega) | (refine zhf 0 (.inr rfl) (zcw (DtId.cells id) rfl) (zbg (zb6 rfl) (zbg zfk zbn)) (hf _) rfl ?_; try simp (disch := omega) [zbc, gE, tP, DtInst.cells, DtId.cells, DtCmd.cells]) | (refine ⟨fun _ => ?_, fun _ => ?_⟩) | (refine ⟨by omega, ?_⟩) | (intro _)
       all_goals (refine hK _ ?_; clear hK K)
       all_goals
        refine zbt (zb4 ?_)
        simp (disch := omega) [zbc, gE, tP, DtInst.cells, DtId.cells, DtCmd.cells]
        all_goals first | (exact zd4 (by assumption) (by assumption) hpre) | (exact zfw (fun j x h => hpre j x (by omega)))
     ·try simp [zba, zbb, zbf, zbe, zbm, zbp] at hc2
      all_goals
       refine zbs ?_
       refine zbx ?_
       refine zc6 rfl rfl fun K hK => ?_
       simp (disch := omega) [zbc, gE, tP, DtInst.cells, DtId.cells, DtCmd.cells]
       repeat' first | (exfalso; omega) | (refine zhf 0 (.inr rfl) (zcw (DtId.cells id) rfl) (zbg (zb6 rfl) (zbg zfk zbn)) (hf _) rfl ?_; try simp (disch := omega) [zbc, gE, tP, DtInst.cells, DtId.cells, DtCmd.cells]) | (refine ⟨fun _ => ?_, fun _ => ?_⟩) | (refine ⟨by omega, ?_⟩) | (intro _)
       all_goals (refine hK _ ?_; clear hK K)
       all_goals
        refine ⟨_, LeS.kp [(0, .sl 16 (xs.map DtInst.cells)), (1, .fn F [] [.ptr 0 0]), (6, .sl 16 (xs.map DtInst.cells)), (7, (.g (.int .i64 ((xs.length : Nat))))), (8, (.g (.int .i64 (((i + 1) : Nat)))))] (by simp [KpE, zbl, zbz, zbj]; try rfl), _, ?_, i + 1, rfl, ?_, rfl⟩
        ·omega
        ·refine ⟨by omega, ?_⟩; grind
  ·try simp [zba, zbb, zbf, zbe, zbm, zbp] at hc1
   all_goals
    refine zce ?_
    refine zbx ?_
    refine AW_r rfl rfl fun K hK => ?_
    simp (disch := omega) [zbc, gE, tP, DtInst.cells, DtId.cells, DtCmd.cells]
    repeat' first | (exfalso; omega) | (refine zhf 0 (.inr rfl) (zcw (DtId.cells id) rfl) (zbg (zb6 rfl) (zbg zfk zbn)) (hf _) rfl ?_; try simp (disch := omega) [zbc, gE, tP, DtInst.cells, DtId.cells, DtCmd.cells]) | (refine ⟨fun _ => ?_, fun _ => ?_⟩) | (refine ⟨by omega, ?_⟩) | (intro _)
    all_goals (refine hK _ ?_; clear hK K)
    all_goals
     refine zbt (zb4 ?_)
     simp (disch := omega) [zbc, gE, tP, DtInst.cells, DtId.cells, DtCmd.cells]
     all_goals first | (exact zd4 (by assumption) (by assumption) hpre) | (exact zfw (fun j x h => hpre j x (by omega)))
noncomputable def iAt (l : List DtInst) (id : DtId) : Int := idxZ (fun x => eqB x.fId id) l
theorem zl0 (l : List DtInst) (id : DtId) (hn : l.length ≤ 1048576) : PCall Try.prog 61 [.sl 16 (l.map DtInst.cells), .agg (DtId.cells id)] (.g (.int .i64 (iAt l id))) := by
 refine zbq Try.func61 (by rfl) (by rfl) (by rw [Try.ntmps61]; exact Nat.le_of_ble_eq_true rfl) rfl (by decide) ?_
 rw [Try.ntmps61]
 refine AW_k [(0, _), (1, _)] ⟨rfl, rfl, trivial⟩ ?_
 refine AW_r rfl rfl fun K hK => ?_
 simp [DtInst.cells, DtId.cells, DtCmd.cells]
 repeat' first | (refine ⟨by omega, ?_⟩) | (intro _)
 refine hK _ ?_; clear hK K
 refine AW_r rfl rfl fun K hK => ?_
 simp [DtInst.cells, DtId.cells, DtCmd.cells]
 repeat' first | (refine zhf 64 (.inl rfl) (zcw (DtId.cells id) rfl) (zbg zb9 (zbg am2_fn0 zbn)) (zmy _ hn (fun x => inst1 x id)) rfl ?_; simp [DtInst.cells, DtId.cells, DtCmd.cells]) | (refine ⟨by omega, ?_⟩) | (intro _)
 refine hK _ ?_; clear hK K
 refine zbt (zb4 ?_)
 simp [DtInst.cells, DtId.cells, DtCmd.cells, iAt]
 all_goals first | omega | (simp_all; done) | (simp [List.take_of_length_le]; done) | ((try simp_all); (try simp (disch := omega) only [zbc, Int.tdiv_eq_ediv_of_nonneg, Int.tmod_eq_emod_of_nonneg, and_true, true_and]); done) | ((try simp_all); (try simp (disch := omega) only [zbc, Int.tdiv_eq_ediv_of_nonneg, Int.tmod_eq_emod_of_nonneg, and_true, true_and] at *); omega)
theorem zr7 (l : List DtInst) (id : DtId) : (∃ i, ∃ h : i < l.length, iAt l id = i ∧ instAt l id = l[i]) ∨ (iAt l id = -1 ∧ instAt l id = zeroInst id) := by
 unfold iAt idxZ instAt
 cases h : l.findIdx? (fun x => eqB x.fId id) with
 | none =>
  refine .inr ⟨rfl, ?_⟩
  rw [List.findIdx?_eq_none_iff] at h
  have : l.find? (fun x => eqB x.fId id) = none := List.find?_eq_none.2 fun x hx => by simp [h x hx]
  rw [this]; rfl
 | some i =>
  obtain ⟨h1, h2, h3⟩ := List.findIdx?_eq_some_iff_getElem.1 h
  refine .inl ⟨i, h1, rfl, ?_⟩
  have : l.find? (fun x => eqB x.fId id) = some l[i] := by
   rw [List.find?_eq_some_iff_getElem]
   exact ⟨h2, i, h1, rfl, fun j hj => by simpa using h3 j hj⟩
  rw [this]; rfl
theorem zgq (l : List DtInst) (id : DtId) (hn : l.length ≤ 1048576) (hm : ∀ x ∈ l, InstSm x) : PCall Try.prog 42 [.sl 16 (l.map DtInst.cells), .agg (DtId.cells id)] (.agg (DtInst.cells (instAt l id))) := by
 rcases zr7 l id with ⟨i, hi, h1, h2⟩ | ⟨h1, h2⟩
 ·have hx := hm _ (List.getElem_mem hi)
  have hx1 := hx.1
  have hx2 := hx.2.1
  refine zbq Try.func42 (by rfl) (by rfl) (by rw [Try.ntmps42]; exact Nat.le_of_ble_eq_true rfl) rfl (by decide) ?_
  rw [Try.ntmps42]
  refine AW_k [(0, _), (1, _)] ⟨rfl, rfl, trivial⟩ ?_
  refine AW_r rfl rfl fun K hK => ?_
  simp (disch := omega) [zbc, gE, tP, DtInst.cells, DtCmd.cells, DtId.cells, h1, h2]
  repeat' first | (refine ⟨by omega, ?_⟩) | (intro _)
  refine hK _ ?_; clear hK K
  refine zbo ?_
  refine AW_r rfl rfl fun K hK => ?_
  simp (disch := omega) [zbc, gE, tP, DtInst.cells, DtCmd.cells, DtId.cells, h1, h2]
  repeat' first | (exfalso; omega) | (refine zcj (zbg zb9 (zbg (zb6 rfl) zbn)) (zl0 _ _ (by assumption)) rfl ?_; simp (disch := omega) [zbc, gE, tP, DtInst.cells, DtCmd.cells, DtId.cells, h1, h2]) | (refine ⟨by omega, ?_⟩) | (intro _)
  refine hK _ ?_; clear hK K
  refine AW_r rfl rfl fun K hK => ?_
  simp (disch := omega) [zbc, gE, tP, DtInst.cells, DtCmd.cells, DtId.cells, h1, h2]
  repeat' first | (refine ⟨by omega, ?_⟩) | (intro _)
  refine hK _ ?_; clear hK K
  refine zbr rfl (fun hc3 => ?_) (fun hc3 => ?_)
  ·try simp [zba, zbb, zbf, zbe, zbm, zbp] at hc3
   all_goals
    refine AW_r rfl rfl fun K hK => ?_
    simp (disch := omega) [zbc, gE, tP, DtInst.cells, DtCmd.cells, DtId.cells, h1, h2]
    repeat' first | (exfalso; omega) | (refine zcj (zbg (zb6 rfl) zbn) (zr6 _ (by assumption) (by assumption)) rfl ?_; simp (disch := omega) [zbc, gE, tP, DtInst.cells, DtCmd.cells, DtId.cells, h1, h2]) | (refine ⟨fun _ => ?_, fun _ => ?_⟩) | (refine ⟨by omega, ?_⟩) | (intro _)
    all_goals (refine hK _ ?_; clear hK K)
    all_goals
     refine zbt (zb4 ?_)
     simp (disch := omega) [zbc, gE, tP, DtInst.cells, DtCmd.cells, DtId.cells, h1, h2]
     all_goals simp
  ·try simp [zba, zbb, zbf, zbe, zbm, zbp] at hc3
   all_goals
    refine zbs ?_
    refine zbx ?_
    refine AW_r rfl rfl fun K hK => ?_
    simp (disch := omega) [zbc, gE, tP, DtInst.cells, DtCmd.cells, DtId.cells, h1, h2]
    repeat' first | (exfalso; omega) | (refine ⟨fun _ => ?_, fun _ => ?_⟩) | (refine ⟨by omega, ?_⟩) | (intro _)
    all_goals (refine hK _ ?_; clear hK K)
    all_goals
     refine zbt (zb4 ?_)
     simp (disch := omega) [zbc, gE, tP, DtInst.cells, DtCmd.cells, DtId.cells, h1, h2]
     all_goals simp
 ·have e0 := h1
  refine zbq Try.func42 (by rfl) (by rfl) (by rw [Try.ntmps42]; exact Nat.le_of_ble_eq_true rfl) rfl (by decide) ?_
  rw [Try.ntmps42]
  refine AW_k [(0, _), (1, _)] ⟨rfl, rfl, trivial⟩ ?_
  refine AW_r rfl rfl fun K hK => ?_
  simp (disch := omega) [zbc, gE, tP, DtInst.cells, DtCmd.cells, DtId.cells, h1, h2, zeroInst, zeroCmd]
  repeat' first | (refine ⟨by omega, ?_⟩) | (intro _)
  refine hK _ ?_; clear hK K
  refine zbo ?_
  refine AW_r rfl rfl fun K hK => ?_
  simp (disch := omega) [zbc, gE, tP, DtInst.cells, DtCmd.cells, DtId.cells, h1, h2, zeroInst, zeroCmd]
  repeat' first | (exfalso; omega) | (refine zcj (zbg zb9 (zbg (zb6 rfl) zbn)) (zl0 _ _ (by assumption)) rfl ?_; simp (disch := omega) [zbc, gE, tP, DtInst.cells, DtCmd.cells, DtId.cells, h1, h2, zeroInst, zeroCmd]) | (refine ⟨by omega, ?_⟩) | (intro _)
  refine hK _ ?_; clear hK K
  refine AW_r rfl rfl fun K hK => ?_
  simp (disch := omega) [zbc, gE, tP, DtInst.cells, DtCmd.cells, DtId.cells, h1, h2, zeroInst, zeroCmd]
  repeat' first | (refine ⟨by omega, ?_⟩) | (intro _)
  refine hK _ ?_; clear hK K
  refine zbr rfl (fun hc4 => ?_) (fun hc4 => ?_)
  ·try simp [zba, zbb, zbf, zbe, zbm, zbp] at hc4
   all_goals
    refine AW_r rfl rfl fun K hK => ?_
    simp (disch := omega) [zbc, gE, tP, DtInst.cells, DtCmd.cells, DtId.cells, h1, h2, zeroInst, zeroCmd]
    repeat' first | (exfalso; omega) | (refine zcj (zbg (zb6 rfl) zbn) (zr6 _ (by assumption) (by assumption)) rfl ?_; simp (disch := omega) [zbc, gE, tP, DtInst.cells, DtCmd.cells, DtId.cells, h1, h2, zeroInst, zeroCmd]) | (refine ⟨fun _ => ?_, fun _ => ?_⟩) | (refine ⟨by omega, ?_⟩) | (intro _)
    all_goals (refine hK _ ?_; clear hK K)
    all_goals
     refine zbt (zb4 ?_)
     simp (disch := omega) [zbc, gE, tP, DtInst.cells, DtCmd.cells, DtId.cells, h1, h2, zeroInst, zeroCmd]
     all_goals simp
  ·try simp [zba, zbb, zbf, zbe, zbm, zbp] at hc4
   all_goals
    refine zbs ?_
    refine zbx ?_
    refine AW_r rfl rfl fun K hK => ?_
    simp (disch := omega) [zbc, gE, tP, DtInst.cells, DtCmd.cells, DtId.cells, h1, h2, zeroInst, zeroCmd]
    repeat' first | (exfalso; omega) | (refine ⟨fun _ => ?_, fun _ => ?_⟩) | (refine ⟨by omega, ?_⟩) | (intro _)
    all_goals (refine hK _ ?_; clear hK K)
    all_goals
     refine zbt (zb4 ?_)
     simp (disch := omega) [zbc, gE, tP, DtInst.cells, DtCmd.cells, DtId.cells, h1, h2, zeroInst, zeroCmd]
     all_goals simp
end Go.Proofs.Ytfbmhgiokfpgiaa.Vs
