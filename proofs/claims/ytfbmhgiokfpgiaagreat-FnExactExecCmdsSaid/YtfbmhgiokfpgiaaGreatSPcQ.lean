import Derived.Test.YtfbmhgiokfpgiaaGreatSPbQ
import Derived.Test.YtfbmhgiokfpgiaaGreatSPaV
import Derived.Test.YtfbmhgiokfpgiaaGreatSRcQ
open Go Go.Proofs Go.Proofs.YtfbmhgiokfpgiaaGreat.Vs
namespace Go.Proofs.YtfbmhgiokfpgiaaGreat.Vs
set_option linter.all false
set_option linter.unusedSimpArgs false
set_option linter.unusedVariables false
set_option maxRecDepth 100000
/-! is a part free? -/
theorem zn0 (l : List DtInst) (p t : List DtId) (hn : l.length ≤ 1048576) (hm : ∀ x ∈ l, InstSm x) (hp : InstsP l) (hs3 : ∀ x ∈ p, (instAt l x).fStatus = 3) (hpn : p.length ≤ 1048576) (htn : t.length ≤ 1048576) : PCall Tryz.prog 54 [.sl 16 (l.map DtInst.cells), .sl 2 (p.map DtId.cells), .sl 2 (t.map DtId.cells)] (.g (.bool (decB (FreeP l p t)))) := by
 refine zbz Tryz.func54 (by rfl) (by rfl) (by rw [Tryz.ntmps54]; exact Nat.le_of_ble_eq_true rfl) rfl (by decide) ?_
 rw [Tryz.ntmps54]
 refine AW_k [(0, _), (1, _), (2, _)] ⟨rfl, rfl, rfl, trivial⟩ ?_
 refine AW_r rfl rfl fun K hK => ?_
 simp (disch := omega) [zbd, gE, tP, DtInst.cells, DtCmd.cells, DtId.cells]
 repeat' first | (refine ⟨by omega, ?_⟩) | (intro _)
 refine hK _ ?_; clear hK K
 refine zbr ?_
 refine AW_r rfl rfl fun K hK => ?_
 simp (disch := omega) [zbd, gE, tP, DtInst.cells, DtCmd.cells, DtId.cells]
 repeat' first | (refine ⟨by omega, ?_⟩) | (intro _)
 refine hK _ ?_; clear hK K
 refine zb0 ?_
 refine zcf (fun mM sS => ∃ (i : Nat), mM = p.length - i ∧ (i ≤ p.length ∧ ∀ (j : Nat) x, j < i → p[j]? = some x → ∀ d ∈ depsL l x, d ∈ p ∨ d ∈ t) ∧ sS = { env := lkE [(0, .sl 16 (l.map DtInst.cells)), (1, .sl 2 (p.map DtId.cells)), (2, .sl 2 (t.map DtId.cells)), (11, .sl 2 (p.map DtId.cells)), (12, (.g (.int .i64 ((p.length : Nat))))), (13, (.g (.int .i64 ((i : Nat)))))], ob := lk [] }) ?_ ?_
 ·refine ⟨_, LeS.ko [(0, .sl 16 (l.map DtInst.cells)), (1, .sl 2 (p.map DtId.cells)), (2, .sl 2 (t.map DtId.cells)), (11, .sl 2 (p.map DtId.cells)), (12, (.g (.int .i64 ((p.length : Nat))))), (13, (.g (.int .i64 (((0) : Nat)))))] [] (by simp [KpE, zbl, zb5, zbi, DtId.cells]; try rfl) (by simp [KpO, zbl, zbi, zbp, zcj, DtId.cells]; try rfl) (by rfl) (by simp) (by rfl), _, 0, rfl, ?_, rfl⟩
  ·simp
 ·rintro mM sS ⟨i, rfl, ⟨hi, hpre⟩, rfl⟩
  refine AW_r rfl rfl fun K hK => ?_
  simp (disch := omega) [zbd, gE, tP, DtInst.cells, DtCmd.cells, DtId.cells]
  repeat' first | (refine ⟨by omega, ?_⟩) | (intro _)
  refine hK _ ?_; clear hK K
  refine zbr ?_
  refine zbu rfl (fun hc1 => ?_) (fun hc1 => ?_)
  ·try simp [zbc, zbb, zbg, zbf, zbq, zbt] at hc1
   all_goals
    have hst := hs3 p[i] (List.getElem_mem _)
    have hdl : depsL l p[i] = (instAt l p[i]).fDeps := zjp hst
    have hdn := zcy hp p[i]
    have hgp : p[i]? = some p[i] := List.getElem?_eq_getElem (by omega)
    rw [hdl] at hdn
    refine zbv ?_
    refine zb4 ?_
    refine zbr ?_
    refine zb0 ?_
    refine AW_r rfl rfl fun K hK => ?_
    simp (disch := omega) [zbd, gE, tP, DtInst.cells, DtCmd.cells, DtId.cells]
    repeat' first | (exfalso; omega) | (refine ⟨fun _ => ?_, fun _ => ?_⟩) | (refine ⟨by omega, ?_⟩) | (intro _)
    all_goals (refine hK _ ?_; clear hK K)
    all_goals
     refine AW_r rfl rfl fun K hK => ?_
     simp (disch := omega) [zbd, gE, tP, DtInst.cells, DtCmd.cells, DtId.cells]
     repeat' first | (exfalso; omega) | (refine zco (zbh zce (zbh (zcb rfl) zbs)) (zfw _ _ (by assumption) (by assumption)) rfl ?_; simp (disch := omega) [zbd, gE, tP, DtInst.cells, DtCmd.cells, DtId.cells]) | (refine ⟨by omega, ?_⟩) | (intro _)
     refine hK _ ?_; clear hK K
     refine zb0 ?_
     refine zcf (fun mM sS => ∃ (k : Nat), mM = (instAt l p[i]).fDeps.length - k ∧ (k ≤ (instAt l p[i]).fDeps.length ∧ ∀ (j : Nat) d, j < k → (instAt l p[i]).fDeps[j]? = some d → d ∈ p ∨ d ∈ t) ∧ sS = { env := lkE [(0, .sl 16 (l.map DtInst.cells)), (1, .sl 2 (p.map DtId.cells)), (2, .sl 2 (t.map DtId.cells)), (11, .sl 2 (p.map DtId.cells)), (12, (.g (.int .i64 ((p.length : Nat))))), (13, (.g (.int .i64 ((i : Nat))))), (20, .sl 2 ((instAt l p[i]).fDeps.map DtId.cells)), (21, (.g (.int .i64 (((instAt l p[i]).fDeps.length : Nat))))), (22, (.g (.int .i64 ((k : Nat)))))], ob := lk [] }) ?_ ?_
     ·refine ⟨_, LeS.ko [(0, .sl 16 (l.map DtInst.cells)), (1, .sl 2 (p.map DtId.cells)), (2, .sl 2 (t.map DtId.cells)), (11, .sl 2 (p.map DtId.cells)), (12, (.g (.int .i64 ((p.length : Nat))))), (13, (.g (.int .i64 ((i : Nat))))), (20, .sl 2 ((instAt l p[i]).fDeps.map DtId.cells)), (21, (.g (.int .i64 (((instAt l p[i]).fDeps.length : Nat))))), (22, (.g (.int .i64 (((0) : Nat)))))] [] (by simp [KpE, zbl, zb5, zbi, DtId.cells]; try rfl) (by simp [KpO, zbl, zbi, zbp, zcj, DtId.cells]; try rfl) (by rfl) (by simp) (by rfl), _, 0, rfl, ?_, rfl⟩
      ·simp
     ·rintro mM sS ⟨k, rfl, ⟨hk, hin⟩, rfl⟩
      refine AW_r rfl rfl fun K hK => ?_
      simp (disch := omega) [zbd, gE, tP, DtInst.cells, DtCmd.cells, DtId.cells]
      repeat' first | (refine ⟨by omega, ?_⟩) | (intro _)
      refine hK _ ?_; clear hK K
      refine zbr ?_
      refine zbu rfl (fun hc2 => ?_) (fun hc2 => ?_)
      ·try simp [zbc, zbb, zbg, zbf, zbq, zbt] at hc2
       all_goals
        have hgd : (instAt l p[i]).fDeps[k]? = some (instAt l p[i]).fDeps[k] := List.getElem?_eq_getElem (by omega)
        refine zbv ?_
        refine zb4 ?_
        refine zbr ?_
        refine zb0 ?_
        refine AW_r rfl rfl fun K hK => ?_
        simp (disch := omega) [zbd, gE, tP, DtInst.cells, DtCmd.cells, DtId.cells]
        repeat' first | (exfalso; omega) | (refine ⟨fun _ => ?_, fun _ => ?_⟩) | (refine ⟨by omega, ?_⟩) | (intro _)
        all_goals (refine hK _ ?_; clear hK K)
        all_goals
         refine AW_r rfl rfl fun K hK => ?_
         simp (disch := omega) [zbd, gE, tP, DtInst.cells, DtCmd.cells, DtId.cells]
         repeat' first | (exfalso; omega) | (refine zco (zbh zce (zbh (zcb rfl) zbs)) (zd2 _ _ (by omega)) rfl ?_; simp (disch := omega) [zbd, gE, tP, DtInst.cells, DtCmd.cells, DtId.cells]) | (refine ⟨fun _ => ?_, fun _ => ?_⟩) | (refine ⟨by omega, ?_⟩) | (intro _)
         all_goals (refine hK _ ?_; clear hK K)
         all_goals
          refine zbu rfl (fun hc3 => ?_) (fun hc3 => ?_)
          ·try simp [zbc, zbb, zbg, zbf, zbq, zbt] at hc3
           all_goals
            refine AW_r rfl rfl fun K hK => ?_
            simp (disch := omega) [zbd, gE, tP, DtInst.cells, DtCmd.cells, DtId.cells]
            repeat' first | (exfalso; omega) | (refine ⟨fun _ => ?_, fun _ => ?_⟩) | (refine ⟨by omega, ?_⟩) | (intro _)
            all_goals (refine hK _ ?_; clear hK K)
            all_goals
             refine zby (zcd ?_)
             simp (disch := omega) [zbd, gE, tP, DtInst.cells, DtCmd.cells, DtId.cells]
             all_goals first | (refine zcu fun x hx => ?_; obtain ⟨j, hj⟩ := List.getElem?_of_mem hx; exact hpre j x (by have := (List.getElem?_eq_some_iff.1 hj).1; omega) hj) | (refine zc4 fun hmay => ?_; have := hmay p[i] (List.getElem_mem _) (instAt l p[i]).fDeps[k] (by rw [hdl]; exact List.getElem_mem _); simp only [zbc, zbb] at *; grind) | trace_state
          ·try simp [zbc, zbb, zbg, zbf, zbq, zbt] at hc3
           all_goals
            refine zbv ?_
            refine zb4 ?_
            refine zdi rfl rfl fun K hK => ?_
            simp (disch := omega) [zbd, gE, tP, DtInst.cells, DtCmd.cells, DtId.cells]
            repeat' first | (exfalso; omega) | (refine ⟨fun _ => ?_, fun _ => ?_⟩) | (refine ⟨by omega, ?_⟩) | (intro _)
            all_goals (refine hK _ ?_; clear hK K)
            all_goals
             refine ⟨_, LeS.ko [(0, .sl 16 (l.map DtInst.cells)), (1, .sl 2 (p.map DtId.cells)), (2, .sl 2 (t.map DtId.cells)), (11, .sl 2 (p.map DtId.cells)), (12, (.g (.int .i64 ((p.length : Nat))))), (13, (.g (.int .i64 ((i : Nat))))), (20, .sl 2 ((instAt l p[i]).fDeps.map DtId.cells)), (21, (.g (.int .i64 (((instAt l p[i]).fDeps.length : Nat))))), (22, (.g (.int .i64 (((k + 1) : Nat)))))] [] (by simp [KpE, zbl, zb5, zbi, DtId.cells]; try rfl) (by simp [KpO, zbl, zbi, zbp, zcj, DtId.cells]; try rfl) (by rfl) (by simp) (by rfl), _, ?_, k + 1, rfl, ?_, rfl⟩
             ·omega
             ·refine ⟨by omega, fun j d hj hd => ?_⟩; by_cases hjk : j = k
              ·subst hjk; rw [hgd] at hd; cases hd; simp only [zbc, zbb] at *; grind
              ·exact hin j d (by omega) hd
      ·try simp [zbc, zbb, zbg, zbf, zbq, zbt] at hc2
       all_goals
        refine zch ?_
        refine zb4 ?_
        refine zdi rfl rfl fun K hK => ?_
        simp (disch := omega) [zbd, gE, tP, DtInst.cells, DtCmd.cells, DtId.cells]
        repeat' first | (exfalso; omega) | (refine ⟨fun _ => ?_, fun _ => ?_⟩) | (refine ⟨by omega, ?_⟩) | (intro _)
        all_goals (refine hK _ ?_; clear hK K)
        all_goals
         refine ⟨_, LeS.ko [(0, .sl 16 (l.map DtInst.cells)), (1, .sl 2 (p.map DtId.cells)), (2, .sl 2 (t.map DtId.cells)), (11, .sl 2 (p.map DtId.cells)), (12, (.g (.int .i64 ((p.length : Nat))))), (13, (.g (.int .i64 (((i + 1) : Nat)))))] [] (by simp [KpE, zbl, zb5, zbi, DtId.cells]; try rfl) (by simp [KpO, zbl, zbi, zbp, zcj, DtId.cells]; try rfl) (by rfl) (by simp) (by rfl), _, ?_, i + 1, rfl, ?_, rfl⟩
         ·omega
         ·refine ⟨by omega, fun j x hj hx => ?_⟩; by_cases hji : j = i
          ·subst hji; rw [hgp] at hx; cases hx; rw [hdl]; intro d hd; obtain ⟨m, hm2⟩ := List.getElem?_of_mem hd; exact hin m d (by have := (List.getElem?_eq_some_iff.1 hm2).1; omega) hm2
          ·exact hpre j x (by omega) hx
  ·try simp [zbc, zbb, zbg, zbf, zbq, zbt] at hc1
   all_goals
    refine zch ?_
    refine zb4 ?_
    refine AW_r rfl rfl fun K hK => ?_
    simp (disch := omega) [zbd, gE, tP, DtInst.cells, DtCmd.cells, DtId.cells]
    repeat' first | (exfalso; omega) | (refine ⟨fun _ => ?_, fun _ => ?_⟩) | (refine ⟨by omega, ?_⟩) | (intro _)
    all_goals (refine hK _ ?_; clear hK K)
    all_goals
     refine zby (zcd ?_)
     simp (disch := omega) [zbd, gE, tP, DtInst.cells, DtCmd.cells, DtId.cells]
     all_goals first | (refine zcu fun x hx => ?_; obtain ⟨j, hj⟩ := List.getElem?_of_mem hx; exact hpre j x (by have := (List.getElem?_eq_some_iff.1 hj).1; omega) hj) | (refine zc4 fun hmay => ?_; have := hmay p[i] (List.getElem_mem _) (instAt l p[i]).fDeps[k] (by rw [hdl]; exact List.getElem_mem _); simp only [zbc, zbb] at *; grind) | trace_state
theorem l12May (l : List DtInst) (p t : List DtId) (hn : l.length ≤ 1048576) (hp : InstsP l) (hpn : p.length ≤ 1048576) (htn : t.length ≤ 1048576) : PCall Tryz.prog 43 [.sl 16 (l.map DtInst.cells), .sl 2 (p.map DtId.cells), .sl 2 (t.map DtId.cells)] (.g (.bool (decB (FreeP l p t)))) := by
 refine zbz Tryz.func43 (by rfl) (by rfl) (by rw [Tryz.ntmps43]; exact Nat.le_of_ble_eq_true rfl) rfl (by decide) ?_
 rw [Tryz.ntmps43]
 refine AW_k [(0, _), (1, _), (2, _)] ⟨rfl, rfl, rfl, trivial⟩ ?_
 refine AW_r rfl rfl fun K hK => ?_
 simp (disch := omega) [zbd, gE, tP, DtInst.cells, DtCmd.cells, DtId.cells]
 repeat' first | (refine ⟨by omega, ?_⟩) | (intro _)
 refine hK _ ?_; clear hK K
 refine zbr ?_
 refine AW_r rfl rfl fun K hK => ?_
 simp (disch := omega) [zbd, gE, tP, DtInst.cells, DtCmd.cells, DtId.cells]
 repeat' first | (refine ⟨by omega, ?_⟩) | (intro _)
 refine hK _ ?_; clear hK K
 refine zb0 ?_
 refine zcf (fun mM sS => ∃ (i : Nat), mM = p.length - i ∧ (i ≤ p.length ∧ ∀ (j : Nat) x, j < i → p[j]? = some x → ∀ d ∈ depsL l x, d ∈ p ∨ d ∈ t) ∧ sS = { env := lkE [(0, .sl 16 (l.map DtInst.cells)), (1, .sl 2 (p.map DtId.cells)), (2, .sl 2 (t.map DtId.cells)), (7, (.g (.int .i64 ((i : Nat)))))], ob := lk [] }) ?_ ?_
 ·refine ⟨_, LeS.ko [(0, .sl 16 (l.map DtInst.cells)), (1, .sl 2 (p.map DtId.cells)), (2, .sl 2 (t.map DtId.cells)), (7, (.g (.int .i64 (((0) : Nat)))))] [] (by simp [KpE, zbl, zb5, zbi, DtId.cells]; try rfl) (by simp [KpO, zbl, zbi, zbp, zcj, DtId.cells]; try rfl) (by rfl) (by simp) (by rfl), _, 0, rfl, ?_, rfl⟩
  ·simp
 ·rintro mM sS ⟨i, rfl, ⟨hi, hpre⟩, rfl⟩
  refine zbr ?_
  refine AW_r rfl rfl fun K hK => ?_
  simp (disch := omega) [zbd, gE, tP, DtInst.cells, DtCmd.cells, DtId.cells]
  repeat' first | (refine ⟨by omega, ?_⟩) | (intro _)
  refine hK _ ?_; clear hK K
  refine zbu rfl (fun hc4 => ?_) (fun hc4 => ?_)
  ·try simp [zbc, zbb, zbg, zbf, zbq, zbt] at hc4
   all_goals
    have hdn := zcy hp p[i]
    have hgp : p[i]? = some p[i] := List.getElem?_eq_getElem (by omega)
    refine zbv ?_
    refine zb4 ?_
    refine zbr ?_
    refine zb0 ?_
    refine AW_r rfl rfl fun K hK => ?_
    simp (disch := omega) [zbd, gE, tP, DtInst.cells, DtCmd.cells, DtId.cells]
    repeat' first | (exfalso; omega) | (refine zco (zbh zce (zbh (zcb rfl) zbs)) (ztt l p[i] (by assumption) (by assumption)) rfl ?_; simp (disch := omega) [zbd, gE, tP, DtInst.cells, DtCmd.cells, DtId.cells]) | (refine ⟨fun _ => ?_, fun _ => ?_⟩) | (refine ⟨by omega, ?_⟩) | (intro _)
    all_goals (refine hK _ ?_; clear hK K)
    all_goals
     refine AW_r rfl rfl fun K hK => ?_
     simp (disch := omega) [zbd, gE, tP, DtInst.cells, DtCmd.cells, DtId.cells]
     repeat' first | (refine ⟨by omega, ?_⟩) | (intro _)
     refine hK _ ?_; clear hK K
     refine zb0 ?_
     refine zcf (fun mM sS => ∃ (k : Nat), mM = (depsL l p[i]).length - k ∧ (k ≤ (depsL l p[i]).length ∧ ∀ (j : Nat) d, j < k → (depsL l p[i])[j]? = some d → d ∈ p ∨ d ∈ t) ∧ sS = { env := lkE [(0, .sl 16 (l.map DtInst.cells)), (1, .sl 2 (p.map DtId.cells)), (2, .sl 2 (t.map DtId.cells)), (7, (.g (.int .i64 ((i : Nat))))), (8, .sl 2 ((depsL l p[i]).map DtId.cells)), (9, (.g (.int .i64 ((k : Nat)))))], ob := lk [] }) ?_ ?_
     ·refine ⟨_, LeS.ko [(0, .sl 16 (l.map DtInst.cells)), (1, .sl 2 (p.map DtId.cells)), (2, .sl 2 (t.map DtId.cells)), (7, (.g (.int .i64 ((i : Nat))))), (8, .sl 2 ((depsL l p[i]).map DtId.cells)), (9, (.g (.int .i64 (((0) : Nat)))))] [] (by simp [KpE, zbl, zb5, zbi, DtId.cells]; try rfl) (by simp [KpO, zbl, zbi, zbp, zcj, DtId.cells]; try rfl) (by rfl) (by simp) (by rfl), _, 0, rfl, ?_, rfl⟩
      ·simp
     ·rintro mM sS ⟨k, rfl, ⟨hk, hin⟩, rfl⟩
      refine zbr ?_
      refine AW_r rfl rfl fun K hK => ?_
      simp (disch := omega) [zbd, gE, tP, DtInst.cells, DtCmd.cells, DtId.cells]
      repeat' first | (refine ⟨by omega, ?_⟩) | (intro _)
      refine hK _ ?_; clear hK K
      refine zbu rfl (fun hc5 => ?_) (fun hc5 => ?_)
      ·try simp [zbc, zbb, zbg, zbf, zbq, zbt] at hc5
       all_goals
        have hgd : (depsL l p[i])[k]? = some (depsL l p[i])[k] := List.getElem?_eq_getElem (by omega)
        refine zbv ?_
        refine zb4 ?_
        refine zbr ?_
        refine zb0 ?_
        refine AW_r rfl rfl fun K hK => ?_
        simp (disch := omega) [zbd, gE, tP, DtInst.cells, DtCmd.cells, DtId.cells]
        repeat' first | (exfalso; omega) | (refine zco (zbh zce (zbh (zcb rfl) zbs)) (zxh _ _ (by omega)) rfl ?_; simp (disch := omega) [zbd, gE, tP, DtInst.cells, DtCmd.cells, DtId.cells]) | (refine ⟨fun _ => ?_, fun _ => ?_⟩) | (refine ⟨by omega, ?_⟩) | (intro _)
        all_goals (refine hK _ ?_; clear hK K)
        all_goals
         refine zbu rfl (fun hc6 => ?_) (fun hc6 => ?_)
         ·try simp [zbc, zbb, zbg, zbf, zbq, zbt] at hc6
          all_goals
           refine AW_r rfl rfl fun K hK => ?_
           simp (disch := omega) [zbd, gE, tP, DtInst.cells, DtCmd.cells, DtId.cells]
           repeat' first | (exfalso; omega) | (refine ⟨fun _ => ?_, fun _ => ?_⟩) | (refine ⟨by omega, ?_⟩) | (intro _)
           all_goals (refine hK _ ?_; clear hK K)
           all_goals
            refine zby (zcd ?_)
            simp (disch := omega) [zbd, gE, tP, DtInst.cells, DtCmd.cells, DtId.cells]
            all_goals first | (refine zcu fun x hx => ?_; obtain ⟨j, hj⟩ := List.getElem?_of_mem hx; exact hpre j x (by have := (List.getElem?_eq_some_iff.1 hj).1; omega) hj) | (refine zc4 fun hmay => ?_; have := hmay p[i] (List.getElem_mem _) (depsL l p[i])[k] (List.getElem_mem _); simp only [zbc, zbb] at *; grind) | trace_state
         ·try simp [zbc, zbb, zbg, zbf, zbq, zbt] at hc6
          all_goals
           refine zbv ?_
           refine zb4 ?_
           refine zdi rfl rfl fun K hK => ?_
           simp (disch := omega) [zbd, gE, tP, DtInst.cells, DtCmd.cells, DtId.cells]
           repeat' first | (exfalso; omega) | (refine ⟨fun _ => ?_, fun _ => ?_⟩) | (refine ⟨by omega, ?_⟩) | (intro _)
           all_goals (refine hK _ ?_; clear hK K)
           all_goals
            refine ⟨_, LeS.ko [(0, .sl 16 (l.map DtInst.cells)), (1, .sl 2 (p.map DtId.cells)), (2, .sl 2 (t.map DtId.cells)), (7, (.g (.int .i64 ((i : Nat))))), (8, .sl 2 ((depsL l p[i]).map DtId.cells)), (9, (.g (.int .i64 (((k + 1) : Nat)))))] [] (by simp [KpE, zbl, zb5, zbi, DtId.cells]; try rfl) (by simp [KpO, zbl, zbi, zbp, zcj, DtId.cells]; try rfl) (by rfl) (by simp) (by rfl), _, ?_, k + 1, rfl, ?_, rfl⟩
            ·omega
            ·refine ⟨by omega, fun j d hj hd => ?_⟩; by_cases hjk : j = k
             ·subst hjk; rw [hgd] at hd; cases hd; simp only [zbc, zbb] at *; grind
             ·exact hin j d (by omega) hd
      ·try simp [zbc, zbb, zbg, zbf, zbq, zbt] at hc5
       all_goals
        refine zch ?_
        refine zb4 ?_
        refine zdi rfl rfl fun K hK => ?_
        simp (disch := omega) [zbd, gE, tP, DtInst.cells, DtCmd.cells, DtId.cells]
        repeat' first | (exfalso; omega) | (refine ⟨fun _ => ?_, fun _ => ?_⟩) | (refine ⟨by omega, ?_⟩) | (intro _)
        all_goals (refine hK _ ?_; clear hK K)
        all_goals
         refine ⟨_, LeS.ko [(0, .sl 16 (l.map DtInst.cells)), (1, .sl 2 (p.map DtId.cells)), (2, .sl 2 (t.map DtId.cells)), (7, (.g (.int .i64 (((i + 1) : Nat)))))] [] (by simp [KpE, zbl, zb5, zbi, DtId.cells]; try rfl) (by simp [KpO, zbl, zbi, zbp, zcj, DtId.cells]; try rfl) (by rfl) (by simp) (by rfl), _, ?_, i + 1, rfl, ?_, rfl⟩
         ·omega
         ·refine ⟨by omega, fun j x hj hx => ?_⟩; by_cases hji : j = i
          ·subst hji; rw [hgp] at hx; cases hx; intro d hd; obtain ⟨m, hm2⟩ := List.getElem?_of_mem hd; exact hin m d (by have := (List.getElem?_eq_some_iff.1 hm2).1; omega) hm2
          ·exact hpre j x (by omega) hx
  ·try simp [zbc, zbb, zbg, zbf, zbq, zbt] at hc4
   all_goals
    refine zch ?_
    refine zb4 ?_
    refine AW_r rfl rfl fun K hK => ?_
    simp (disch := omega) [zbd, gE, tP, DtInst.cells, DtCmd.cells, DtId.cells]
    repeat' first | (exfalso; omega) | (refine ⟨fun _ => ?_, fun _ => ?_⟩) | (refine ⟨by omega, ?_⟩) | (intro _)
    all_goals (refine hK _ ?_; clear hK K)
    all_goals
     refine zby (zcd ?_)
     simp (disch := omega) [zbd, gE, tP, DtInst.cells, DtCmd.cells, DtId.cells]
     all_goals first | (refine zcu fun x hx => ?_; obtain ⟨j, hj⟩ := List.getElem?_of_mem hx; exact hpre j x (by have := (List.getElem?_eq_some_iff.1 hj).1; omega) hj) | (refine zc4 fun hmay => ?_; have := hmay p[i] (List.getElem_mem _) (depsL l p[i])[k] (List.getElem_mem _); simp only [zbc, zbb] at *; grind) | trace_state
/-! a part that is free, as the closure asks it -/
theorem parts2 {ob : Nat → Option OB} {m1 m2 m3 : Nat} (l : List DtInst) (p t : List DtId) (hok : ObOk ob) (h1 : ob m1 = some (.cells [.sl 16 (l.map DtInst.cells)])) (h2 : ob m2 = some (.cells [.arr m3 0 t.length])) (h3 : ob m3 = some (.win 2 (t.map DtId.cells))) (hn : l.length ≤ 1048576) (hm : ∀ x ∈ l, InstSm x) (hp : InstsP l) (hs3 : ∀ x ∈ p, (instAt l x).fStatus = 3) (hpn : p.length ≤ 1048576) (htn : t.length ≤ 1048576) : ∃ fs, INL Tryz.prog 53 fs ob [.sl 2 (p.map DtId.cells), .ptr m1 0, .ptr m2 0] (KQ (.g (.bool (decB (FreeP l p t)))) ob) := by
 refine zmj Tryz.func53 (by rfl) (by rfl) (by rw [Tryz.ntmps53]; exact Nat.le_of_ble_eq_true rfl) (by rfl) (hok) fun fs => ?_
 rw [Tryz.ntmps53]
 refine AW_k [(0, _), (1, _), (2, _)] ⟨rfl, rfl, rfl, trivial⟩ ?_
 refine AW_x rfl rfl fun K hK => ?_
 simp (disch := omega) [zbd, gE, tP, DtId.cells, List.range_succ, zb8, zc1, tupA, noTup, h1, h2, h3, zba, zbe, and_assoc]
 repeat' first | (refine ⟨by omega, ?_⟩) | (intro _)
 refine hK _ ?_; clear hK K
 refine AW_x rfl rfl fun K hK => ?_
 simp (disch := omega) [zbd, gE, tP, DtId.cells, List.range_succ, zb8, zc1, tupA, noTup, h1, h2, h3, zba, zbe, and_assoc]
 repeat' first | (exfalso; omega) | (refine zde (zbh zce (zbh zce (zbh zce zbs))) (zn0 l p t hn hm hp hs3 hpn htn) rfl ?_; simp (disch := omega) [zbd, gE, tP, DtId.cells, List.range_succ, zb8, zc1, tupA, noTup, h1, h2, h3, zba, zbe, and_assoc]) | (refine zdf (zn0 l p t hn hm hp hs3 hpn htn) (by rfl) ?_ ?_; (focus (simp (disch := omega) [zbd, gE, tP, DtId.cells, List.range_succ, zb8, zc1, tupA, noTup, h1, h2, h3, zba, zbe, and_assoc, zba]; done)); simp (disch := omega) [zbd, gE, tP, DtId.cells, List.range_succ, zb8, zc1, tupA, noTup, h1, h2, h3, zba, zbe, and_assoc]) | (refine ⟨by omega, ?_⟩) | (simp (disch := omega) [zbd, gE, tP, DtId.cells, List.range_succ, zb8, zc1, tupA, noTup, h1, h2, h3, zba, zbe, and_assoc]) | (intro _)
 refine hK _ ?_; clear hK K
 refine zby (zmk ?_)
 simp (disch := omega) [zbd, gE, tP, DtId.cells, List.range_succ, zb8, zc1, tupA, noTup, h1, h2, h3, zba, zbe, and_assoc]
 all_goals trace_state
end Go.Proofs.YtfbmhgiokfpgiaaGreat.Vs
