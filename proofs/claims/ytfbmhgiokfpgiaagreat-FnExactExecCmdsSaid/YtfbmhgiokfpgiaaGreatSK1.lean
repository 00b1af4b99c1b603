import Derived.Test.YtfbmhgiokfpgiaaGreatSA1
open Go Go.Proofs Go.Proofs.YtfbmhgiokfpgiaaGreat.Vs
namespace Go.Proofs.YtfbmhgiokfpgiaaGreat.Vs
set_option linter.all false
set_option linter.unusedSimpArgs false
set_option linter.unusedVariables false
set_option maxRecDepth 100000
theorem len0 {α : Type} (l : List α) : ((l.length : Int) = 0) = (l = []) := by rw [eq_iff_iff, ← List.length_eq_zero_iff]; omega
def MayP (s : List UInt8) (must : Bool) : Prop := if must then Word s else s = []
def zeroCmd : DtCmd := ⟨0, 0, 0, [], [], [], 0, []⟩
def CmdP (c : DtCmd) : Prop := (c.fKind = 0 ∧ c = zeroCmd) ∨ (1 ≤ c.fKind ∧ c.fKind ≤ 7 ∧ 1 ≤ c.fClient ∧ c.fClient ≤ 9 ∧ 1 ≤ c.fNo ∧ c.fNo ≤ 1000 ∧ (c.fKind ≠ 7 → Word c.fSet) ∧ (c.fKind = 7 → c.fSet = []) ∧ (c.fKind = 3 ∨ c.fKind = 4 → Word c.fName) ∧ (¬ (c.fKind = 3 ∨ c.fKind = 4) → c.fName = []) ∧ (c.fKind = 4 → Word c.fTag) ∧ (c.fKind ≠ 4 → c.fTag = []) ∧ (c.fN ≠ 0 → c.fKind = 5 ∧ 0 ≤ c.fN ∧ c.fN ≤ 9) ∧ (c.fKind = 3 → 1 ≤ c.fChunks.length ∧ c.fChunks.length ≤ 4 ∧ Ch8 c.fChunks) ∧ (c.fKind ≠ 3 → c.fChunks = []))
theorem l4May (s : List UInt8) (b : Bool) : PCall Tryz.prog 84 [.s s, (.g (.bool (b)))] (.g (.bool (decB (MayP s b)))) := by
 refine zbz Tryz.func84 (by rfl) (by rfl) (by rw [Tryz.ntmps84]; exact Nat.le_of_ble_eq_true rfl) rfl (by decide) ?_
 rw [Tryz.ntmps84]
 refine AW_k [(0, _), (1, _)] ⟨rfl, rfl, trivial⟩ ?_
 refine AW_r rfl rfl fun K hK => ?_
 simp (disch := omega) [zbd, gE, tP]
 repeat' first | (refine ⟨by omega, ?_⟩) | (intro _)
 refine hK _ ?_; clear hK K
 refine zbr ?_
 refine AW_r rfl rfl fun K hK => ?_
 simp (disch := omega) [zbd, gE, tP]
 repeat' first | (refine ⟨by omega, ?_⟩) | (intro _)
 refine hK _ ?_; clear hK K
 refine zbu rfl (fun hc1 => ?_) (fun hc1 => ?_)
 ·try simp at hc1
  all_goals
   refine AW_r rfl rfl fun K hK => ?_
   simp (disch := omega) [zbd, gE, tP]
   repeat' first | (exfalso; omega) | (refine zco (zbh am2_s zbs) (l4Word _) rfl ?_; simp (disch := omega) [zbd, gE, tP]) | (refine ⟨fun _ => ?_, fun _ => ?_⟩) | (refine ⟨by omega, ?_⟩) | (intro _)
   all_goals (refine hK _ ?_; clear hK K)
   all_goals
    refine zby (zcd ?_)
    simp (disch := omega) [zbd, gE, tP]
    all_goals first | (simp_all [MayP]; done) | (rw [Bool.eq_iff_iff]; simp_all [MayP, zbc])
 ·try simp at hc1
  all_goals
   refine zbv ?_
   refine zb4 ?_
   refine AW_r rfl rfl fun K hK => ?_
   simp (disch := omega) [zbd, gE, tP]
   repeat' first | (exfalso; omega) | (refine ⟨fun _ => ?_, fun _ => ?_⟩) | (refine ⟨by omega, ?_⟩) | (intro _)
   all_goals (refine hK _ ?_; clear hK K)
   all_goals
    refine zby (zcd ?_)
    simp (disch := omega) [zbd, gE, tP]
    all_goals first | (simp_all [MayP]; done) | (rw [Bool.eq_iff_iff]; simp_all [MayP, zbc])
theorem wordIf (s : List UInt8) (b : Bool) (hs : s.length ≤ 1048576) : PCall Tryz.prog 86 [.s s, (.g (.bool (b)))] (.g (.bool (decB (MayP s b)))) := by
 refine zbz Tryz.func86 (by rfl) (by rfl) (by rw [Tryz.ntmps86]; exact Nat.le_of_ble_eq_true rfl) rfl (by decide) ?_
 rw [Tryz.ntmps86]
 refine AW_k [(0, _), (1, _)] ⟨rfl, rfl, trivial⟩ ?_
 refine AW_r rfl rfl fun K hK => ?_
 simp (disch := omega) [zbd, gE, tP]
 repeat' first | (refine ⟨by omega, ?_⟩) | (intro _)
 refine hK _ ?_; clear hK K
 refine zbr ?_
 refine AW_r rfl rfl fun K hK => ?_
 simp (disch := omega) [zbd, gE, tP]
 repeat' first | (refine ⟨by omega, ?_⟩) | (intro _)
 refine hK _ ?_; clear hK K
 refine zbu rfl (fun hc2 => ?_) (fun hc2 => ?_)
 ·try simp at hc2
  all_goals
   refine AW_r rfl rfl fun K hK => ?_
   simp (disch := omega) [zbd, gE, tP]
   repeat' first | (exfalso; omega) | (refine zco (zbh am2_s zbs) (isWord _ (by omega)) rfl ?_; simp (disch := omega) [zbd, gE, tP]) | (refine ⟨fun _ => ?_, fun _ => ?_⟩) | (refine ⟨by omega, ?_⟩) | (intro _)
   all_goals (refine hK _ ?_; clear hK K)
   all_goals
    refine zby (zcd ?_)
    simp (disch := omega) [zbd, gE, tP]
    all_goals first | (simp_all [MayP]; done) | (rw [Bool.eq_iff_iff]; simp_all [MayP, zbc])
 ·try simp at hc2
  all_goals
   refine zbv ?_
   refine zb4 ?_
   refine AW_r rfl rfl fun K hK => ?_
   simp (disch := omega) [zbd, gE, tP]
   repeat' first | (exfalso; omega) | (refine ⟨fun _ => ?_, fun _ => ?_⟩) | (refine ⟨by omega, ?_⟩) | (intro _)
   all_goals (refine hK _ ?_; clear hK K)
   all_goals
    refine zby (zcd ?_)
    simp (disch := omega) [zbd, gE, tP]
    all_goals first | (simp_all [MayP]; done) | (rw [Bool.eq_iff_iff]; simp_all [MayP, zbc])
theorem l4Texts (xs ys : List (List UInt8)) (hn : xs.length ≤ 1048576) : PCall Tryz.prog 98 [.sl 1 (xs.map cS), .sl 1 (ys.map cS)] (.g (.bool (eqB xs ys))) := by
 refine zbz Tryz.func98 (by rfl) (by rfl) (by rw [Tryz.ntmps98]; exact Nat.le_of_ble_eq_true rfl) rfl (by decide) ?_
 rw [Tryz.ntmps98]
 refine AW_k [(0, _), (1, _)] ⟨rfl, rfl, trivial⟩ ?_
 refine AW_r rfl rfl fun K hK => ?_
 simp (disch := omega) [zbd, gE, tP]
 repeat' first | (refine ⟨by omega, ?_⟩) | (intro _)
 refine hK _ ?_; clear hK K
 refine zbr ?_
 refine AW_r rfl rfl fun K hK => ?_
 simp (disch := omega) [zbd, gE, tP]
 repeat' first | (refine ⟨by omega, ?_⟩) | (intro _)
 refine hK _ ?_; clear hK K
 refine zbu rfl (fun hc3 => ?_) (fun hc3 => ?_)
 ·try simp at hc3
  all_goals
   refine AW_r rfl rfl fun K hK => ?_
   simp (disch := omega) [zbd, gE, tP]
   repeat' first | (exfalso; omega) | (refine ⟨fun _ => ?_, fun _ => ?_⟩) | (refine ⟨by omega, ?_⟩) | (intro _)
   all_goals (refine hK _ ?_; clear hK K)
   all_goals
    refine zby (zcd ?_)
    simp (disch := omega) [zbd, gE, tP]
    all_goals first | (exact zcl heq) | (refine zci fun heq => ?_; subst heq; simp_all; done)
 ·try simp at hc3
  all_goals
   refine zbv ?_
   refine zb4 ?_
   refine zbr ?_
   refine AW_r rfl rfl fun K hK => ?_
   simp (disch := omega) [zbd, gE, tP]
   repeat' first | (exfalso; omega) | (refine ⟨fun _ => ?_, fun _ => ?_⟩) | (refine ⟨by omega, ?_⟩) | (intro _)
   all_goals (refine hK _ ?_; clear hK K)
   all_goals
    refine zb0 ?_
    refine zcf (fun mM sS => ∃ (i : Nat), mM = xs.length - i ∧ (i ≤ xs.length ∧ ∀ j, j < i → xs[j]? = ys[j]?) ∧ sS = { env := lkE [(0, .sl 1 (xs.map cS)), (1, .sl 1 (ys.map cS)), (5, (.g (.int .i64 ((i : Nat)))))], ob := formOb [] [] }) ?_ ?_
    ·refine ⟨_, LeS.kp [(0, .sl 1 (xs.map cS)), (1, .sl 1 (ys.map cS)), (5, (.g (.int .i64 (((0) : Nat)))))] (by simp [KpE, zbl, zb5, zbi]; try rfl), _, 0, rfl, ?_, rfl⟩
     ·simp
    ·rintro mM sS ⟨i, rfl, ⟨hi, hpre⟩, rfl⟩
     refine zbr ?_
     refine AW_r rfl rfl fun K hK => ?_
     simp (disch := omega) [zbd, gE, tP, cS]
     repeat' first | (refine ⟨by omega, ?_⟩) | (intro _)
     refine hK _ ?_; clear hK K
     refine zbu rfl (fun hc4 => ?_) (fun hc4 => ?_)
     ·try simp at hc4
      all_goals
       have h7 : i < ys.length := by omega
       refine zbv ?_
       refine zb4 ?_
       refine zbr ?_
       refine zb0 ?_
       refine AW_q rfl mix (by kernel_rfl) rfl fun K hK => ?_
       simp (disch := omega) [zbd, gE, tP, cS]
       repeat' first | (exfalso; omega) | (refine ⟨fun _ => ?_, fun _ => ?_⟩) | (refine ⟨by omega, ?_⟩) | (intro _)
       all_goals (refine hK _ ?_; clear hK K)
       all_goals
        refine zbu rfl (fun hc5 => ?_) (fun hc5 => ?_)
        ·try simp at hc5
         all_goals
          refine AW_r rfl rfl fun K hK => ?_
          simp (disch := omega) [zbd, gE, tP, cS]
          repeat' first | (exfalso; omega) | (refine ⟨fun _ => ?_, fun _ => ?_⟩) | (refine ⟨by omega, ?_⟩) | (intro _)
          all_goals (refine hK _ ?_; clear hK K)
          all_goals
           refine zby (zcd ?_)
           simp (disch := omega) [zbd, gE, tP, cS]
           all_goals first | (exact zcl heq) | (refine zci fun heq => ?_; subst heq; simp_all; done)
        ·try simp at hc5
         all_goals
          refine zbv ?_
          refine zb4 ?_
          refine zdi rfl rfl fun K hK => ?_
          simp (disch := omega) [zbd, gE, tP, cS]
          repeat' first | (exfalso; omega) | (refine ⟨fun _ => ?_, fun _ => ?_⟩) | (refine ⟨by omega, ?_⟩) | (intro _)
          all_goals (refine hK _ ?_; clear hK K)
          all_goals
           refine ⟨_, LeS.kp [(0, .sl 1 (xs.map cS)), (1, .sl 1 (ys.map cS)), (5, (.g (.int .i64 (((i + 1) : Nat)))))] (by simp [KpE, zbl, zb5, zbi]; try rfl), _, ?_, i + 1, rfl, ?_, rfl⟩
           ·omega
           ·refine ⟨by omega, fun j hj => ?_⟩
            by_cases hji : j = i
            ·subst hji; simp_all
            ·exact hpre j (by omega)
     ·try simp at hc4
      all_goals
       have hi2 : i = xs.length := by omega
       subst hi2
       have heq : xs = ys := List.ext_getElem? fun j => by
        by_cases hj : j < xs.length
        ·exact hpre j hj
        ·rw [List.getElem?_eq_none (by omega), List.getElem?_eq_none (by omega)]
       refine zch ?_
       refine zb4 ?_
       refine AW_r rfl rfl fun K hK => ?_
       simp (disch := omega) [zbd, gE, tP, cS]
       repeat' first | (exfalso; omega) | (refine ⟨fun _ => ?_, fun _ => ?_⟩) | (refine ⟨by omega, ?_⟩) | (intro _)
       all_goals (refine hK _ ?_; clear hK K)
       all_goals
        refine zby (zcd ?_)
        simp (disch := omega) [zbd, gE, tP, cS]
        all_goals first | (exact zcl heq) | (refine zci fun heq => ?_; subst heq; simp_all; done)
theorem equalS (xs ys : List (List UInt8)) (hn : xs.length ≤ 1048576) : PCall Tryz.prog 100 [.sl 1 (xs.map cS), .sl 1 (ys.map cS)] (.g (.bool (eqB xs ys))) := by
 refine zbz Tryz.func100 (by rfl) (by rfl) (by rw [Tryz.ntmps100]; exact Nat.le_of_ble_eq_true rfl) rfl (by decide) ?_
 rw [Tryz.ntmps100]
 refine AW_k [(0, _), (1, _)] ⟨rfl, rfl, trivial⟩ ?_
 refine AW_r rfl rfl fun K hK => ?_
 simp (disch := omega) [zbd, gE, tP]
 repeat' first | (refine ⟨by omega, ?_⟩) | (intro _)
 refine hK _ ?_; clear hK K
 refine zbr ?_
 refine AW_r rfl rfl fun K hK => ?_
 simp (disch := omega) [zbd, gE, tP]
 repeat' first | (refine ⟨by omega, ?_⟩) | (intro _)
 refine hK _ ?_; clear hK K
 refine zbu rfl (fun hc6 => ?_) (fun hc6 => ?_)
 ·try simp at hc6
  all_goals
   refine AW_r rfl rfl fun K hK => ?_
   simp (disch := omega) [zbd, gE, tP]
   repeat' first | (exfalso; omega) | (refine ⟨fun _ => ?_, fun _ => ?_⟩) | (refine ⟨by omega, ?_⟩) | (intro _)
   all_goals (refine hK _ ?_; clear hK K)
   all_goals
    refine zby (zcd ?_)
    simp (disch := omega) [zbd, gE, tP]
    all_goals first | (exact zcl heq) | (refine zci fun heq => ?_; subst heq; simp_all; done)
 ·try simp at hc6
  all_goals
   refine zbv ?_
   refine zb4 ?_
   refine zbr ?_
   refine AW_r rfl rfl fun K hK => ?_
   simp (disch := omega) [zbd, gE, tP]
   repeat' first | (exfalso; omega) | (refine ⟨fun _ => ?_, fun _ => ?_⟩) | (refine ⟨by omega, ?_⟩) | (intro _)
   all_goals (refine hK _ ?_; clear hK K)
   all_goals
    refine zb0 ?_
    refine zcf (fun mM sS => ∃ (i : Nat), mM = xs.length - i ∧ (i ≤ xs.length ∧ ∀ j, j < i → xs[j]? = ys[j]?) ∧ sS = { env := lkE [(0, .sl 1 (xs.map cS)), (1, .sl 1 (ys.map cS)), (12, (.g (.int .i64 ((xs.length : Nat))))), (13, (.g (.int .i64 ((i : Nat)))))], ob := formOb [] [] }) ?_ ?_
    ·refine ⟨_, LeS.kp [(0, .sl 1 (xs.map cS)), (1, .sl 1 (ys.map cS)), (12, (.g (.int .i64 ((xs.length : Nat))))), (13, (.g (.int .i64 (((0) : Nat)))))] (by simp [KpE, zbl, zb5, zbi]; try rfl), _, 0, rfl, ?_, rfl⟩
     ·simp
    ·rintro mM sS ⟨i, rfl, ⟨hi, hpre⟩, rfl⟩
     refine AW_r rfl rfl fun K hK => ?_
     simp (disch := omega) [zbd, gE, tP, cS]
     repeat' first | (refine ⟨by omega, ?_⟩) | (intro _)
     refine hK _ ?_; clear hK K
     refine zbr ?_
     refine zbu rfl (fun hc7 => ?_) (fun hc7 => ?_)
     ·try simp at hc7
      all_goals
       have h7 : i < ys.length := by omega
       refine zbv ?_
       refine zb4 ?_
       refine zbr ?_
       refine zb0 ?_
       refine AW_r rfl rfl fun K hK => ?_
       simp (disch := omega) [zbd, gE, tP, cS]
       repeat' first | (exfalso; omega) | (refine ⟨fun _ => ?_, fun _ => ?_⟩) | (refine ⟨by omega, ?_⟩) | (intro _)
       all_goals (refine hK _ ?_; clear hK K)
       all_goals
        refine AW_q rfl mix (by kernel_rfl) rfl fun K hK => ?_
        simp (disch := omega) [zbd, gE, tP, cS]
        repeat' first | (refine ⟨by omega, ?_⟩) | (intro _)
        refine hK _ ?_; clear hK K
        refine zbu rfl (fun hc8 => ?_) (fun hc8 => ?_)
        ·try simp at hc8
         all_goals
          refine AW_r rfl rfl fun K hK => ?_
          simp (disch := omega) [zbd, gE, tP, cS]
          repeat' first | (exfalso; omega) | (refine ⟨fun _ => ?_, fun _ => ?_⟩) | (refine ⟨by omega, ?_⟩) | (intro _)
          all_goals (refine hK _ ?_; clear hK K)
          all_goals
           refine zby (zcd ?_)
           simp (disch := omega) [zbd, gE, tP, cS]
           all_goals first | (exact zcl heq) | (refine zci fun heq => ?_; subst heq; simp_all; done)
        ·try simp at hc8
         all_goals
          refine zbv ?_
          refine zb4 ?_
          refine zdi rfl rfl fun K hK => ?_
          simp (disch := omega) [zbd, gE, tP, cS]
          repeat' first | (exfalso; omega) | (refine ⟨fun _ => ?_, fun _ => ?_⟩) | (refine ⟨by omega, ?_⟩) | (intro _)
          all_goals (refine hK _ ?_; clear hK K)
          all_goals
           refine ⟨_, LeS.kp [(0, .sl 1 (xs.map cS)), (1, .sl 1 (ys.map cS)), (12, (.g (.int .i64 ((xs.length : Nat))))), (13, (.g (.int .i64 (((i + 1) : Nat)))))] (by simp [KpE, zbl, zb5, zbi]; try rfl), _, ?_, i + 1, rfl, ?_, rfl⟩
           ·omega
           ·refine ⟨by omega, fun j hj => ?_⟩
            by_cases hji : j = i
            ·subst hji; simp_all
            ·exact hpre j (by omega)
     ·try simp at hc7
      all_goals
       have hi2 : i = xs.length := by omega
       subst hi2
       have heq : xs = ys := List.ext_getElem? fun j => by
        by_cases hj : j < xs.length
        ·exact hpre j hj
        ·rw [List.getElem?_eq_none (by omega), List.getElem?_eq_none (by omega)]
       refine zch ?_
       refine zb4 ?_
       refine AW_r rfl rfl fun K hK => ?_
       simp (disch := omega) [zbd, gE, tP, cS]
       repeat' first | (exfalso; omega) | (refine ⟨fun _ => ?_, fun _ => ?_⟩) | (refine ⟨by omega, ?_⟩) | (intro _)
       all_goals (refine hK _ ?_; clear hK K)
       all_goals
        refine zby (zcd ?_)
        simp (disch := omega) [zbd, gE, tP, cS]
        all_goals first | (exact zcl heq) | (refine zci fun heq => ?_; subst heq; simp_all; done)
theorem ztn (a b : DtCmd) (hn : a.fChunks.length ≤ 1048576) : PCall Tryz.prog 83 [.agg (DtCmd.cells a), .agg (DtCmd.cells b)] (.g (.bool (eqB a b))) := by
 have he := DtCmd.ext_iff a b
 refine zbz Tryz.func83 (by rfl) (by rfl) (by rw [Tryz.ntmps83]; exact Nat.le_of_ble_eq_true rfl) rfl (by decide) ?_
 rw [Tryz.ntmps83]
 refine AW_k [(0, _), (1, _)] ⟨rfl, rfl, trivial⟩ ?_
 refine AW_r rfl rfl fun K hK => ?_
 simp [DtCmd.cells]
 repeat' first | (refine ⟨by omega, ?_⟩) | (intro _)
 refine hK _ ?_; clear hK K
 refine AW_r rfl rfl fun K hK => ?_
 simp [DtCmd.cells]
 repeat' first | (refine zco (zbh zce (zbh zce zbs)) (l4Texts _ _ (by assumption)) rfl ?_; simp [DtCmd.cells]) | (refine ⟨fun _ => ?_, fun _ => ?_⟩) | (refine ⟨by omega, ?_⟩) | (intro _)
 all_goals (refine hK _ ?_; clear hK K)
 all_goals
  refine zby (zcd ?_)
  simp [DtCmd.cells]
  all_goals first | (refine zci fun h => ?_; rw [he] at h; simp_all; done) | (rw [Bool.eq_iff_iff, zbg, zbg, he]; simp_all; done) | (rw [Bool.eq_iff_iff, zbg, he]; simp_all [zbg]; done)
theorem zto (a b : DtCmd) (hn : a.fChunks.length ≤ 1048576) : PCall Tryz.prog 85 [.agg (DtCmd.cells a), .agg (DtCmd.cells b)] (.g (.bool (eqB a b))) := by
 have he := DtCmd.ext_iff a b
 refine zbz Tryz.func85 (by rfl) (by rfl) (by rw [Tryz.ntmps85]; exact Nat.le_of_ble_eq_true rfl) rfl (by decide) ?_
 rw [Tryz.ntmps85]
 refine AW_k [(0, _), (1, _)] ⟨rfl, rfl, trivial⟩ ?_
 refine AW_r rfl rfl fun K hK => ?_
 simp [DtCmd.cells]
 repeat' first | (refine ⟨by omega, ?_⟩) | (intro _)
 refine hK _ ?_; clear hK K
 refine AW_r rfl rfl fun K hK => ?_
 simp [DtCmd.cells]
 repeat' first | (refine zco (zbh zce (zbh zce zbs)) (equalS _ _ (by assumption)) rfl ?_; simp [DtCmd.cells]) | (refine ⟨fun _ => ?_, fun _ => ?_⟩) | (refine ⟨by omega, ?_⟩) | (intro _)
 all_goals (refine hK _ ?_; clear hK K)
 all_goals
  refine zby (zcd ?_)
  simp [DtCmd.cells]
  all_goals first | (refine zci fun h => ?_; rw [he] at h; simp_all; done) | (rw [Bool.eq_iff_iff, zbg, zbg, he]; simp_all; done) | (rw [Bool.eq_iff_iff, zbg, he]; simp_all [zbg]; done)
theorem specCmdOk (c : DtCmd) (hs : DtCmd.sz c ≤ 1048576) : PCall Tryz.prog 74 [.agg (DtCmd.cells c)] (.g (.bool (decB (CmdP c)))) := by
 have ⟨hl, hw1, hw2, hw3⟩ : c.fChunks.length ≤ 1048576 ∧ c.fSet.length ≤ 1048576 ∧ c.fName.length ≤ 1048576 ∧ c.fTag.length ≤ 1048576 := by have := zct zcp c.fChunks; simp only [DtCmd.sz, szS] at hs; omega
 refine zbz Tryz.func74 (by rfl) (by rfl) (by rw [Tryz.ntmps74]; exact Nat.le_of_ble_eq_true rfl) rfl (by decide) ?_
 rw [Tryz.ntmps74]
 refine AW_k [(0, _)] ⟨rfl, trivial⟩ ?_
 refine AW_r rfl rfl fun K hK => ?_
 simp (disch := omega) [zbd, gE, tP, DtCmd.cells, zbc, zbb]
 repeat' first | (refine ⟨by omega, ?_⟩) | (intro _)
 refine hK _ ?_; clear hK K
 refine zbr ?_
 refine AW_r rfl rfl fun K hK => ?_
 simp (disch := omega) [zbd, gE, tP, DtCmd.cells, zbc, zbb]
 repeat' first | (exfalso; omega) | (refine zco (zbh zcx (zbh zcx (zbh zcx zbs))) (l1In _ _ _) rfl ?_; simp (disch := omega) [zbd, gE, tP, DtCmd.cells, zbc, zbb]) | (refine ⟨by omega, ?_⟩) | (intro _)
 refine hK _ ?_; clear hK K
 refine zbu rfl (fun hc9 => ?_) (fun hc9 => ?_)
 ·try simp [zbc, zbb, zbg, zbf] at hc9
  all_goals
   refine AW_r rfl rfl fun K hK => ?_
   simp (disch := omega) [zbd, gE, tP, DtCmd.cells, zbc, zbb]
   repeat' first | (exfalso; omega) | (refine ⟨fun _ => ?_, fun _ => ?_⟩) | (refine ⟨by omega, ?_⟩) | (intro _)
   all_goals (refine hK _ ?_; clear hK K)
   all_goals
    refine zby (zcd ?_)
    simp (disch := omega) [zbd, gE, tP, DtCmd.cells, zbc, zbb]
    all_goals first | grind [CmdP, MayP, Ch8] | (rw [Bool.eq_iff_iff, zbc, zbg]; grind [CmdP, zeroCmd]) | (simp only [CmdP, MayP, Ch8] at *; grind) | (rw [Bool.eq_iff_iff, zbc]; simp [zbc]; grind [CmdP, MayP, Ch8]) | (rw [Bool.eq_iff_iff, zbc, zbc]; grind [CmdP, MayP, Ch8]) | (rw [Bool.eq_iff_iff, zbc, beq_iff_eq, len0]; grind [CmdP, MayP, Ch8])
 ·try simp [zbc, zbb, zbg, zbf] at hc9
  all_goals
   refine zbv ?_
   refine zb4 ?_
   refine zbr ?_
   refine AW_r rfl rfl fun K hK => ?_
   simp (disch := omega) [zbd, gE, tP, DtCmd.cells, zbc, zbb]
   repeat' first | (exfalso; omega) | (refine ⟨fun _ => ?_, fun _ => ?_⟩) | (refine ⟨by omega, ?_⟩) | (intro _)
   all_goals (refine hK _ ?_; clear hK K)
   all_goals
    refine zbu rfl (fun hc10 => ?_) (fun hc10 => ?_)
    ·try simp [zbc, zbb, zbg, zbf] at hc10
     all_goals
      refine AW_r rfl rfl fun K hK => ?_
      simp (disch := omega) [zbd, gE, tP, DtCmd.cells, zbc, zbb]
      repeat' first | (exfalso; omega) | (refine zco (zbh (zcb rfl) (zbh (a := .agg _) (b := .agg (DtCmd.cells zeroCmd)) (by simp [DtCmd.cells, zeroCmd, zz0, zs7, zs6, zzx, zzy, zzz]) zbs)) (ztn c zeroCmd hl) rfl ?_; simp (disch := omega) [zbd, gE, tP, DtCmd.cells, zbc, zbb]) | (refine ⟨fun _ => ?_, fun _ => ?_⟩) | (refine ⟨by omega, ?_⟩) | (intro _)
      all_goals (refine hK _ ?_; clear hK K)
      all_goals
       refine zby (zcd ?_)
       simp (disch := omega) [zbd, gE, tP, DtCmd.cells, zbc, zbb]
       all_goals first | grind [CmdP, MayP, Ch8] | (rw [Bool.eq_iff_iff, zbc, zbg]; grind [CmdP, zeroCmd]) | (simp only [CmdP, MayP, Ch8] at *; grind) | (rw [Bool.eq_iff_iff, zbc]; simp [zbc]; grind [CmdP, MayP, Ch8]) | (rw [Bool.eq_iff_iff, zbc, zbc]; grind [CmdP, MayP, Ch8]) | (rw [Bool.eq_iff_iff, zbc, beq_iff_eq, len0]; grind [CmdP, MayP, Ch8])
    ·try simp [zbc, zbb, zbg, zbf] at hc10
     all_goals
      refine zbv ?_
      refine zb4 ?_
      refine AW_r rfl rfl fun K hK => ?_
      simp (disch := omega) [zbd, gE, tP, DtCmd.cells, zbc, zbb]
      repeat' first | (exfalso; omega) | (refine ⟨fun _ => ?_, fun _ => ?_⟩) | (refine ⟨by omega, ?_⟩) | (intro _)
      all_goals (refine hK _ ?_; clear hK K)
      all_goals
       refine zbr ?_
       refine AW_r rfl rfl fun K hK => ?_
       simp (disch := omega) [zbd, gE, tP, DtCmd.cells, zbc, zbb]
       repeat' first | (exfalso; omega) | (refine zco (zbh zcx (zbh zcx (zbh zcx zbs))) (l1In _ _ _) rfl ?_; simp (disch := omega) [zbd, gE, tP, DtCmd.cells, zbc, zbb]) | (refine zco (zbh am2_s (zbh zcx zbs)) (l4May _ _) rfl ?_; simp (disch := omega) [zbd, gE, tP, DtCmd.cells, zbc, zbb]) | (refine ⟨fun _ => ?_, fun _ => ?_⟩) | (refine ⟨by omega, ?_⟩) | (intro _)
       all_goals (refine hK _ ?_; clear hK K)
       all_goals
        refine zbu rfl (fun hc11 => ?_) (fun hc11 => ?_)
        ·try simp [zbc, zbb, zbg, zbf] at hc11
         all_goals
          refine AW_r rfl rfl fun K hK => ?_
          simp (disch := omega) [zbd, gE, tP, DtCmd.cells, zbc, zbb]
          repeat' first | (exfalso; omega) | (refine ⟨fun _ => ?_, fun _ => ?_⟩) | (refine ⟨by omega, ?_⟩) | (intro _)
          all_goals (refine hK _ ?_; clear hK K)
          all_goals
           refine zby (zcd ?_)
           simp (disch := omega) [zbd, gE, tP, DtCmd.cells, zbc, zbb]
           all_goals first | grind [CmdP, MayP, Ch8] | (rw [Bool.eq_iff_iff, zbc, zbg]; grind [CmdP, zeroCmd]) | (simp only [CmdP, MayP, Ch8] at *; grind) | (rw [Bool.eq_iff_iff, zbc]; simp [zbc]; grind [CmdP, MayP, Ch8]) | (rw [Bool.eq_iff_iff, zbc, zbc]; grind [CmdP, MayP, Ch8]) | (rw [Bool.eq_iff_iff, zbc, beq_iff_eq, len0]; grind [CmdP, MayP, Ch8])
        ·try simp [zbc, zbb, zbg, zbf] at hc11
         all_goals
          refine zbv ?_
          refine zb4 ?_
          refine zbr ?_
          refine AW_r rfl rfl fun K hK => ?_
          simp (disch := omega) [zbd, gE, tP, DtCmd.cells, zbc, zbb]
          repeat' first | (exfalso; omega) | (refine ⟨fun _ => ?_, fun _ => ?_⟩) | (refine ⟨by omega, ?_⟩) | (intro _)
          all_goals (refine hK _ ?_; clear hK K)
          all_goals
           refine zbu rfl (fun hc12 => ?_) (fun hc12 => ?_)
           ·try simp [zbc, zbb, zbg, zbf] at hc12
            all_goals
             refine AW_r rfl rfl fun K hK => ?_
             simp (disch := omega) [zbd, gE, tP, DtCmd.cells, zbc, zbb]
             repeat' first | (exfalso; omega) | (refine ⟨fun _ => ?_, fun _ => ?_⟩) | (refine ⟨by omega, ?_⟩) | (intro _)
             all_goals (refine hK _ ?_; clear hK K)
             all_goals
              refine zby (zcd ?_)
              simp (disch := omega) [zbd, gE, tP, DtCmd.cells, zbc, zbb]
              all_goals first | grind [CmdP, MayP, Ch8] | (rw [Bool.eq_iff_iff, zbc, zbg]; grind [CmdP, zeroCmd]) | (simp only [CmdP, MayP, Ch8] at *; grind) | (rw [Bool.eq_iff_iff, zbc]; simp [zbc]; grind [CmdP, MayP, Ch8]) | (rw [Bool.eq_iff_iff, zbc, zbc]; grind [CmdP, MayP, Ch8]) | (rw [Bool.eq_iff_iff, zbc, beq_iff_eq, len0]; grind [CmdP, MayP, Ch8])
           ·try simp [zbc, zbb, zbg, zbf] at hc12
            all_goals
             refine zbv ?_
             refine zb4 ?_
             refine zbr ?_
             refine AW_r rfl rfl fun K hK => ?_
             simp (disch := omega) [zbd, gE, tP, DtCmd.cells, zbc, zbb]
             repeat' first | (exfalso; omega) | (refine zco (zbh zcx (zbh zcx (zbh zcx zbs))) (l1In _ _ _) rfl ?_; simp (disch := omega) [zbd, gE, tP, DtCmd.cells, zbc, zbb]) | (refine ⟨fun _ => ?_, fun _ => ?_⟩) | (refine ⟨by omega, ?_⟩) | (intro _)
             all_goals (refine hK _ ?_; clear hK K)
             all_goals
              refine zbu rfl (fun hc13 => ?_) (fun hc13 => ?_)
              ·try simp [zbc, zbb, zbg, zbf] at hc13
               all_goals
                refine AW_r rfl rfl fun K hK => ?_
                simp (disch := omega) [zbd, gE, tP, DtCmd.cells, zbc, zbb]
                repeat' first | (exfalso; omega) | (refine ⟨fun _ => ?_, fun _ => ?_⟩) | (refine ⟨by omega, ?_⟩) | (intro _)
                all_goals (refine hK _ ?_; clear hK K)
                all_goals
                 refine zby (zcd ?_)
                 simp (disch := omega) [zbd, gE, tP, DtCmd.cells, zbc, zbb]
                 all_goals first | grind [CmdP, MayP, Ch8] | (rw [Bool.eq_iff_iff, zbc, zbg]; grind [CmdP, zeroCmd]) | (simp only [CmdP, MayP, Ch8] at *; grind) | (rw [Bool.eq_iff_iff, zbc]; simp [zbc]; grind [CmdP, MayP, Ch8]) | (rw [Bool.eq_iff_iff, zbc, zbc]; grind [CmdP, MayP, Ch8]) | (rw [Bool.eq_iff_iff, zbc, beq_iff_eq, len0]; grind [CmdP, MayP, Ch8])
              ·try simp [zbc, zbb, zbg, zbf] at hc13
               all_goals
                refine zbv ?_
                refine zb4 ?_
                refine zbr ?_
                refine AW_r rfl rfl fun K hK => ?_
                simp (disch := omega) [zbd, gE, tP, DtCmd.cells, zbc, zbb]
                repeat' first | (exfalso; omega) | (refine ⟨fun _ => ?_, fun _ => ?_⟩) | (refine ⟨by omega, ?_⟩) | (intro _)
                all_goals (refine hK _ ?_; clear hK K)
                all_goals
                 refine zb0 ?_
                 refine zcf (fun mM sS => ∃ (i : Nat), mM = c.fChunks.length - i ∧ (i ≤ c.fChunks.length ∧ ∀ (j : Nat) x, j < i → c.fChunks[j]? = some x → x.length = 8) ∧ sS = { env := lkE [(1, .ptr 32 0), (4, (.g (.int .i64 ((i : Nat)))))], ob := upd (formOb [] []) 32 (some (.cells (DtCmd.cells c))) }) ?_ ?_
                 ·refine ⟨_, LeS.kp [(1, .ptr 32 0), (4, (.g (.int .i64 (((0) : Nat)))))] (by simp [KpE, zbl, zb5, zbi]; try rfl), _, 0, rfl, ?_, rfl⟩
                  ·simp
                 ·rintro mM sS ⟨i, rfl, ⟨hi, hpre⟩, rfl⟩
                  refine zbr ?_
                  refine AW_r rfl rfl fun K hK => ?_
                  simp (disch := omega) [zbd, gE, tP, DtCmd.cells, zbc, zbb, cS]
                  repeat' first | (refine ⟨by omega, ?_⟩) | (intro _)
                  refine hK _ ?_; clear hK K
                  refine zbu rfl (fun hc14 => ?_) (fun hc14 => ?_)
                  ·try simp [zbc, zbb, zbg, zbf] at hc14
                   all_goals
                    have hg : c.fChunks[i]? = some c.fChunks[i] := List.getElem?_eq_getElem (by omega)
                    refine zbv ?_
                    refine zb4 ?_
                    refine zbr ?_
                    refine zb0 ?_
                    refine AW_r rfl rfl fun K hK => ?_
                    simp (disch := omega) [zbd, gE, tP, DtCmd.cells, zbc, zbb, cS]
                    repeat' first | (exfalso; omega) | (refine ⟨fun _ => ?_, fun _ => ?_⟩) | (refine ⟨by omega, ?_⟩) | (intro _)
                    all_goals (refine hK _ ?_; clear hK K)
                    all_goals
                     refine zbu rfl (fun hc15 => ?_) (fun hc15 => ?_)
                     ·try simp [zbc, zbb, zbg, zbf] at hc15
                      all_goals
                       refine AW_r rfl rfl fun K hK => ?_
                       simp (disch := omega) [zbd, gE, tP, DtCmd.cells, zbc, zbb, cS]
                       repeat' first | (exfalso; omega) | (refine ⟨fun _ => ?_, fun _ => ?_⟩) | (refine ⟨by omega, ?_⟩) | (intro _)
                       all_goals (refine hK _ ?_; clear hK K)
                       all_goals
                        refine zby (zcd ?_)
                        simp (disch := omega) [zbd, gE, tP, DtCmd.cells, zbc, zbb, cS]
                        all_goals first | grind [CmdP, MayP, Ch8] | (rw [Bool.eq_iff_iff, zbc, zbg]; grind [CmdP, zeroCmd]) | (simp only [CmdP, MayP, Ch8] at *; grind) | (rw [Bool.eq_iff_iff, zbc]; simp [zbc]; grind [CmdP, MayP, Ch8]) | (rw [Bool.eq_iff_iff, zbc, zbc]; grind [CmdP, MayP, Ch8]) | (rw [Bool.eq_iff_iff, zbc, beq_iff_eq, len0]; grind [CmdP, MayP, Ch8])
                     ·try simp [zbc, zbb, zbg, zbf] at hc15
                      all_goals
                       refine zbv ?_
                       refine zb4 ?_
                       refine zdi rfl rfl fun K hK => ?_
                       simp (disch := omega) [zbd, gE, tP, DtCmd.cells, zbc, zbb, cS]
                       repeat' first | (exfalso; omega) | (refine ⟨fun _ => ?_, fun _ => ?_⟩) | (refine ⟨by omega, ?_⟩) | (intro _)
                       all_goals (refine hK _ ?_; clear hK K)
                       all_goals
                        refine ⟨_, LeS.kp [(1, .ptr 32 0), (4, (.g (.int .i64 (((i + 1) : Nat)))))] (by simp [KpE, zbl, zb5, zbi]; try rfl), _, ?_, i + 1, rfl, ?_, rfl⟩
                        ·omega
                        ·refine ⟨by omega, ?_⟩; grind
                  ·try simp [zbc, zbb, zbg, zbf] at hc14
                   all_goals
                    refine zch ?_
                    refine zb4 ?_
                    refine AW_r rfl rfl fun K hK => ?_
                    simp (disch := omega) [zbd, gE, tP, DtCmd.cells, zbc, zbb, cS]
                    repeat' first | (exfalso; omega) | (refine ⟨fun _ => ?_, fun _ => ?_⟩) | (refine ⟨by omega, ?_⟩) | (intro _)
                    all_goals (refine hK _ ?_; clear hK K)
                    all_goals
                     refine zby (zcd ?_)
                     simp (disch := omega) [zbd, gE, tP, DtCmd.cells, zbc, zbb, cS]
                     all_goals first | grind [CmdP, MayP, Ch8] | (rw [Bool.eq_iff_iff, zbc, zbg]; grind [CmdP, zeroCmd]) | (simp only [CmdP, MayP, Ch8] at *; grind) | (rw [Bool.eq_iff_iff, zbc]; simp [zbc]; grind [CmdP, MayP, Ch8]) | (rw [Bool.eq_iff_iff, zbc, zbc]; grind [CmdP, MayP, Ch8]) | (rw [Bool.eq_iff_iff, zbc, beq_iff_eq, len0]; grind [CmdP, MayP, Ch8])
theorem implCmdOk (c : DtCmd) (hs : DtCmd.sz c ≤ 1048576) : PCall Tryz.prog 79 [.agg (DtCmd.cells c)] (.g (.bool (decB (CmdP c)))) := by
 have ⟨hl, hw1, hw2, hw3⟩ : c.fChunks.length ≤ 1048576 ∧ c.fSet.length ≤ 1048576 ∧ c.fName.length ≤ 1048576 ∧ c.fTag.length ≤ 1048576 := by have := zct zcp c.fChunks; simp only [DtCmd.sz, szS] at hs; omega
 refine zbz Tryz.func79 (by rfl) (by rfl) (by rw [Tryz.ntmps79]; exact Nat.le_of_ble_eq_true rfl) rfl (by decide) ?_
 rw [Tryz.ntmps79]
 refine AW_k [(0, _)] ⟨rfl, trivial⟩ ?_
 refine AW_r rfl rfl fun K hK => ?_
 simp (disch := omega) [zbd, gE, tP, DtCmd.cells, zbc, zbb]
 repeat' first | (refine ⟨by omega, ?_⟩) | (intro _)
 refine hK _ ?_; clear hK K
 refine zbr ?_
 refine AW_r rfl rfl fun K hK => ?_
 simp (disch := omega) [zbd, gE, tP, DtCmd.cells, zbc, zbb]
 repeat' first | (refine ⟨by omega, ?_⟩) | (intro _)
 refine hK _ ?_; clear hK K
 refine zbu rfl (fun hc16 => ?_) (fun hc16 => ?_)
 ·try simp [zbc, zbb, zbg, zbf] at hc16
  all_goals
   refine AW_r rfl rfl fun K hK => ?_
   simp (disch := omega) [zbd, gE, tP, DtCmd.cells, zbc, zbb]
   repeat' first | (exfalso; omega) | (refine zco (zbh (zcb rfl) (zbh (a := .agg _) (b := .agg (DtCmd.cells zeroCmd)) (by simp [DtCmd.cells, zeroCmd, zz0, zs7, zs6, zzx, zzy, zzz]) zbs)) (zto c zeroCmd hl) rfl ?_; simp (disch := omega) [zbd, gE, tP, DtCmd.cells, zbc, zbb]) | (refine ⟨fun _ => ?_, fun _ => ?_⟩) | (refine ⟨by omega, ?_⟩) | (intro _)
   all_goals (refine hK _ ?_; clear hK K)
   all_goals
    refine zby (zcd ?_)
    simp (disch := omega) [zbd, gE, tP, DtCmd.cells, zbc, zbb]
    all_goals first | grind [CmdP, MayP, Ch8] | (rw [Bool.eq_iff_iff, zbc, zbg]; grind [CmdP, zeroCmd]) | (simp only [CmdP, MayP, Ch8] at *; grind) | (rw [Bool.eq_iff_iff, zbc]; simp [zbc]; grind [CmdP, MayP, Ch8]) | (rw [Bool.eq_iff_iff, zbc, zbc]; grind [CmdP, MayP, Ch8]) | (rw [Bool.eq_iff_iff, zbc, beq_iff_eq, len0]; grind [CmdP, MayP, Ch8])
 ·try simp [zbc, zbb, zbg, zbf] at hc16
  all_goals
   refine zbv ?_
   refine zb4 ?_
   refine zbr ?_
   refine AW_r rfl rfl fun K hK => ?_
   simp (disch := omega) [zbd, gE, tP, DtCmd.cells, zbc, zbb]
   repeat' first | (exfalso; omega) | (refine zco (zbh zcx (zbh zcx (zbh zcx zbs))) (znu _ _ _) rfl ?_; simp (disch := omega) [zbd, gE, tP, DtCmd.cells, zbc, zbb]) | (refine ⟨fun _ => ?_, fun _ => ?_⟩) | (refine ⟨by omega, ?_⟩) | (intro _)
   all_goals (refine hK _ ?_; clear hK K)
   all_goals
    refine zbu rfl (fun hc17 => ?_) (fun hc17 => ?_)
    ·try simp [zbc, zbb, zbg, zbf] at hc17
     all_goals
      refine AW_r rfl rfl fun K hK => ?_
      simp (disch := omega) [zbd, gE, tP, DtCmd.cells, zbc, zbb]
      repeat' first | (exfalso; omega) | (refine ⟨fun _ => ?_, fun _ => ?_⟩) | (refine ⟨by omega, ?_⟩) | (intro _)
      all_goals (refine hK _ ?_; clear hK K)
      all_goals
       refine zby (zcd ?_)
       simp (disch := omega) [zbd, gE, tP, DtCmd.cells, zbc, zbb]
       all_goals first | grind [CmdP, MayP, Ch8] | (rw [Bool.eq_iff_iff, zbc, zbg]; grind [CmdP, zeroCmd]) | (simp only [CmdP, MayP, Ch8] at *; grind) | (rw [Bool.eq_iff_iff, zbc]; simp [zbc]; grind [CmdP, MayP, Ch8]) | (rw [Bool.eq_iff_iff, zbc, zbc]; grind [CmdP, MayP, Ch8]) | (rw [Bool.eq_iff_iff, zbc, beq_iff_eq, len0]; grind [CmdP, MayP, Ch8])
    ·try simp [zbc, zbb, zbg, zbf] at hc17
     all_goals
      refine zbv ?_
      refine zb4 ?_
      refine zbr ?_
      refine AW_r rfl rfl fun K hK => ?_
      simp (disch := omega) [zbd, gE, tP, DtCmd.cells, zbc, zbb]
      repeat' first | (exfalso; omega) | (refine zco (zbh am2_s (zbh zcx zbs)) (wordIf _ _ (by omega)) rfl ?_; simp (disch := omega) [zbd, gE, tP, DtCmd.cells, zbc, zbb]) | (refine ⟨fun _ => ?_, fun _ => ?_⟩) | (refine ⟨by omega, ?_⟩) | (intro _)
      all_goals (refine hK _ ?_; clear hK K)
      all_goals
       refine zbu rfl (fun hc18 => ?_) (fun hc18 => ?_)
       ·try simp [zbc, zbb, zbg, zbf] at hc18
        all_goals
         refine AW_r rfl rfl fun K hK => ?_
         simp (disch := omega) [zbd, gE, tP, DtCmd.cells, zbc, zbb]
         repeat' first | (exfalso; omega) | (refine ⟨fun _ => ?_, fun _ => ?_⟩) | (refine ⟨by omega, ?_⟩) | (intro _)
         all_goals (refine hK _ ?_; clear hK K)
         all_goals
          refine zby (zcd ?_)
          simp (disch := omega) [zbd, gE, tP, DtCmd.cells, zbc, zbb]
          all_goals first | grind [CmdP, MayP, Ch8] | (rw [Bool.eq_iff_iff, zbc, zbg]; grind [CmdP, zeroCmd]) | (simp only [CmdP, MayP, Ch8] at *; grind) | (rw [Bool.eq_iff_iff, zbc]; simp [zbc]; grind [CmdP, MayP, Ch8]) | (rw [Bool.eq_iff_iff, zbc, zbc]; grind [CmdP, MayP, Ch8]) | (rw [Bool.eq_iff_iff, zbc, beq_iff_eq, len0]; grind [CmdP, MayP, Ch8])
       ·try simp [zbc, zbb, zbg, zbf] at hc18
        all_goals
         refine zbv ?_
         refine zb4 ?_
         refine zbr ?_
         refine AW_r rfl rfl fun K hK => ?_
         simp (disch := omega) [zbd, gE, tP, DtCmd.cells, zbc, zbb]
         repeat' first | (exfalso; omega) | (refine zco (zbh zcx (zbh zcx (zbh zcx zbs))) (znu _ _ _) rfl ?_; simp (disch := omega) [zbd, gE, tP, DtCmd.cells, zbc, zbb]) | (refine ⟨fun _ => ?_, fun _ => ?_⟩) | (refine ⟨by omega, ?_⟩) | (intro _)
         all_goals (refine hK _ ?_; clear hK K)
         all_goals
          refine zbu rfl (fun hc19 => ?_) (fun hc19 => ?_)
          ·try simp [zbc, zbb, zbg, zbf] at hc19
           all_goals
            refine AW_r rfl rfl fun K hK => ?_
            simp (disch := omega) [zbd, gE, tP, DtCmd.cells, zbc, zbb]
            repeat' first | (exfalso; omega) | (refine ⟨fun _ => ?_, fun _ => ?_⟩) | (refine ⟨by omega, ?_⟩) | (intro _)
            all_goals (refine hK _ ?_; clear hK K)
            all_goals
             refine zby (zcd ?_)
             simp (disch := omega) [zbd, gE, tP, DtCmd.cells, zbc, zbb]
             all_goals first | grind [CmdP, MayP, Ch8] | (rw [Bool.eq_iff_iff, zbc, zbg]; grind [CmdP, zeroCmd]) | (simp only [CmdP, MayP, Ch8] at *; grind) | (rw [Bool.eq_iff_iff, zbc]; simp [zbc]; grind [CmdP, MayP, Ch8]) | (rw [Bool.eq_iff_iff, zbc, zbc]; grind [CmdP, MayP, Ch8]) | (rw [Bool.eq_iff_iff, zbc, beq_iff_eq, len0]; grind [CmdP, MayP, Ch8])
          ·try simp [zbc, zbb, zbg, zbf] at hc19
           all_goals
            refine zbv ?_
            refine zb4 ?_
            refine zbr ?_
            refine AW_r rfl rfl fun K hK => ?_
            simp (disch := omega) [zbd, gE, tP, DtCmd.cells, zbc, zbb]
            repeat' first | (exfalso; omega) | (refine ⟨fun _ => ?_, fun _ => ?_⟩) | (refine ⟨by omega, ?_⟩) | (intro _)
            all_goals (refine hK _ ?_; clear hK K)
            all_goals
             refine zbu rfl (fun hc20 => ?_) (fun hc20 => ?_)
             ·try simp [zbc, zbb, zbg, zbf] at hc20
              all_goals
               refine AW_r rfl rfl fun K hK => ?_
               simp (disch := omega) [zbd, gE, tP, DtCmd.cells, zbc, zbb]
               repeat' first | (exfalso; omega) | (refine zco (zbh zcx (zbh zcx (zbh zcx zbs))) (znu _ _ _) rfl ?_; simp (disch := omega) [zbd, gE, tP, DtCmd.cells, zbc, zbb]) | (refine zco (zbh zce zbs) (areChunks _ (by omega)) rfl ?_; simp (disch := omega) [zbd, gE, tP, DtCmd.cells, zbc, zbb]) | (refine ⟨fun _ => ?_, fun _ => ?_⟩) | (refine ⟨by omega, ?_⟩) | (intro _)
               all_goals (refine hK _ ?_; clear hK K)
               all_goals
                refine zby (zcd ?_)
                simp (disch := omega) [zbd, gE, tP, DtCmd.cells, zbc, zbb]
                all_goals first | grind [CmdP, MayP, Ch8] | (rw [Bool.eq_iff_iff, zbc, zbg]; grind [CmdP, zeroCmd]) | (simp only [CmdP, MayP, Ch8] at *; grind) | (rw [Bool.eq_iff_iff, zbc]; simp [zbc]; grind [CmdP, MayP, Ch8]) | (rw [Bool.eq_iff_iff, zbc, zbc]; grind [CmdP, MayP, Ch8]) | (rw [Bool.eq_iff_iff, zbc, beq_iff_eq, len0]; grind [CmdP, MayP, Ch8])
             ·try simp [zbc, zbb, zbg, zbf] at hc20
              all_goals
               refine zbv ?_
               refine zb4 ?_
               refine AW_r rfl rfl fun K hK => ?_
               simp (disch := omega) [zbd, gE, tP, DtCmd.cells, zbc, zbb]
               repeat' first | (exfalso; omega) | (refine ⟨fun _ => ?_, fun _ => ?_⟩) | (refine ⟨by omega, ?_⟩) | (intro _)
               all_goals (refine hK _ ?_; clear hK K)
               all_goals
                refine zby (zcd ?_)
                simp (disch := omega) [zbd, gE, tP, DtCmd.cells, zbc, zbb]
                all_goals first | grind [CmdP, MayP, Ch8] | (rw [Bool.eq_iff_iff, zbc, zbg]; grind [CmdP, zeroCmd]) | (simp only [CmdP, MayP, Ch8] at *; grind) | (rw [Bool.eq_iff_iff, zbc]; simp [zbc]; grind [CmdP, MayP, Ch8]) | (rw [Bool.eq_iff_iff, zbc, zbc]; grind [CmdP, MayP, Ch8]) | (rw [Bool.eq_iff_iff, zbc, beq_iff_eq, len0]; grind [CmdP, MayP, Ch8])
end Go.Proofs.YtfbmhgiokfpgiaaGreat.Vs
