import Derived.Test.YtmheohnbkaoipaaGreatSPQ
open Go Go.Proofs Go.Proofs.YtmheohnbkaoipaaGreat.Vs
namespace Go.Proofs.YtmheohnbkaoipaaGreat.Vs
set_option linter.all false
set_option linter.unusedSimpArgs false
set_option linter.unusedVariables false
set_option maxRecDepth 100000
theorem len0 {α : Type} (l : List α) : ((l.length : Int) = 0) = (l = []) := by rw [eq_iff_iff, ← List.length_eq_zero_iff]; omega
def MayP (s : List UInt8) (must : Bool) : Prop := if must then Word s else s = []
def zeroCmd : DtCmd := ⟨0, 0, 0, [], [], [], 0, []⟩
def CmdP (c : DtCmd) : Prop := (c.fKind = 0 ∧ c = zeroCmd) ∨ (1 ≤ c.fKind ∧ c.fKind ≤ 7 ∧ 1 ≤ c.fClient ∧ c.fClient ≤ 9 ∧ 1 ≤ c.fNo ∧ c.fNo ≤ 1000 ∧ (c.fKind ≠ 7 → Word c.fSet) ∧ (c.fKind = 7 → c.fSet = []) ∧ (c.fKind = 3 ∨ c.fKind = 4 → Word c.fName) ∧ (¬ (c.fKind = 3 ∨ c.fKind = 4) → c.fName = []) ∧ (c.fKind = 4 → Word c.fTag) ∧ (c.fKind ≠ 4 → c.fTag = []) ∧ (c.fN ≠ 0 → c.fKind = 5 ∧ 0 ≤ c.fN ∧ c.fN ≤ 9) ∧ (c.fKind = 3 → 1 ≤ c.fChunks.length ∧ c.fChunks.length ≤ 4 ∧ Ch8 c.fChunks) ∧ (c.fKind ≠ 3 → c.fChunks = []))
theorem l4May (s : List UInt8) (b : Bool) : PCall Tryz.prog 47 [.s s, (.g (.bool (b)))] (.g (.bool (decB (MayP s b)))) := by
 refine zbu Tryz.func47 (by rfl) (by rfl) (by rw [Tryz.ntmps47]; exact Nat.le_of_ble_eq_true rfl) rfl (by decide) ?_
 rw [Tryz.ntmps47]
 refine AW_k [(0, _), (1, _)] ⟨rfl, rfl, trivial⟩ ?_
 refine AW_r rfl rfl fun K hK => ?_
 simp (disch := omega)
 repeat' first | (refine ⟨by omega, ?_⟩) | (intro _)
 refine hK _ ?_; clear hK K
 refine zbm ?_
 refine AW_r rfl rfl fun K hK => ?_
 simp (disch := omega)
 repeat' first | (refine ⟨by omega, ?_⟩) | (intro _)
 refine hK _ ?_; clear hK K
 refine zbl rfl (fun hc1 => ?_) (fun hc1 => ?_)
 ·try simp at hc1
  all_goals
   refine AW_r rfl rfl fun K hK => ?_
   simp (disch := omega)
   repeat' first | (exfalso; omega) | (refine zcx (zbh zgv zbs) (l4Word _) rfl ?_; simp (disch := omega)) | (refine ⟨fun _ => ?_, fun _ => ?_⟩) | (refine ⟨by omega, ?_⟩) | (intro _)
   all_goals (refine hK _ ?_; clear hK K)
   all_goals
    refine zbo (zb4 ?_)
    simp (disch := omega)
    all_goals first | (simp_all [MayP]; done) | (rw [Bool.eq_iff_iff]; simp_all [MayP, zba])
 ·try simp at hc1
  all_goals
   refine zbn ?_
   refine zbq ?_
   refine AW_r rfl rfl fun K hK => ?_
   simp (disch := omega)
   repeat' first | (exfalso; omega) | (refine ⟨fun _ => ?_, fun _ => ?_⟩) | (refine ⟨by omega, ?_⟩) | (intro _)
   all_goals (refine hK _ ?_; clear hK K)
   all_goals
    refine zbo (zb4 ?_)
    simp (disch := omega)
    all_goals first | (simp_all [MayP]; done) | (rw [Bool.eq_iff_iff]; simp_all [MayP, zba])
theorem wordIf (s : List UInt8) (b : Bool) (hs : s.length ≤ 1048576) : PCall Tryz.prog 57 [.s s, (.g (.bool (b)))] (.g (.bool (decB (MayP s b)))) := by
 refine zbu Tryz.func57 (by rfl) (by rfl) (by rw [Tryz.ntmps57]; exact Nat.le_of_ble_eq_true rfl) rfl (by decide) ?_
 rw [Tryz.ntmps57]
 refine AW_k [(0, _), (1, _)] ⟨rfl, rfl, trivial⟩ ?_
 refine AW_r rfl rfl fun K hK => ?_
 simp (disch := omega)
 repeat' first | (refine ⟨by omega, ?_⟩) | (intro _)
 refine hK _ ?_; clear hK K
 refine zbm ?_
 refine AW_r rfl rfl fun K hK => ?_
 simp (disch := omega)
 repeat' first | (refine ⟨by omega, ?_⟩) | (intro _)
 refine hK _ ?_; clear hK K
 refine zbl rfl (fun hc2 => ?_) (fun hc2 => ?_)
 ·try simp at hc2
  all_goals
   refine AW_r rfl rfl fun K hK => ?_
   simp (disch := omega)
   repeat' first | (exfalso; omega) | (refine zcx (zbh zgv zbs) (isWord _ (by omega)) rfl ?_; simp (disch := omega)) | (refine ⟨fun _ => ?_, fun _ => ?_⟩) | (refine ⟨by omega, ?_⟩) | (intro _)
   all_goals (refine hK _ ?_; clear hK K)
   all_goals
    refine zbo (zb4 ?_)
    simp (disch := omega)
    all_goals first | (simp_all [MayP]; done) | (rw [Bool.eq_iff_iff]; simp_all [MayP, zba])
 ·try simp at hc2
  all_goals
   refine zbn ?_
   refine zbq ?_
   refine AW_r rfl rfl fun K hK => ?_
   simp (disch := omega)
   repeat' first | (exfalso; omega) | (refine ⟨fun _ => ?_, fun _ => ?_⟩) | (refine ⟨by omega, ?_⟩) | (intro _)
   all_goals (refine hK _ ?_; clear hK K)
   all_goals
    refine zbo (zb4 ?_)
    simp (disch := omega)
    all_goals first | (simp_all [MayP]; done) | (rw [Bool.eq_iff_iff]; simp_all [MayP, zba])
theorem l4Texts (xs ys : List (List UInt8)) (hn : xs.length ≤ 1048576) : PCall Tryz.prog 78 [.sl 1 (xs.map cS), .sl 1 (ys.map cS)] (.g (.bool (eqB xs ys))) := by
 refine zbu Tryz.func78 (by rfl) (by rfl) (by rw [Tryz.ntmps78]; exact Nat.le_of_ble_eq_true rfl) rfl (by decide) ?_
 rw [Tryz.ntmps78]
 refine AW_k [(0, _), (1, _)] ⟨rfl, rfl, trivial⟩ ?_
 refine AW_r rfl rfl fun K hK => ?_
 simp (disch := omega)
 repeat' first | (refine ⟨by omega, ?_⟩) | (intro _)
 refine hK _ ?_; clear hK K
 refine zbm ?_
 refine AW_r rfl rfl fun K hK => ?_
 simp (disch := omega)
 repeat' first | (refine ⟨by omega, ?_⟩) | (intro _)
 refine hK _ ?_; clear hK K
 refine zbl rfl (fun hc3 => ?_) (fun hc3 => ?_)
 ·try simp at hc3
  all_goals
   refine AW_r rfl rfl fun K hK => ?_
   simp (disch := omega)
   repeat' first | (exfalso; omega) | (refine ⟨fun _ => ?_, fun _ => ?_⟩) | (refine ⟨by omega, ?_⟩) | (intro _)
   all_goals (refine hK _ ?_; clear hK K)
   all_goals
    refine zbo (zb4 ?_)
    simp (disch := omega)
    all_goals first | (exact zcd heq) | (refine zb8 fun heq => ?_; subst heq; simp_all; done)
 ·try simp at hc3
  all_goals
   refine zbn ?_
   refine zbq ?_
   refine zbm ?_
   refine AW_r rfl rfl fun K hK => ?_
   simp (disch := omega)
   repeat' first | (exfalso; omega) | (refine ⟨fun _ => ?_, fun _ => ?_⟩) | (refine ⟨by omega, ?_⟩) | (intro _)
   all_goals (refine hK _ ?_; clear hK K)
   all_goals
    refine zbt ?_
    refine zb5 (fun mM sS => ∃ (i : Nat), mM = xs.length - i ∧ (i ≤ xs.length ∧ ∀ j, j < i → xs[j]? = ys[j]?) ∧ sS = { env := lkE [(0, .sl 1 (xs.map cS)), (1, .sl 1 (ys.map cS)), (5, (.g (.int .i64 ((i : Nat)))))], ob := formOb [] [] }) ?_ ?_
    ·refine ⟨_, LeS.kp [(0, .sl 1 (xs.map cS)), (1, .sl 1 (ys.map cS)), (5, (.g (.int .i64 (((0) : Nat)))))] (by simp [KpE, zbe, zbv, zbc]; try rfl), _, 0, rfl, ?_, rfl⟩
     ·simp
    ·rintro mM sS ⟨i, rfl, ⟨hi, hpre⟩, rfl⟩
     refine zbm ?_
     refine AW_r rfl rfl fun K hK => ?_
     simp (disch := omega) [cS]
     repeat' first | (refine ⟨by omega, ?_⟩) | (intro _)
     refine hK _ ?_; clear hK K
     refine zbl rfl (fun hc4 => ?_) (fun hc4 => ?_)
     ·try simp at hc4
      all_goals
       have h7 : i < ys.length := by omega
       refine zbn ?_
       refine zbq ?_
       refine zbm ?_
       refine zbt ?_
       refine AW_q rfl mix (by kernel_rfl) rfl fun K hK => ?_
       simp (disch := omega) [cS]
       repeat' first | (exfalso; omega) | (refine ⟨fun _ => ?_, fun _ => ?_⟩) | (refine ⟨by omega, ?_⟩) | (intro _)
       all_goals (refine hK _ ?_; clear hK K)
       all_goals
        refine zbl rfl (fun hc5 => ?_) (fun hc5 => ?_)
        ·try simp at hc5
         all_goals
          refine AW_r rfl rfl fun K hK => ?_
          simp (disch := omega) [cS]
          repeat' first | (exfalso; omega) | (refine ⟨fun _ => ?_, fun _ => ?_⟩) | (refine ⟨by omega, ?_⟩) | (intro _)
          all_goals (refine hK _ ?_; clear hK K)
          all_goals
           refine zbo (zb4 ?_)
           simp (disch := omega) [cS]
           all_goals first | (exact zcd heq) | (refine zb8 fun heq => ?_; subst heq; simp_all; done)
        ·try simp at hc5
         all_goals
          refine zbn ?_
          refine zbq ?_
          refine zc6 rfl rfl fun K hK => ?_
          simp (disch := omega) [cS]
          repeat' first | (exfalso; omega) | (refine ⟨fun _ => ?_, fun _ => ?_⟩) | (refine ⟨by omega, ?_⟩) | (intro _)
          all_goals (refine hK _ ?_; clear hK K)
          all_goals
           refine ⟨_, LeS.kp [(0, .sl 1 (xs.map cS)), (1, .sl 1 (ys.map cS)), (5, (.g (.int .i64 (((i + 1) : Nat)))))] (by simp [KpE, zbe, zbv, zbc]; try rfl), _, ?_, i + 1, rfl, ?_, rfl⟩
           ·omega
           ·refine ⟨by omega, fun j hj => ?_⟩
            by_cases hji : j = i
            ·subst hji; simp_all
            ·exact hpre j (by omega)
     ·try simp at hc4
      all_goals
       have hi2 : i = xs.length := by omega
       subst hi2
       have heq : xs = ys := List.ext_getElem? fun j => by
        by_cases hj : j < xs.length
        ·exact hpre j hj
        ·rw [List.getElem?_eq_none (by omega), List.getElem?_eq_none (by omega)]
       refine zb7 ?_
       refine zbq ?_
       refine AW_r rfl rfl fun K hK => ?_
       simp (disch := omega) [cS]
       repeat' first | (exfalso; omega) | (refine ⟨fun _ => ?_, fun _ => ?_⟩) | (refine ⟨by omega, ?_⟩) | (intro _)
       all_goals (refine hK _ ?_; clear hK K)
       all_goals
        refine zbo (zb4 ?_)
        simp (disch := omega) [cS]
        all_goals first | (exact zcd heq) | (refine zb8 fun heq => ?_; subst heq; simp_all; done)
theorem equalS (xs ys : List (List UInt8)) (hn : xs.length ≤ 1048576) : PCall Tryz.prog 85 [.sl 1 (xs.map cS), .sl 1 (ys.map cS)] (.g (.bool (eqB xs ys))) := by
 refine zbu Tryz.func85 (by rfl) (by rfl) (by rw [Tryz.ntmps85]; exact Nat.le_of_ble_eq_true rfl) rfl (by decide) ?_
 rw [Tryz.ntmps85]
 refine AW_k [(0, _), (1, _)] ⟨rfl, rfl, trivial⟩ ?_
 refine AW_r rfl rfl fun K hK => ?_
 simp (disch := omega)
 repeat' first | (refine ⟨by omega, ?_⟩) | (intro _)
 refine hK _ ?_; clear hK K
 refine zbm ?_
 refine AW_r rfl rfl fun K hK => ?_
 simp (disch := omega)
 repeat' first | (refine ⟨by omega, ?_⟩) | (intro _)
 refine hK _ ?_; clear hK K
 refine zbl rfl (fun hc6 => ?_) (fun hc6 => ?_)
 ·try simp at hc6
  all_goals
   refine AW_r rfl rfl fun K hK => ?_
   simp (disch := omega)
   repeat' first | (exfalso; omega) | (refine ⟨fun _ => ?_, fun _ => ?_⟩) | (refine ⟨by omega, ?_⟩) | (intro _)
   all_goals (refine hK _ ?_; clear hK K)
   all_goals
    refine zbo (zb4 ?_)
    simp (disch := omega)
    all_goals first | (exact zcd heq) | (refine zb8 fun heq => ?_; subst heq; simp_all; done)
 ·try simp at hc6
  all_goals
   refine zbn ?_
   refine zbq ?_
   refine zbm ?_
   refine AW_r rfl rfl fun K hK => ?_
   simp (disch := omega)
   repeat' first | (exfalso; omega) | (refine ⟨fun _ => ?_, fun _ => ?_⟩) | (refine ⟨by omega, ?_⟩) | (intro _)
   all_goals (refine hK _ ?_; clear hK K)
   all_goals
    refine zbt ?_
    refine zb5 (fun mM sS => ∃ (i : Nat), mM = xs.length - i ∧ (i ≤ xs.length ∧ ∀ j, j < i → xs[j]? = ys[j]?) ∧ sS = { env := lkE [(0, .sl 1 (xs.map cS)), (1, .sl 1 (ys.map cS)), (12, (.g (.int .i64 ((xs.length : Nat))))), (13, (.g (.int .i64 ((i : Nat)))))], ob := formOb [] [] }) ?_ ?_
    ·refine ⟨_, LeS.kp [(0, .sl 1 (xs.map cS)), (1, .sl 1 (ys.map cS)), (12, (.g (.int .i64 ((xs.length : Nat))))), (13, (.g (.int .i64 (((0) : Nat)))))] (by simp [KpE, zbe, zbv, zbc]; try rfl), _, 0, rfl, ?_, rfl⟩
     ·simp
    ·rintro mM sS ⟨i, rfl, ⟨hi, hpre⟩, rfl⟩
     refine AW_r rfl rfl fun K hK => ?_
     simp (disch := omega) [cS]
     repeat' first | (refine ⟨by omega, ?_⟩) | (intro _)
     refine hK _ ?_; clear hK K
     refine zbm ?_
     refine zbl rfl (fun hc7 => ?_) (fun hc7 => ?_)
     ·try simp at hc7
      all_goals
       have h7 : i < ys.length := by omega
       refine zbn ?_
       refine zbq ?_
       refine zbm ?_
       refine zbt ?_
       refine AW_r rfl rfl fun K hK => ?_
       simp (disch := omega) [cS]
       repeat' first | (exfalso; omega) | (refine ⟨fun _ => ?_, fun _ => ?_⟩) | (refine ⟨by omega, ?_⟩) | (intro _)
       all_goals (refine hK _ ?_; clear hK K)
       all_goals
        refine AW_q rfl mix (by kernel_rfl) rfl fun K hK => ?_
        simp (disch := omega) [cS]
        repeat' first | (refine ⟨by omega, ?_⟩) | (intro _)
        refine hK _ ?_; clear hK K
        refine zbl rfl (fun hc8 => ?_) (fun hc8 => ?_)
        ·try simp at hc8
         all_goals
          refine AW_r rfl rfl fun K hK => ?_
          simp (disch := omega) [cS]
          repeat' first | (exfalso; omega) | (refine ⟨fun _ => ?_, fun _ => ?_⟩) | (refine ⟨by omega, ?_⟩) | (intro _)
          all_goals (refine hK _ ?_; clear hK K)
          all_goals
           refine zbo (zb4 ?_)
           simp (disch := omega) [cS]
           all_goals first | (exact zcd heq) | (refine zb8 fun heq => ?_; subst heq; simp_all; done)
        ·try simp at hc8
         all_goals
          refine zbn ?_
          refine zbq ?_
          refine zc6 rfl rfl fun K hK => ?_
          simp (disch := omega) [cS]
          repeat' first | (exfalso; omega) | (refine ⟨fun _ => ?_, fun _ => ?_⟩) | (refine ⟨by omega, ?_⟩) | (intro _)
          all_goals (refine hK _ ?_; clear hK K)
          all_goals
           refine ⟨_, LeS.kp [(0, .sl 1 (xs.map cS)), (1, .sl 1 (ys.map cS)), (12, (.g (.int .i64 ((xs.length : Nat))))), (13, (.g (.int .i64 (((i + 1) : Nat)))))] (by simp [KpE, zbe, zbv, zbc]; try rfl), _, ?_, i + 1, rfl, ?_, rfl⟩
           ·omega
           ·refine ⟨by omega, fun j hj => ?_⟩
            by_cases hji : j = i
            ·subst hji; simp_all
            ·exact hpre j (by omega)
     ·try simp at hc7
      all_goals
       have hi2 : i = xs.length := by omega
       subst hi2
       have heq : xs = ys := List.ext_getElem? fun j => by
        by_cases hj : j < xs.length
        ·exact hpre j hj
        ·rw [List.getElem?_eq_none (by omega), List.getElem?_eq_none (by omega)]
       refine zb7 ?_
       refine zbq ?_
       refine AW_r rfl rfl fun K hK => ?_
       simp (disch := omega) [cS]
       repeat' first | (exfalso; omega) | (refine ⟨fun _ => ?_, fun _ => ?_⟩) | (refine ⟨by omega, ?_⟩) | (intro _)
       all_goals (refine hK _ ?_; clear hK K)
       all_goals
        refine zbo (zb4 ?_)
        simp (disch := omega) [cS]
        all_goals first | (exact zcd heq) | (refine zb8 fun heq => ?_; subst heq; simp_all; done)
attribute [local simp] DtCmd.cells
theorem zs8 (a b : DtCmd) (hn : a.fChunks.length ≤ 1048576) : PCall Tryz.prog 46 [.agg (DtCmd.cells a), .agg (DtCmd.cells b)] (.g (.bool (eqB a b))) := by
 have he := DtCmd.ext_iff a b
 refine zbu Tryz.func46 (by rfl) (by rfl) (by rw [Tryz.ntmps46]; exact Nat.le_of_ble_eq_true rfl) rfl (by decide) ?_
 rw [Tryz.ntmps46]
 refine AW_k [(0, _), (1, _)] ⟨rfl, rfl, trivial⟩ ?_
 refine AW_r rfl rfl fun K hK => ?_
 simp
 repeat' first | (refine ⟨by omega, ?_⟩) | (intro _)
 refine hK _ ?_; clear hK K
 refine AW_r rfl rfl fun K hK => ?_
 simp
 repeat' first | (refine zcx (zbh zdd (zbh zdd zbs)) (l4Texts _ _ (by assumption)) rfl ?_; simp) | (refine ⟨fun _ => ?_, fun _ => ?_⟩) | (refine ⟨by omega, ?_⟩) | (intro _)
 all_goals (refine hK _ ?_; clear hK K)
 all_goals
  refine zbo (zb4 ?_)
  simp
  all_goals first | (refine zb8 fun h => ?_; rw [he] at h; simp_all; done) | (rw [Bool.eq_iff_iff, zbf, zbf, he]; simp_all; done) | (rw [Bool.eq_iff_iff, zbf, he]; simp_all [zbf]; done)
theorem zs9 (a b : DtCmd) (hn : a.fChunks.length ≤ 1048576) : PCall Tryz.prog 56 [.agg (DtCmd.cells a), .agg (DtCmd.cells b)] (.g (.bool (eqB a b))) := by
 have he := DtCmd.ext_iff a b
 refine zbu Tryz.func56 (by rfl) (by rfl) (by rw [Tryz.ntmps56]; exact Nat.le_of_ble_eq_true rfl) rfl (by decide) ?_
 rw [Tryz.ntmps56]
 refine AW_k [(0, _), (1, _)] ⟨rfl, rfl, trivial⟩ ?_
 refine AW_r rfl rfl fun K hK => ?_
 simp
 repeat' first | (refine ⟨by omega, ?_⟩) | (intro _)
 refine hK _ ?_; clear hK K
 refine AW_r rfl rfl fun K hK => ?_
 simp
 repeat' first | (refine zcx (zbh zdd (zbh zdd zbs)) (equalS _ _ (by assumption)) rfl ?_; simp) | (refine ⟨fun _ => ?_, fun _ => ?_⟩) | (refine ⟨by omega, ?_⟩) | (intro _)
 all_goals (refine hK _ ?_; clear hK K)
 all_goals
  refine zbo (zb4 ?_)
  simp
  all_goals first | (refine zb8 fun h => ?_; rw [he] at h; simp_all; done) | (rw [Bool.eq_iff_iff, zbf, zbf, he]; simp_all; done) | (rw [Bool.eq_iff_iff, zbf, he]; simp_all [zbf]; done)
attribute [local simp] zba zbb
theorem zh7 (c : DtCmd) (hs : DtCmd.sz c ≤ 1048576) : PCall Tryz.prog 20 [.agg (DtCmd.cells c)] (.g (.bool (decB (CmdP c)))) := by
 have ⟨hl, hw1, hw2, hw3⟩ : c.fChunks.length ≤ 1048576 ∧ c.fSet.length ≤ 1048576 ∧ c.fName.length ≤ 1048576 ∧ c.fTag.length ≤ 1048576 := by have := zb9 zce c.fChunks; simp only [DtCmd.sz, szS] at hs; omega
 refine zbu Tryz.func20 (by rfl) (by rfl) (by rw [Tryz.ntmps20]; exact Nat.le_of_ble_eq_true rfl) rfl (by decide) ?_
 rw [Tryz.ntmps20]
 refine AW_k [(0, _)] ⟨rfl, trivial⟩ ?_
 refine AW_r rfl rfl fun K hK => ?_
 simp (disch := omega)
 repeat' first | (refine ⟨by omega, ?_⟩) | (intro _)
 refine hK _ ?_; clear hK K
 refine zbm ?_
 refine AW_r rfl rfl fun K hK => ?_
 simp (disch := omega)
 repeat' first | (exfalso; omega) | (refine zcx (zbh zcp (zbh zcp (zbh zcp zbs))) (l1In _ _ _) rfl ?_; simp (disch := omega)) | (refine ⟨by omega, ?_⟩) | (intro _)
 refine hK _ ?_; clear hK K
 refine zbl rfl (fun hc9 => ?_) (fun hc9 => ?_)
 ·try simp [zba, zbb, zbf, zbd] at hc9
  all_goals
   refine AW_r rfl rfl fun K hK => ?_
   simp (disch := omega)
   repeat' first | (exfalso; omega) | (refine ⟨fun _ => ?_, fun _ => ?_⟩) | (refine ⟨by omega, ?_⟩) | (intro _)
   all_goals (refine hK _ ?_; clear hK K)
   all_goals
    refine zbo (zb4 ?_)
    simp (disch := omega)
    all_goals first | grind [CmdP, MayP, Ch8] | (rw [Bool.eq_iff_iff, zba, zbf]; grind [CmdP, zeroCmd]) | (simp only [CmdP, MayP, Ch8] at *; grind) | (rw [Bool.eq_iff_iff, zba]; simp [zba]; grind [CmdP, MayP, Ch8]) | (rw [Bool.eq_iff_iff, zba, zba]; grind [CmdP, MayP, Ch8]) | (rw [Bool.eq_iff_iff, zba, beq_iff_eq, len0]; grind [CmdP, MayP, Ch8])
 ·try simp [zba, zbb, zbf, zbd] at hc9
  all_goals
   refine zbn ?_
   refine zbq ?_
   refine zbm ?_
   refine AW_r rfl rfl fun K hK => ?_
   simp (disch := omega)
   repeat' first | (exfalso; omega) | (refine ⟨fun _ => ?_, fun _ => ?_⟩) | (refine ⟨by omega, ?_⟩) | (intro _)
   all_goals (refine hK _ ?_; clear hK K)
   all_goals
    refine zbl rfl (fun hc10 => ?_) (fun hc10 => ?_)
    ·try simp [zba, zbb, zbf, zbd] at hc10
     all_goals
      refine AW_r rfl rfl fun K hK => ?_
      simp (disch := omega)
      repeat' first | (exfalso; omega) | (refine zcx (zbh (zbz rfl) (zbh (a := .agg _) (b := .agg (DtCmd.cells zeroCmd)) (by simp [DtCmd.cells, zeroCmd, zze, zsj, zsi, zzb, zzc, zzd]) zbs)) (zs8 c zeroCmd hl) rfl ?_; simp (disch := omega)) | (refine ⟨fun _ => ?_, fun _ => ?_⟩) | (refine ⟨by omega, ?_⟩) | (intro _)
      all_goals (refine hK _ ?_; clear hK K)
      all_goals
       refine zbo (zb4 ?_)
       simp (disch := omega)
       all_goals first | grind [CmdP, MayP, Ch8] | (rw [Bool.eq_iff_iff, zba, zbf]; grind [CmdP, zeroCmd]) | (simp only [CmdP, MayP, Ch8] at *; grind) | (rw [Bool.eq_iff_iff, zba]; simp [zba]; grind [CmdP, MayP, Ch8]) | (rw [Bool.eq_iff_iff, zba, zba]; grind [CmdP, MayP, Ch8]) | (rw [Bool.eq_iff_iff, zba, beq_iff_eq, len0]; grind [CmdP, MayP, Ch8])
    ·try simp [zba, zbb, zbf, zbd] at hc10
     all_goals
      refine zbn ?_
      refine zbq ?_
      refine AW_r rfl rfl fun K hK => ?_
      simp (disch := omega)
      repeat' first | (exfalso; omega) | (refine ⟨fun _ => ?_, fun _ => ?_⟩) | (refine ⟨by omega, ?_⟩) | (intro _)
      all_goals (refine hK _ ?_; clear hK K)
      all_goals
       refine zbm ?_
       refine AW_r rfl rfl fun K hK => ?_
       simp (disch := omega)
       repeat' first | (exfalso; omega) | (refine zcx (zbh zcp (zbh zcp (zbh zcp zbs))) (l1In _ _ _) rfl ?_; simp (disch := omega)) | (refine zcx (zbh zgv (zbh zcp zbs)) (l4May _ _) rfl ?_; simp (disch := omega)) | (refine ⟨fun _ => ?_, fun _ => ?_⟩) | (refine ⟨by omega, ?_⟩) | (intro _)
       all_goals (refine hK _ ?_; clear hK K)
       all_goals
        refine zbl rfl (fun hc11 => ?_) (fun hc11 => ?_)
        ·try simp [zba, zbb, zbf, zbd] at hc11
         all_goals
          refine AW_r rfl rfl fun K hK => ?_
          simp (disch := omega)
          repeat' first | (exfalso; omega) | (refine ⟨fun _ => ?_, fun _ => ?_⟩) | (refine ⟨by omega, ?_⟩) | (intro _)
          all_goals (refine hK _ ?_; clear hK K)
          all_goals
           refine zbo (zb4 ?_)
           simp (disch := omega)
           all_goals first | grind [CmdP, MayP, Ch8] | (rw [Bool.eq_iff_iff, zba, zbf]; grind [CmdP, zeroCmd]) | (simp only [CmdP, MayP, Ch8] at *; grind) | (rw [Bool.eq_iff_iff, zba]; simp [zba]; grind [CmdP, MayP, Ch8]) | (rw [Bool.eq_iff_iff, zba, zba]; grind [CmdP, MayP, Ch8]) | (rw [Bool.eq_iff_iff, zba, beq_iff_eq, len0]; grind [CmdP, MayP, Ch8])
        ·try simp [zba, zbb, zbf, zbd] at hc11
         all_goals
          refine zbn ?_
          refine zbq ?_
          refine zbm ?_
          refine AW_r rfl rfl fun K hK => ?_
          simp (disch := omega)
          repeat' first | (exfalso; omega) | (refine ⟨fun _ => ?_, fun _ => ?_⟩) | (refine ⟨by omega, ?_⟩) | (intro _)
          all_goals (refine hK _ ?_; clear hK K)
          all_goals
           refine zbl rfl (fun hc12 => ?_) (fun hc12 => ?_)
           ·try simp [zba, zbb, zbf, zbd] at hc12
            all_goals
             refine AW_r rfl rfl fun K hK => ?_
             simp (disch := omega)
             repeat' first | (exfalso; omega) | (refine ⟨fun _ => ?_, fun _ => ?_⟩) | (refine ⟨by omega, ?_⟩) | (intro _)
             all_goals (refine hK _ ?_; clear hK K)
             all_goals
              refine zbo (zb4 ?_)
              simp (disch := omega)
              all_goals first | grind [CmdP, MayP, Ch8] | (rw [Bool.eq_iff_iff, zba, zbf]; grind [CmdP, zeroCmd]) | (simp only [CmdP, MayP, Ch8] at *; grind) | (rw [Bool.eq_iff_iff, zba]; simp [zba]; grind [CmdP, MayP, Ch8]) | (rw [Bool.eq_iff_iff, zba, zba]; grind [CmdP, MayP, Ch8]) | (rw [Bool.eq_iff_iff, zba, beq_iff_eq, len0]; grind [CmdP, MayP, Ch8])
           ·try simp [zba, zbb, zbf, zbd] at hc12
            all_goals
             refine zbn ?_
             refine zbq ?_
             refine zbm ?_
             refine AW_r rfl rfl fun K hK => ?_
             simp (disch := omega)
             repeat' first | (exfalso; omega) | (refine zcx (zbh zcp (zbh zcp (zbh zcp zbs))) (l1In _ _ _) rfl ?_; simp (disch := omega)) | (refine ⟨fun _ => ?_, fun _ => ?_⟩) | (refine ⟨by omega, ?_⟩) | (intro _)
             all_goals (refine hK _ ?_; clear hK K)
             all_goals
              refine zbl rfl (fun hc13 => ?_) (fun hc13 => ?_)
              ·try simp [zba, zbb, zbf, zbd] at hc13
               all_goals
                refine AW_r rfl rfl fun K hK => ?_
                simp (disch := omega)
                repeat' first | (exfalso; omega) | (refine ⟨fun _ => ?_, fun _ => ?_⟩) | (refine ⟨by omega, ?_⟩) | (intro _)
                all_goals (refine hK _ ?_; clear hK K)
                all_goals
                 refine zbo (zb4 ?_)
                 simp (disch := omega)
                 all_goals first | grind [CmdP, MayP, Ch8] | (rw [Bool.eq_iff_iff, zba, zbf]; grind [CmdP, zeroCmd]) | (simp only [CmdP, MayP, Ch8] at *; grind) | (rw [Bool.eq_iff_iff, zba]; simp [zba]; grind [CmdP, MayP, Ch8]) | (rw [Bool.eq_iff_iff, zba, zba]; grind [CmdP, MayP, Ch8]) | (rw [Bool.eq_iff_iff, zba, beq_iff_eq, len0]; grind [CmdP, MayP, Ch8])
              ·try simp [zba, zbb, zbf, zbd] at hc13
               all_goals
                refine zbn ?_
                refine zbq ?_
                refine zbm ?_
                refine AW_r rfl rfl fun K hK => ?_
                simp (disch := omega)
                repeat' first | (exfalso; omega) | (refine ⟨fun _ => ?_, fun _ => ?_⟩) | (refine ⟨by omega, ?_⟩) | (intro _)
                all_goals (refine hK _ ?_; clear hK K)
                all_goals
                 refine zbt ?_
                 refine zb5 (fun mM sS => ∃ (i : Nat), mM = c.fChunks.length - i ∧ (i ≤ c.fChunks.length ∧ ∀ (j : Nat) x, j < i → c.fChunks[j]? = some x → x.length = 8) ∧ sS = { env := lkE [(1, .ptr 32 0), (4, (.g (.int .i64 ((i : Nat)))))], ob := upd (formOb [] []) 32 (some (.cells (DtCmd.cells c))) }) ?_ ?_
                 ·refine ⟨_, LeS.kp [(1, .ptr 32 0), (4, (.g (.int .i64 (((0) : Nat)))))] (by simp [KpE, zbe, zbv, zbc]; try rfl), _, 0, rfl, ?_, rfl⟩
                  ·simp
                 ·rintro mM sS ⟨i, rfl, ⟨hi, hpre⟩, rfl⟩
                  refine zbm ?_
                  refine AW_r rfl rfl fun K hK => ?_
                  simp (disch := omega) [cS]
                  repeat' first | (refine ⟨by omega, ?_⟩) | (intro _)
                  refine hK _ ?_; clear hK K
                  refine zbl rfl (fun hc14 => ?_) (fun hc14 => ?_)
                  ·try simp [zba, zbb, zbf, zbd] at hc14
                   all_goals
                    have hg : c.fChunks[i]? = some c.fChunks[i] := List.getElem?_eq_getElem (by omega)
                    refine zbn ?_
                    refine zbq ?_
                    refine zbm ?_
                    refine zbt ?_
                    refine AW_r rfl rfl fun K hK => ?_
                    simp (disch := omega) [cS]
                    repeat' first | (exfalso; omega) | (refine ⟨fun _ => ?_, fun _ => ?_⟩) | (refine ⟨by omega, ?_⟩) | (intro _)
                    all_goals (refine hK _ ?_; clear hK K)
                    all_goals
                     refine zbl rfl (fun hc15 => ?_) (fun hc15 => ?_)
                     ·try simp [zba, zbb, zbf, zbd] at hc15
                      all_goals
                       refine AW_r rfl rfl fun K hK => ?_
                       simp (disch := omega) [cS]
                       repeat' first | (exfalso; omega) | (refine ⟨fun _ => ?_, fun _ => ?_⟩) | (refine ⟨by omega, ?_⟩) | (intro _)
                       all_goals (refine hK _ ?_; clear hK K)
                       all_goals
                        refine zbo (zb4 ?_)
                        simp (disch := omega) [cS]
                        all_goals first | grind [CmdP, MayP, Ch8] | (rw [Bool.eq_iff_iff, zba, zbf]; grind [CmdP, zeroCmd]) | (simp only [CmdP, MayP, Ch8] at *; grind) | (rw [Bool.eq_iff_iff, zba]; simp [zba]; grind [CmdP, MayP, Ch8]) | (rw [Bool.eq_iff_iff, zba, zba]; grind [CmdP, MayP, Ch8]) | (rw [Bool.eq_iff_iff, zba, beq_iff_eq, len0]; grind [CmdP, MayP, Ch8])
                     ·try simp [zba, zbb, zbf, zbd] at hc15
                      all_goals
                       refine zbn ?_
                       refine zbq ?_
                       refine zc6 rfl rfl fun K hK => ?_
                       simp (disch := omega) [cS]
                       repeat' first | (exfalso; omega) | (refine ⟨fun _ => ?_, fun _ => ?_⟩) | (refine ⟨by omega, ?_⟩) | (intro _)
                       all_goals (refine hK _ ?_; clear hK K)
                       all_goals
                        refine ⟨_, LeS.kp [(1, .ptr 32 0), (4, (.g (.int .i64 (((i + 1) : Nat)))))] (by simp [KpE, zbe, zbv, zbc]; try rfl), _, ?_, i + 1, rfl, ?_, rfl⟩
                        ·omega
                        ·refine ⟨by omega, ?_⟩; grind
                  ·try simp [zba, zbb, zbf, zbd] at hc14
                   all_goals
                    refine zb7 ?_
                    refine zbq ?_
                    refine AW_r rfl rfl fun K hK => ?_
                    simp (disch := omega) [cS]
                    repeat' first | (exfalso; omega) | (refine ⟨fun _ => ?_, fun _ => ?_⟩) | (refine ⟨by omega, ?_⟩) | (intro _)
                    all_goals (refine hK _ ?_; clear hK K)
                    all_goals
                     refine zbo (zb4 ?_)
                     simp (disch := omega) [cS]
                     all_goals first | grind [CmdP, MayP, Ch8] | (rw [Bool.eq_iff_iff, zba, zbf]; grind [CmdP, zeroCmd]) | (simp only [CmdP, MayP, Ch8] at *; grind) | (rw [Bool.eq_iff_iff, zba]; simp [zba]; grind [CmdP, MayP, Ch8]) | (rw [Bool.eq_iff_iff, zba, zba]; grind [CmdP, MayP, Ch8]) | (rw [Bool.eq_iff_iff, zba, beq_iff_eq, len0]; grind [CmdP, MayP, Ch8])
theorem zh8 (c : DtCmd) (hs : DtCmd.sz c ≤ 1048576) : PCall Tryz.prog 28 [.agg (DtCmd.cells c)] (.g (.bool (decB (CmdP c)))) := by
 have ⟨hl, hw1, hw2, hw3⟩ : c.fChunks.length ≤ 1048576 ∧ c.fSet.length ≤ 1048576 ∧ c.fName.length ≤ 1048576 ∧ c.fTag.length ≤ 1048576 := by have := zb9 zce c.fChunks; simp only [DtCmd.sz, szS] at hs; omega
 refine zbu Tryz.func28 (by rfl) (by rfl) (by rw [Tryz.ntmps28]; exact Nat.le_of_ble_eq_true rfl) rfl (by decide) ?_
 rw [Tryz.ntmps28]
 refine AW_k [(0, _)] ⟨rfl, trivial⟩ ?_
 refine AW_r rfl rfl fun K hK => ?_
 simp (disch := omega)
 repeat' first | (refine ⟨by omega, ?_⟩) | (intro _)
 refine hK _ ?_; clear hK K
 refine zbm ?_
 refine AW_r rfl rfl fun K hK => ?_
 simp (disch := omega)
 repeat' first | (refine ⟨by omega, ?_⟩) | (intro _)
 refine hK _ ?_; clear hK K
 refine zbl rfl (fun hc16 => ?_) (fun hc16 => ?_)
 ·try simp [zba, zbb, zbf, zbd] at hc16
  all_goals
   refine AW_r rfl rfl fun K hK => ?_
   simp (disch := omega)
   repeat' first | (exfalso; omega) | (refine zcx (zbh (zbz rfl) (zbh (a := .agg _) (b := .agg (DtCmd.cells zeroCmd)) (by simp [DtCmd.cells, zeroCmd, zze, zsj, zsi, zzb, zzc, zzd]) zbs)) (zs9 c zeroCmd hl) rfl ?_; simp (disch := omega)) | (refine ⟨fun _ => ?_, fun _ => ?_⟩) | (refine ⟨by omega, ?_⟩) | (intro _)
   all_goals (refine hK _ ?_; clear hK K)
   all_goals
    refine zbo (zb4 ?_)
    simp (disch := omega)
    all_goals first | grind [CmdP, MayP, Ch8] | (rw [Bool.eq_iff_iff, zba, zbf]; grind [CmdP, zeroCmd]) | (simp only [CmdP, MayP, Ch8] at *; grind) | (rw [Bool.eq_iff_iff, zba]; simp [zba]; grind [CmdP, MayP, Ch8]) | (rw [Bool.eq_iff_iff, zba, zba]; grind [CmdP, MayP, Ch8]) | (rw [Bool.eq_iff_iff, zba, beq_iff_eq, len0]; grind [CmdP, MayP, Ch8])
 ·try simp [zba, zbb, zbf, zbd] at hc16
  all_goals
   refine zbn ?_
   refine zbq ?_
   refine zbm ?_
   refine AW_r rfl rfl fun K hK => ?_
   simp (disch := omega)
   repeat' first | (exfalso; omega) | (refine zcx (zbh zcp (zbh zcp (zbh zcp zbs))) (znf _ _ _) rfl ?_; simp (disch := omega)) | (refine ⟨fun _ => ?_, fun _ => ?_⟩) | (refine ⟨by omega, ?_⟩) | (intro _)
   all_goals (refine hK _ ?_; clear hK K)
   all_goals
    refine zbl rfl (fun hc17 => ?_) (fun hc17 => ?_)
    ·try simp [zba, zbb, zbf, zbd] at hc17
     all_goals
      refine AW_r rfl rfl fun K hK => ?_
      simp (disch := omega)
      repeat' first | (exfalso; omega) | (refine ⟨fun _ => ?_, fun _ => ?_⟩) | (refine ⟨by omega, ?_⟩) | (intro _)
      all_goals (refine hK _ ?_; clear hK K)
      all_goals
       refine zbo (zb4 ?_)
       simp (disch := omega)
       all_goals first | grind [CmdP, MayP, Ch8] | (rw [Bool.eq_iff_iff, zba, zbf]; grind [CmdP, zeroCmd]) | (simp only [CmdP, MayP, Ch8] at *; grind) | (rw [Bool.eq_iff_iff, zba]; simp [zba]; grind [CmdP, MayP, Ch8]) | (rw [Bool.eq_iff_iff, zba, zba]; grind [CmdP, MayP, Ch8]) | (rw [Bool.eq_iff_iff, zba, beq_iff_eq, len0]; grind [CmdP, MayP, Ch8])
    ·try simp [zba, zbb, zbf, zbd] at hc17
     all_goals
      refine zbn ?_
      refine zbq ?_
      refine zbm ?_
      refine AW_r rfl rfl fun K hK => ?_
      simp (disch := omega)
      repeat' first | (exfalso; omega) | (refine zcx (zbh zgv (zbh zcp zbs)) (wordIf _ _ (by omega)) rfl ?_; simp (disch := omega)) | (refine ⟨fun _ => ?_, fun _ => ?_⟩) | (refine ⟨by omega, ?_⟩) | (intro _)
      all_goals (refine hK _ ?_; clear hK K)
      all_goals
       refine zbl rfl (fun hc18 => ?_) (fun hc18 => ?_)
       ·try simp [zba, zbb, zbf, zbd] at hc18
        all_goals
         refine AW_r rfl rfl fun K hK => ?_
         simp (disch := omega)
         repeat' first | (exfalso; omega) | (refine ⟨fun _ => ?_, fun _ => ?_⟩) | (refine ⟨by omega, ?_⟩) | (intro _)
         all_goals (refine hK _ ?_; clear hK K)
         all_goals
          refine zbo (zb4 ?_)
          simp (disch := omega)
          all_goals first | grind [CmdP, MayP, Ch8] | (rw [Bool.eq_iff_iff, zba, zbf]; grind [CmdP, zeroCmd]) | (simp only [CmdP, MayP, Ch8] at *; grind) | (rw [Bool.eq_iff_iff, zba]; simp [zba]; grind [CmdP, MayP, Ch8]) | (rw [Bool.eq_iff_iff, zba, zba]; grind [CmdP, MayP, Ch8]) | (rw [Bool.eq_iff_iff, zba, beq_iff_eq, len0]; grind [CmdP, MayP, Ch8])
       ·try simp [zba, zbb, zbf, zbd] at hc18
        all_goals
         refine zbn ?_
         refine zbq ?_
         refine zbm ?_
         refine AW_r rfl rfl fun K hK => ?_
         simp (disch := omega)
         repeat' first | (exfalso; omega) | (refine zcx (zbh zcp (zbh zcp (zbh zcp zbs))) (znf _ _ _) rfl ?_; simp (disch := omega)) | (refine ⟨fun _ => ?_, fun _ => ?_⟩) | (refine ⟨by omega, ?_⟩) | (intro _)
         all_goals (refine hK _ ?_; clear hK K)
         all_goals
          refine zbl rfl (fun hc19 => ?_) (fun hc19 => ?_)
          ·try simp [zba, zbb, zbf, zbd] at hc19
           all_goals
            refine AW_r rfl rfl fun K hK => ?_
            simp (disch := omega)
            repeat' first | (exfalso; omega) | (refine ⟨fun _ => ?_, fun _ => ?_⟩) | (refine ⟨by omega, ?_⟩) | (intro _)
            all_goals (refine hK _ ?_; clear hK K)
            all_goals
             refine zbo (zb4 ?_)
             simp (disch := omega)
             all_goals first | grind [CmdP, MayP, Ch8] | (rw [Bool.eq_iff_iff, zba, zbf]; grind [CmdP, zeroCmd]) | (simp only [CmdP, MayP, Ch8] at *; grind) | (rw [Bool.eq_iff_iff, zba]; simp [zba]; grind [CmdP, MayP, Ch8]) | (rw [Bool.eq_iff_iff, zba, zba]; grind [CmdP, MayP, Ch8]) | (rw [Bool.eq_iff_iff, zba, beq_iff_eq, len0]; grind [CmdP, MayP, Ch8])
          ·try simp [zba, zbb, zbf, zbd] at hc19
           all_goals
            refine zbn ?_
            refine zbq ?_
            refine zbm ?_
            refine AW_r rfl rfl fun K hK => ?_
            simp (disch := omega)
            repeat' first | (exfalso; omega) | (refine ⟨fun _ => ?_, fun _ => ?_⟩) | (refine ⟨by omega, ?_⟩) | (intro _)
            all_goals (refine hK _ ?_; clear hK K)
            all_goals
             refine zbl rfl (fun hc20 => ?_) (fun hc20 => ?_)
             ·try simp [zba, zbb, zbf, zbd] at hc20
              all_goals
               refine AW_r rfl rfl fun K hK => ?_
               simp (disch := omega)
               repeat' first | (exfalso; omega) | (refine zcx (zbh zcp (zbh zcp (zbh zcp zbs))) (znf _ _ _) rfl ?_; simp (disch := omega)) | (refine zcx (zbh zdd zbs) (zrd _ (by omega)) rfl ?_; simp (disch := omega)) | (refine ⟨fun _ => ?_, fun _ => ?_⟩) | (refine ⟨by omega, ?_⟩) | (intro _)
               all_goals (refine hK _ ?_; clear hK K)
               all_goals
                refine zbo (zb4 ?_)
                simp (disch := omega)
                all_goals first | grind [CmdP, MayP, Ch8] | (rw [Bool.eq_iff_iff, zba, zbf]; grind [CmdP, zeroCmd]) | (simp only [CmdP, MayP, Ch8] at *; grind) | (rw [Bool.eq_iff_iff, zba]; simp [zba]; grind [CmdP, MayP, Ch8]) | (rw [Bool.eq_iff_iff, zba, zba]; grind [CmdP, MayP, Ch8]) | (rw [Bool.eq_iff_iff, zba, beq_iff_eq, len0]; grind [CmdP, MayP, Ch8])
             ·try simp [zba, zbb, zbf, zbd] at hc20
              all_goals
               refine zbn ?_
               refine zbq ?_
               refine AW_r rfl rfl fun K hK => ?_
               simp (disch := omega)
               repeat' first | (exfalso; omega) | (refine ⟨fun _ => ?_, fun _ => ?_⟩) | (refine ⟨by omega, ?_⟩) | (intro _)
               all_goals (refine hK _ ?_; clear hK K)
               all_goals
                refine zbo (zb4 ?_)
                simp (disch := omega)
                all_goals first | grind [CmdP, MayP, Ch8] | (rw [Bool.eq_iff_iff, zba, zbf]; grind [CmdP, zeroCmd]) | (simp only [CmdP, MayP, Ch8] at *; grind) | (rw [Bool.eq_iff_iff, zba]; simp [zba]; grind [CmdP, MayP, Ch8]) | (rw [Bool.eq_iff_iff, zba, zba]; grind [CmdP, MayP, Ch8]) | (rw [Bool.eq_iff_iff, zba, beq_iff_eq, len0]; grind [CmdP, MayP, Ch8])
end Go.Proofs.YtmheohnbkaoipaaGreat.Vs
