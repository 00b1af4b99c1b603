import Derived.Test.YtfbmhgiokfpgiaaSA1
open Go Go.Proofs Go.Proofs.Ytfbmhgiokfpgiaa.Vs
namespace Go.Proofs.Ytfbmhgiokfpgiaa.Vs
set_option linter.all false
set_option linter.unusedSimpArgs false
set_option linter.unusedVariables false
set_option maxRecDepth 100000
theorem len0 {α : Type} (l : List α) : ((l.length : Int) = 0) = (l = []) := by rw [eq_iff_iff, ← List.length_eq_zero_iff]; omega
def MayP (s : List UInt8) (must : Bool) : Prop := if must then Word s else s = []
def zeroCmd : DtCmd := ⟨0, 0, 0, [], [], [], 0, []⟩
def CmdP (c : DtCmd) : Prop := (c.fKind = 0 ∧ c = zeroCmd) ∨ (1 ≤ c.fKind ∧ c.fKind ≤ 7 ∧ 1 ≤ c.fClient ∧ c.fClient ≤ 9 ∧ 1 ≤ c.fNo ∧ c.fNo ≤ 1000 ∧ (c.fKind ≠ 7 → Word c.fSet) ∧ (c.fKind = 7 → c.fSet = []) ∧ (c.fKind = 3 ∨ c.fKind = 4 → Word c.fName) ∧ (¬ (c.fKind = 3 ∨ c.fKind = 4) → c.fName = []) ∧ (c.fKind = 4 → Word c.fTag) ∧ (c.fKind ≠ 4 → c.fTag = []) ∧ (c.fN ≠ 0 → c.fKind = 5 ∧ 0 ≤ c.fN ∧ c.fN ≤ 9) ∧ (c.fKind = 3 → 1 ≤ c.fChunks.length ∧ c.fChunks.length ≤ 4 ∧ Ch8 c.fChunks) ∧ (c.fKind ≠ 3 → c.fChunks = []))
theorem l4May (s : List UInt8) (b : Bool) : PCall Try.prog 74 [.s s, (.g (.bool (b)))] (.g (.bool (decB (MayP s b)))) := by
 refine zbu Try.func74 (by rfl) (by rfl) (by rw [Try.ntmps74]; exact Nat.le_of_ble_eq_true rfl) rfl (by decide) ?_
 rw [Try.ntmps74]
 refine AW_k [(0, _), (1, _)] ⟨rfl, rfl, trivial⟩ ?_
 refine AW_r rfl rfl fun K hK => ?_
 simp (disch := omega) [zbd, gE, tP]
 repeat' first | (refine ⟨by omega, ?_⟩) | (intro _)
 refine hK _ ?_; clear hK K
 refine zbt ?_
 refine AW_r rfl rfl fun K hK => ?_
 simp (disch := omega) [zbd, gE, tP]
 repeat' first | (refine ⟨by omega, ?_⟩) | (intro _)
 refine hK _ ?_; clear hK K
 refine zbv rfl (fun hc1 => ?_) (fun hc1 => ?_)
 ·try simp at hc1
  all_goals
   refine AW_r rfl rfl fun K hK => ?_
   simp (disch := omega) [zbd, gE, tP]
   repeat' first | (exfalso; omega) | (refine zck (zbg am2_s zbr) (l4Word _) rfl ?_; simp (disch := omega) [zbd, gE, tP]) | (refine ⟨fun _ => ?_, fun _ => ?_⟩) | (refine ⟨by omega, ?_⟩) | (intro _)
   all_goals (refine hK _ ?_; clear hK K)
   all_goals
    refine zbz (zcb ?_)
    simp (disch := omega) [zbd, gE, tP]
    all_goals first | (simp_all [MayP]; done) | (rw [Bool.eq_iff_iff]; simp_all [MayP, zbb])
 ·try simp at hc1
  all_goals
   refine zbw ?_
   refine zb3 ?_
   refine AW_r rfl rfl fun K hK => ?_
   simp (disch := omega) [zbd, gE, tP]
   repeat' first | (exfalso; omega) | (refine ⟨fun _ => ?_, fun _ => ?_⟩) | (refine ⟨by omega, ?_⟩) | (intro _)
   all_goals (refine hK _ ?_; clear hK K)
   all_goals
    refine zbz (zcb ?_)
    simp (disch := omega) [zbd, gE, tP]
    all_goals first | (simp_all [MayP]; done) | (rw [Bool.eq_iff_iff]; simp_all [MayP, zbb])
theorem wordIf (s : List UInt8) (b : Bool) (hs : s.length ≤ 1048576) : PCall Try.prog 76 [.s s, (.g (.bool (b)))] (.g (.bool (decB (MayP s b)))) := by
 refine zbu Try.func76 (by rfl) (by rfl) (by rw [Try.ntmps76]; exact Nat.le_of_ble_eq_true rfl) rfl (by decide) ?_
 rw [Try.ntmps76]
 refine AW_k [(0, _), (1, _)] ⟨rfl, rfl, trivial⟩ ?_
 refine AW_r rfl rfl fun K hK => ?_
 simp (disch := omega) [zbd, gE, tP]
 repeat' first | (refine ⟨by omega, ?_⟩) | (intro _)
 refine hK _ ?_; clear hK K
 refine zbt ?_
 refine AW_r rfl rfl fun K hK => ?_
 simp (disch := omega) [zbd, gE, tP]
 repeat' first | (refine ⟨by omega, ?_⟩) | (intro _)
 refine hK _ ?_; clear hK K
 refine zbv rfl (fun hc2 => ?_) (fun hc2 => ?_)
 ·try simp at hc2
  all_goals
   refine AW_r rfl rfl fun K hK => ?_
   simp (disch := omega) [zbd, gE, tP]
   repeat' first | (exfalso; omega) | (refine zck (zbg am2_s zbr) (isWord _ (by omega)) rfl ?_; simp (disch := omega) [zbd, gE, tP]) | (refine ⟨fun _ => ?_, fun _ => ?_⟩) | (refine ⟨by omega, ?_⟩) | (intro _)
   all_goals (refine hK _ ?_; clear hK K)
   all_goals
    refine zbz (zcb ?_)
    simp (disch := omega) [zbd, gE, tP]
    all_goals first | (simp_all [MayP]; done) | (rw [Bool.eq_iff_iff]; simp_all [MayP, zbb])
 ·try simp at hc2
  all_goals
   refine zbw ?_
   refine zb3 ?_
   refine AW_r rfl rfl fun K hK => ?_
   simp (disch := omega) [zbd, gE, tP]
   repeat' first | (exfalso; omega) | (refine ⟨fun _ => ?_, fun _ => ?_⟩) | (refine ⟨by omega, ?_⟩) | (intro _)
   all_goals (refine hK _ ?_; clear hK K)
   all_goals
    refine zbz (zcb ?_)
    simp (disch := omega) [zbd, gE, tP]
    all_goals first | (simp_all [MayP]; done) | (rw [Bool.eq_iff_iff]; simp_all [MayP, zbb])
theorem l4Texts (xs ys : List (List UInt8)) (hn : xs.length ≤ 1048576) : PCall Try.prog 85 [.sl 1 (xs.map cS), .sl 1 (ys.map cS)] (.g (.bool (eqB xs ys))) := by
 refine zbu Try.func85 (by rfl) (by rfl) (by rw [Try.ntmps85]; exact Nat.le_of_ble_eq_true rfl) rfl (by decide) ?_
 rw [Try.ntmps85]
 refine AW_k [(0, _), (1, _)] ⟨rfl, rfl, trivial⟩ ?_
 refine AW_r rfl rfl fun K hK => ?_
 simp (disch := omega) [zbd, gE, tP]
 repeat' first | (refine ⟨by omega, ?_⟩) | (intro _)
 refine hK _ ?_; clear hK K
 refine zbt ?_
 refine AW_r rfl rfl fun K hK => ?_
 simp (disch := omega) [zbd, gE, tP]
 repeat' first | (refine ⟨by omega, ?_⟩) | (intro _)
 refine hK _ ?_; clear hK K
 refine zbv rfl (fun hc3 => ?_) (fun hc3 => ?_)
 ·try simp at hc3
  all_goals
   refine AW_r rfl rfl fun K hK => ?_
   simp (disch := omega) [zbd, gE, tP]
   repeat' first | (exfalso; omega) | (refine ⟨fun _ => ?_, fun _ => ?_⟩) | (refine ⟨by omega, ?_⟩) | (intro _)
   all_goals (refine hK _ ?_; clear hK K)
   all_goals
    refine zbz (zcb ?_)
    simp (disch := omega) [zbd, gE, tP]
    all_goals first | (exact zch heq) | (refine zcd fun heq => ?_; subst heq; simp_all; done)
 ·try simp at hc3
  all_goals
   refine zbw ?_
   refine zb3 ?_
   refine zbt ?_
   refine AW_r rfl rfl fun K hK => ?_
   simp (disch := omega) [zbd, gE, tP]
   repeat' first | (exfalso; omega) | (refine ⟨fun _ => ?_, fun _ => ?_⟩) | (refine ⟨by omega, ?_⟩) | (intro _)
   all_goals (refine hK _ ?_; clear hK K)
   all_goals
    refine zb0 ?_
    refine zcc (fun mM sS => ∃ (i : Nat), mM = xs.length - i ∧ (i ≤ xs.length ∧ ∀ j, j < i → xs[j]? = ys[j]?) ∧ sS = { env := lkE [(0, .sl 1 (xs.map cS)), (1, .sl 1 (ys.map cS)), (5, (.g (.int .i64 ((i : Nat)))))], ob := formOb [] [] }) ?_ ?_
    ·refine ⟨_, LeS.kp [(0, .sl 1 (xs.map cS)), (1, .sl 1 (ys.map cS)), (5, (.g (.int .i64 (((0) : Nat)))))] (by simp [KpE, zbn, zb4, zbk]; try rfl), _, 0, rfl, ?_, rfl⟩
     ·simp
    ·rintro mM sS ⟨i, rfl, ⟨hi, hpre⟩, rfl⟩
     refine zbt ?_
     refine AW_r rfl rfl fun K hK => ?_
     simp (disch := omega) [zbd, gE, tP, cS]
     repeat' first | (refine ⟨by omega, ?_⟩) | (intro _)
     refine hK _ ?_; clear hK K
     refine zbv rfl (fun hc4 => ?_) (fun hc4 => ?_)
     ·try simp at hc4
      all_goals
       have h7 : i < ys.length := by omega
       refine zbw ?_
       refine zb3 ?_
       refine zbt ?_
       refine zb0 ?_
       refine AW_q rfl mix (by kernel_rfl) rfl fun K hK => ?_
       simp (disch := omega) [zbd, gE, tP, cS]
       repeat' first | (exfalso; omega) | (refine ⟨fun _ => ?_, fun _ => ?_⟩) | (refine ⟨by omega, ?_⟩) | (intro _)
       all_goals (refine hK _ ?_; clear hK K)
       all_goals
        refine zbv rfl (fun hc5 => ?_) (fun hc5 => ?_)
        ·try simp at hc5
         all_goals
          refine AW_r rfl rfl fun K hK => ?_
          simp (disch := omega) [zbd, gE, tP, cS]
          repeat' first | (exfalso; omega) | (refine ⟨fun _ => ?_, fun _ => ?_⟩) | (refine ⟨by omega, ?_⟩) | (intro _)
          all_goals (refine hK _ ?_; clear hK K)
          all_goals
           refine zbz (zcb ?_)
           simp (disch := omega) [zbd, gE, tP, cS]
           all_goals first | (exact zch heq) | (refine zcd fun heq => ?_; subst heq; simp_all; done)
        ·try simp at hc5
         all_goals
          refine zbw ?_
          refine zb3 ?_
          refine zdf rfl rfl fun K hK => ?_
          simp (disch := omega) [zbd, gE, tP, cS]
          repeat' first | (exfalso; omega) | (refine ⟨fun _ => ?_, fun _ => ?_⟩) | (refine ⟨by omega, ?_⟩) | (intro _)
          all_goals (refine hK _ ?_; clear hK K)
          all_goals
           refine ⟨_, LeS.kp [(0, .sl 1 (xs.map cS)), (1, .sl 1 (ys.map cS)), (5, (.g (.int .i64 (((i + 1) : Nat)))))] (by simp [KpE, zbn, zb4, zbk]; try rfl), _, ?_, i + 1, rfl, ?_, rfl⟩
           ·omega
           ·refine ⟨by omega, fun j hj => ?_⟩
            by_cases hji : j = i
            ·subst hji; simp_all
            ·exact hpre j (by omega)
     ·try simp at hc4
      all_goals
       have hi2 : i = xs.length := by omega
       subst hi2
       have heq : xs = ys := List.ext_getElem? fun j => by
        by_cases hj : j < xs.length
        ·exact hpre j hj
        ·rw [List.getElem?_eq_none (by omega), List.getElem?_eq_none (by omega)]
       refine zce ?_
       refine zb3 ?_
       refine AW_r rfl rfl fun K hK => ?_
       simp (disch := omega) [zbd, gE, tP, cS]
       repeat' first | (exfalso; omega) | (refine ⟨fun _ => ?_, fun _ => ?_⟩) | (refine ⟨by omega, ?_⟩) | (intro _)
       all_goals (refine hK _ ?_; clear hK K)
       all_goals
        refine zbz (zcb ?_)
        simp (disch := omega) [zbd, gE, tP, cS]
        all_goals first | (exact zch heq) | (refine zcd fun heq => ?_; subst heq; simp_all; done)
theorem equalS (xs ys : List (List UInt8)) (hn : xs.length ≤ 1048576) : PCall Try.prog 87 [.sl 1 (xs.map cS), .sl 1 (ys.map cS)] (.g (.bool (eqB xs ys))) := by
 refine zbu Try.func87 (by rfl) (by rfl) (by rw [Try.ntmps87]; exact Nat.le_of_ble_eq_true rfl) rfl (by decide) ?_
 rw [Try.ntmps87]
 refine AW_k [(0, _), (1, _)] ⟨rfl, rfl, trivial⟩ ?_
 refine AW_r rfl rfl fun K hK => ?_
 simp (disch := omega) [zbd, gE, tP]
 repeat' first | (refine ⟨by omega, ?_⟩) | (intro _)
 refine hK _ ?_; clear hK K
 refine zbt ?_
 refine AW_r rfl rfl fun K hK => ?_
 simp (disch := omega) [zbd, gE, tP]
 repeat' first | (refine ⟨by omega, ?_⟩) | (intro _)
 refine hK _ ?_; clear hK K
 refine zbv rfl (fun hc6 => ?_) (fun hc6 => ?_)
 ·try simp at hc6
  all_goals
   refine AW_r rfl rfl fun K hK => ?_
   simp (disch := omega) [zbd, gE, tP]
   repeat' first | (exfalso; omega) | (refine ⟨fun _ => ?_, fun _ => ?_⟩) | (refine ⟨by omega, ?_⟩) | (intro _)
   all_goals (refine hK _ ?_; clear hK K)
   all_goals
    refine zbz (zcb ?_)
    simp (disch := omega) [zbd, gE, tP]
    all_goals first | (exact zch heq) | (refine zcd fun heq => ?_; subst heq; simp_all; done)
 ·try simp at hc6
  all_goals
   refine zbw ?_
   refine zb3 ?_
   refine zbt ?_
   refine AW_r rfl rfl fun K hK => ?_
   simp (disch := omega) [zbd, gE, tP]
   repeat' first | (exfalso; omega) | (refine ⟨fun _ => ?_, fun _ => ?_⟩) | (refine ⟨by omega, ?_⟩) | (intro _)
   all_goals (refine hK _ ?_; clear hK K)
   all_goals
    refine zb0 ?_
    refine zcc (fun mM sS => ∃ (i : Nat), mM = xs.length - i ∧ (i ≤ xs.length ∧ ∀ j, j < i → xs[j]? = ys[j]?) ∧ sS = { env := lkE [(0, .sl 1 (xs.map cS)), (1, .sl 1 (ys.map cS)), (12, (.g (.int .i64 ((xs.length : Nat))))), (13, (.g (.int .i64 ((i : Nat)))))], ob := formOb [] [] }) ?_ ?_
    ·refine ⟨_, LeS.kp [(0, .sl 1 (xs.map cS)), (1, .sl 1 (ys.map cS)), (12, (.g (.int .i64 ((xs.length : Nat))))), (13, (.g (.int .i64 (((0) : Nat)))))] (by simp [KpE, zbn, zb4, zbk]; try rfl), _, 0, rfl, ?_, rfl⟩
     ·simp
    ·rintro mM sS ⟨i, rfl, ⟨hi, hpre⟩, rfl⟩
     refine AW_r rfl rfl fun K hK => ?_
     simp (disch := omega) [zbd, gE, tP, cS]
     repeat' first | (refine ⟨by omega, ?_⟩) | (intro _)
     refine hK _ ?_; clear hK K
     refine zbt ?_
     refine zbv rfl (fun hc7 => ?_) (fun hc7 => ?_)
     ·try simp at hc7
      all_goals
       have h7 : i < ys.length := by omega
       refine zbw ?_
       refine zb3 ?_
       refine zbt ?_
       refine zb0 ?_
       refine AW_r rfl rfl fun K hK => ?_
       simp (disch := omega) [zbd, gE, tP, cS]
       repeat' first | (exfalso; omega) | (refine ⟨fun _ => ?_, fun _ => ?_⟩) | (refine ⟨by omega, ?_⟩) | (intro _)
       all_goals (refine hK _ ?_; clear hK K)
       all_goals
        refine AW_q rfl mix (by kernel_rfl) rfl fun K hK => ?_
        simp (disch := omega) [zbd, gE, tP, cS]
        repeat' first | (refine ⟨by omega, ?_⟩) | (intro _)
        refine hK _ ?_; clear hK K
        refine zbv rfl (fun hc8 => ?_) (fun hc8 => ?_)
        ·try simp at hc8
         all_goals
          refine AW_r rfl rfl fun K hK => ?_
          simp (disch := omega) [zbd, gE, tP, cS]
          repeat' first | (exfalso; omega) | (refine ⟨fun _ => ?_, fun _ => ?_⟩) | (refine ⟨by omega, ?_⟩) | (intro _)
          all_goals (refine hK _ ?_; clear hK K)
          all_goals
           refine zbz (zcb ?_)
           simp (disch := omega) [zbd, gE, tP, cS]
           all_goals first | (exact zch heq) | (refine zcd fun heq => ?_; subst heq; simp_all; done)
        ·try simp at hc8
         all_goals
          refine zbw ?_
          refine zb3 ?_
          refine zdf rfl rfl fun K hK => ?_
          simp (disch := omega) [zbd, gE, tP, cS]
          repeat' first | (exfalso; omega) | (refine ⟨fun _ => ?_, fun _ => ?_⟩) | (refine ⟨by omega, ?_⟩) | (intro _)
          all_goals (refine hK _ ?_; clear hK K)
          all_goals
           refine ⟨_, LeS.kp [(0, .sl 1 (xs.map cS)), (1, .sl 1 (ys.map cS)), (12, (.g (.int .i64 ((xs.length : Nat))))), (13, (.g (.int .i64 (((i + 1) : Nat)))))] (by simp [KpE, zbn, zb4, zbk]; try rfl), _, ?_, i + 1, rfl, ?_, rfl⟩
           ·omega
           ·refine ⟨by omega, fun j hj => ?_⟩
            by_cases hji : j = i
            ·subst hji; simp_all
            ·exact hpre j (by omega)
     ·try simp at hc7
      all_goals
       have hi2 : i = xs.length := by omega
       subst hi2
       have heq : xs = ys := List.ext_getElem? fun j => by
        by_cases hj : j < xs.length
        ·exact hpre j hj
        ·rw [List.getElem?_eq_none (by omega), List.getElem?_eq_none (by omega)]
       refine zce ?_
       refine zb3 ?_
       refine AW_r rfl rfl fun K hK => ?_
       simp (disch := omega) [zbd, gE, tP, cS]
       repeat' first | (exfalso; omega) | (refine ⟨fun _ => ?_, fun _ => ?_⟩) | (refine ⟨by omega, ?_⟩) | (intro _)
       all_goals (refine hK _ ?_; clear hK K)
       all_goals
        refine zbz (zcb ?_)
        simp (disch := omega) [zbd, gE, tP, cS]
        all_goals first | (exact zch heq) | (refine zcd fun heq => ?_; subst heq; simp_all; done)
theorem zsv (a b : DtCmd) (hn : a.fChunks.length ≤ 1048576) : PCall Try.prog 73 [.agg (DtCmd.cells a), .agg (DtCmd.cells b)] (.g (.bool (eqB a b))) := by
 have he := DtCmd.ext_iff a b
 refine zbu Try.func73 (by rfl) (by rfl) (by rw [Try.ntmps73]; exact Nat.le_of_ble_eq_true rfl) rfl (by decide) ?_
 rw [Try.ntmps73]
 refine AW_k [(0, _), (1, _)] ⟨rfl, rfl, trivial⟩ ?_
 refine AW_r rfl rfl fun K hK => ?_
 simp [DtCmd.cells]
 repeat' first | (refine ⟨by omega, ?_⟩) | (intro _)
 refine hK _ ?_; clear hK K
 refine AW_r rfl rfl fun K hK => ?_
 simp [DtCmd.cells]
 repeat' first | (refine zck (zbg zca (zbg zca zbr)) (l4Texts _ _ (by assumption)) rfl ?_; simp [DtCmd.cells]) | (refine ⟨fun _ => ?_, fun _ => ?_⟩) | (refine ⟨by omega, ?_⟩) | (intro _)
 all_goals (refine hK _ ?_; clear hK K)
 all_goals
  refine zbz (zcb ?_)
  simp [DtCmd.cells]
  all_goals first | (refine zcd fun h => ?_; rw [he] at h; simp_all; done) | (rw [Bool.eq_iff_iff, zbf, zbf, he]; simp_all; done) | (rw [Bool.eq_iff_iff, zbf, he]; simp_all [zbf]; done)
theorem zsw (a b : DtCmd) (hn : a.fChunks.length ≤ 1048576) : PCall Try.prog 75 [.agg (DtCmd.cells a), .agg (DtCmd.cells b)] (.g (.bool (eqB a b))) := by
 have he := DtCmd.ext_iff a b
 refine zbu Try.func75 (by rfl) (by rfl) (by rw [Try.ntmps75]; exact Nat.le_of_ble_eq_true rfl) rfl (by decide) ?_
 rw [Try.ntmps75]
 refine AW_k [(0, _), (1, _)] ⟨rfl, rfl, trivial⟩ ?_
 refine AW_r rfl rfl fun K hK => ?_
 simp [DtCmd.cells]
 repeat' first | (refine ⟨by omega, ?_⟩) | (intro _)
 refine hK _ ?_; clear hK K
 refine AW_r rfl rfl fun K hK => ?_
 simp [DtCmd.cells]
 repeat' first | (refine zck (zbg zca (zbg zca zbr)) (equalS _ _ (by assumption)) rfl ?_; simp [DtCmd.cells]) | (refine ⟨fun _ => ?_, fun _ => ?_⟩) | (refine ⟨by omega, ?_⟩) | (intro _)
 all_goals (refine hK _ ?_; clear hK K)
 all_goals
  refine zbz (zcb ?_)
  simp [DtCmd.cells]
  all_goals first | (refine zcd fun h => ?_; rw [he] at h; simp_all; done) | (rw [Bool.eq_iff_iff, zbf, zbf, he]; simp_all; done) | (rw [Bool.eq_iff_iff, zbf, he]; simp_all [zbf]; done)
theorem zzs (c : DtCmd) (hs : DtCmd.sz c ≤ 1048576) : PCall Try.prog 49 [.agg (DtCmd.cells c)] (.g (.bool (decB (CmdP c)))) := by
 have ⟨hl, hw1, hw2, hw3⟩ : c.fChunks.length ≤ 1048576 ∧ c.fSet.length ≤ 1048576 ∧ c.fName.length ≤ 1048576 ∧ c.fTag.length ≤ 1048576 := by have := zcp zcy c.fChunks; simp only [DtCmd.sz, szS] at hs; omega
 refine zbu Try.func49 (by rfl) (by rfl) (by rw [Try.ntmps49]; exact Nat.le_of_ble_eq_true rfl) rfl (by decide) ?_
 rw [Try.ntmps49]
 refine AW_k [(0, _)] ⟨rfl, trivial⟩ ?_
 refine AW_r rfl rfl fun K hK => ?_
 simp (disch := omega) [zbd, gE, tP, DtCmd.cells, zbb, zba]
 repeat' first | (refine ⟨by omega, ?_⟩) | (intro _)
 refine hK _ ?_; clear hK K
 refine zbt ?_
 refine AW_r rfl rfl fun K hK => ?_
 simp (disch := omega) [zbd, gE, tP, DtCmd.cells, zbb, zba]
 repeat' first | (exfalso; omega) | (refine zck (zbg zc5 (zbg zc5 (zbg zc5 zbr))) (l1In _ _ _) rfl ?_; simp (disch := omega) [zbd, gE, tP, DtCmd.cells, zbb, zba]) | (refine ⟨by omega, ?_⟩) | (intro _)
 refine hK _ ?_; clear hK K
 refine zbv rfl (fun hc9 => ?_) (fun hc9 => ?_)
 ·try simp [zbb, zba, zbf, zbe] at hc9
  all_goals
   refine AW_r rfl rfl fun K hK => ?_
   simp (disch := omega) [zbd, gE, tP, DtCmd.cells, zbb, zba]
   repeat' first | (exfalso; omega) | (refine ⟨fun _ => ?_, fun _ => ?_⟩) | (refine ⟨by omega, ?_⟩) | (intro _)
   all_goals (refine hK _ ?_; clear hK K)
   all_goals
    refine zbz (zcb ?_)
    simp (disch := omega) [zbd, gE, tP, DtCmd.cells, zbb, zba]
    all_goals first | grind [CmdP, MayP, Ch8] | (rw [Bool.eq_iff_iff, zbb, zbf]; grind [CmdP, zeroCmd]) | (simp only [CmdP, MayP, Ch8] at *; grind) | (rw [Bool.eq_iff_iff, zbb]; simp [zbb]; grind [CmdP, MayP, Ch8]) | (rw [Bool.eq_iff_iff, zbb, zbb]; grind [CmdP, MayP, Ch8]) | (rw [Bool.eq_iff_iff, zbb, beq_iff_eq, len0]; grind [CmdP, MayP, Ch8])
 ·try simp [zbb, zba, zbf, zbe] at hc9
  all_goals
   refine zbw ?_
   refine zb3 ?_
   refine zbt ?_
   refine AW_r rfl rfl fun K hK => ?_
   simp (disch := omega) [zbd, gE, tP, DtCmd.cells, zbb, zba]
   repeat' first | (exfalso; omega) | (refine ⟨fun _ => ?_, fun _ => ?_⟩) | (refine ⟨by omega, ?_⟩) | (intro _)
   all_goals (refine hK _ ?_; clear hK K)
   all_goals
    refine zbv rfl (fun hc10 => ?_) (fun hc10 => ?_)
    ·try simp [zbb, zba, zbf, zbe] at hc10
     all_goals
      refine AW_r rfl rfl fun K hK => ?_
      simp (disch := omega) [zbd, gE, tP, DtCmd.cells, zbb, zba]
      repeat' first | (exfalso; omega) | (refine zck (zbg (zb6 rfl) (zbg (a := .agg _) (b := .agg (DtCmd.cells zeroCmd)) (by simp [DtCmd.cells, zeroCmd, zxw, zsf, zse, zxt, zxu, zxv]) zbr)) (zsv c zeroCmd hl) rfl ?_; simp (disch := omega) [zbd, gE, tP, DtCmd.cells, zbb, zba]) | (refine ⟨fun _ => ?_, fun _ => ?_⟩) | (refine ⟨by omega, ?_⟩) | (intro _)
      all_goals (refine hK _ ?_; clear hK K)
      all_goals
       refine zbz (zcb ?_)
       simp (disch := omega) [zbd, gE, tP, DtCmd.cells, zbb, zba]
       all_goals first | grind [CmdP, MayP, Ch8] | (rw [Bool.eq_iff_iff, zbb, zbf]; grind [CmdP, zeroCmd]) | (simp only [CmdP, MayP, Ch8] at *; grind) | (rw [Bool.eq_iff_iff, zbb]; simp [zbb]; grind [CmdP, MayP, Ch8]) | (rw [Bool.eq_iff_iff, zbb, zbb]; grind [CmdP, MayP, Ch8]) | (rw [Bool.eq_iff_iff, zbb, beq_iff_eq, len0]; grind [CmdP, MayP, Ch8])
    ·try simp [zbb, zba, zbf, zbe] at hc10
     all_goals
      refine zbw ?_
      refine zb3 ?_
      refine AW_r rfl rfl fun K hK => ?_
      simp (disch := omega) [zbd, gE, tP, DtCmd.cells, zbb, zba]
      repeat' first | (exfalso; omega) | (refine ⟨fun _ => ?_, fun _ => ?_⟩) | (refine ⟨by omega, ?_⟩) | (intro _)
      all_goals (refine hK _ ?_; clear hK K)
      all_goals
       refine zbt ?_
       refine AW_r rfl rfl fun K hK => ?_
       simp (disch := omega) [zbd, gE, tP, DtCmd.cells, zbb, zba]
       repeat' first | (exfalso; omega) | (refine zck (zbg zc5 (zbg zc5 (zbg zc5 zbr))) (l1In _ _ _) rfl ?_; simp (disch := omega) [zbd, gE, tP, DtCmd.cells, zbb, zba]) | (refine zck (zbg am2_s (zbg zc5 zbr)) (l4May _ _) rfl ?_; simp (disch := omega) [zbd, gE, tP, DtCmd.cells, zbb, zba]) | (refine ⟨fun _ => ?_, fun _ => ?_⟩) | (refine ⟨by omega, ?_⟩) | (intro _)
       all_goals (refine hK _ ?_; clear hK K)
       all_goals
        refine zbv rfl (fun hc11 => ?_) (fun hc11 => ?_)
        ·try simp [zbb, zba, zbf, zbe] at hc11
         all_goals
          refine AW_r rfl rfl fun K hK => ?_
          simp (disch := omega) [zbd, gE, tP, DtCmd.cells, zbb, zba]
          repeat' first | (exfalso; omega) | (refine ⟨fun _ => ?_, fun _ => ?_⟩) | (refine ⟨by omega, ?_⟩) | (intro _)
          all_goals (refine hK _ ?_; clear hK K)
          all_goals
           refine zbz (zcb ?_)
           simp (disch := omega) [zbd, gE, tP, DtCmd.cells, zbb, zba]
           all_goals first | grind [CmdP, MayP, Ch8] | (rw [Bool.eq_iff_iff, zbb, zbf]; grind [CmdP, zeroCmd]) | (simp only [CmdP, MayP, Ch8] at *; grind) | (rw [Bool.eq_iff_iff, zbb]; simp [zbb]; grind [CmdP, MayP, Ch8]) | (rw [Bool.eq_iff_iff, zbb, zbb]; grind [CmdP, MayP, Ch8]) | (rw [Bool.eq_iff_iff, zbb, beq_iff_eq, len0]; grind [CmdP, MayP, Ch8])
        ·try simp [zbb, zba, zbf, zbe] at hc11
         all_goals
          refine zbw ?_
          refine zb3 ?_
          refine zbt ?_
          refine AW_r rfl rfl fun K hK => ?_
          simp (disch := omega) [zbd, gE, tP, DtCmd.cells, zbb, zba]
          repeat' first | (exfalso; omega) | (refine ⟨fun _ => ?_, fun _ => ?_⟩) | (refine ⟨by omega, ?_⟩) | (intro _)
          all_goals (refine hK _ ?_; clear hK K)
          all_goals
           refine zbv rfl (fun hc12 => ?_) (fun hc12 => ?_)
           ·try simp [zbb, zba, zbf, zbe] at hc12
            all_goals
             refine AW_r rfl rfl fun K hK => ?_
             simp (disch := omega) [zbd, gE, tP, DtCmd.cells, zbb, zba]
             repeat' first | (exfalso; omega) | (refine ⟨fun _ => ?_, fun _ => ?_⟩) | (refine ⟨by omega, ?_⟩) | (intro _)
             all_goals (refine hK _ ?_; clear hK K)
             all_goals
              refine zbz (zcb ?_)
              simp (disch := omega) [zbd, gE, tP, DtCmd.cells, zbb, zba]
              all_goals first | grind [CmdP, MayP, Ch8] | (rw [Bool.eq_iff_iff, zbb, zbf]; grind [CmdP, zeroCmd]) | (simp only [CmdP, MayP, Ch8] at *; grind) | (rw [Bool.eq_iff_iff, zbb]; simp [zbb]; grind [CmdP, MayP, Ch8]) | (rw [Bool.eq_iff_iff, zbb, zbb]; grind [CmdP, MayP, Ch8]) | (rw [Bool.eq_iff_iff, zbb, beq_iff_eq, len0]; grind [CmdP, MayP, Ch8])
           ·try simp [zbb, zba, zbf, zbe] at hc12
            all_goals
             refine zbw ?_
             refine zb3 ?_
             refine zbt ?_
             refine AW_r rfl rfl fun K hK => ?_
             simp (disch := omega) [zbd, gE, tP, DtCmd.cells, zbb, zba]
             repeat' first | (exfalso; omega) | (refine zck (zbg zc5 (zbg zc5 (zbg zc5 zbr))) (l1In _ _ _) rfl ?_; simp (disch := omega) [zbd, gE, tP, DtCmd.cells, zbb, zba]) | (refine ⟨fun _ => ?_, fun _ => ?_⟩) | (refine ⟨by omega, ?_⟩) | (intro _)
             all_goals (refine hK _ ?_; clear hK K)
             all_goals
              refine zbv rfl (fun hc13 => ?_) (fun hc13 => ?_)
              ·try simp [zbb, zba, zbf, zbe] at hc13
               all_goals
                refine AW_r rfl rfl fun K hK => ?_
                simp (disch := omega) [zbd, gE, tP, DtCmd.cells, zbb, zba]
                repeat' first | (exfalso; omega) | (refine ⟨fun _ => ?_, fun _ => ?_⟩) | (refine ⟨by omega, ?_⟩) | (intro _)
                all_goals (refine hK _ ?_; clear hK K)
                all_goals
                 refine zbz (zcb ?_)
                 simp (disch := omega) [zbd, gE, tP, DtCmd.cells, zbb, zba]
                 all_goals first | grind [CmdP, MayP, Ch8] | (rw [Bool.eq_iff_iff, zbb, zbf]; grind [CmdP, zeroCmd]) | (simp only [CmdP, MayP, Ch8] at *; grind) | (rw [Bool.eq_iff_iff, zbb]; simp [zbb]; grind [CmdP, MayP, Ch8]) | (rw [Bool.eq_iff_iff, zbb, zbb]; grind [CmdP, MayP, Ch8]) | (rw [Bool.eq_iff_iff, zbb, beq_iff_eq, len0]; grind [CmdP, MayP, Ch8])
              ·try simp [zbb, zba, zbf, zbe] at hc13
               all_goals
                refine zbw ?_
                refine zb3 ?_
                refine zbt ?_
                refine AW_r rfl rfl fun K hK => ?_
                simp (disch := omega) [zbd, gE, tP, DtCmd.cells, zbb, zba]
                repeat' first | (exfalso; omega) | (refine ⟨fun _ => ?_, fun _ => ?_⟩) | (refine ⟨by omega, ?_⟩) | (intro _)
                all_goals (refine hK _ ?_; clear hK K)
                all_goals
                 refine zb0 ?_
                 refine zcc (fun mM sS => ∃ (i : Nat), mM = c.fChunks.length - i ∧ (i ≤ c.fChunks.length ∧ ∀ (j : Nat) x, j < i → c.fChunks[j]? = some x → x.length = 8) ∧ sS = { env := lkE [(1, .ptr 32 0), (4, (.g (.int .i64 ((i : Nat)))))], ob := upd (formOb [] []) 32 (some (.cells (DtCmd.cells c))) }) ?_ ?_
                 ·refine ⟨_, LeS.kp [(1, .ptr 32 0), (4, (.g (.int .i64 (((0) : Nat)))))] (by simp [KpE, zbn, zb4, zbk]; try rfl), _, 0, rfl, ?_, rfl⟩
                  ·simp
                 ·rintro mM sS ⟨i, rfl, ⟨hi, hpre⟩, rfl⟩
                  refine zbt ?_
                  refine AW_r rfl rfl fun K hK => ?_
                  simp (disch := omega) [zbd, gE, tP, DtCmd.cells, zbb, zba, cS]
                  repeat' first | (refine ⟨by omega, ?_⟩) | (intro _)
                  refine hK _ ?_; clear hK K
                  refine zbv rfl (fun hc14 => ?_) (fun hc14 => ?_)
                  ·try simp [zbb, zba, zbf, zbe] at hc14
                   all_goals
                    have hg : c.fChunks[i]? = some c.fChunks[i] := List.getElem?_eq_getElem (by omega)
                    refine zbw ?_
                    refine zb3 ?_
                    refine zbt ?_
                    refine zb0 ?_
                    refine AW_r rfl rfl fun K hK => ?_
                    simp (disch := omega) [zbd, gE, tP, DtCmd.cells, zbb, zba, cS]
                    repeat' first | (exfalso; omega) | (refine ⟨fun _ => ?_, fun _ => ?_⟩) | (refine ⟨by omega, ?_⟩) | (intro _)
                    all_goals (refine hK _ ?_; clear hK K)
                    all_goals
                     refine zbv rfl (fun hc15 => ?_) (fun hc15 => ?_)
                     ·try simp [zbb, zba, zbf, zbe] at hc15
                      all_goals
                       refine AW_r rfl rfl fun K hK => ?_
                       simp (disch := omega) [zbd, gE, tP, DtCmd.cells, zbb, zba, cS]
                       repeat' first | (exfalso; omega) | (refine ⟨fun _ => ?_, fun _ => ?_⟩) | (refine ⟨by omega, ?_⟩) | (intro _)
                       all_goals (refine hK _ ?_; clear hK K)
                       all_goals
                        refine zbz (zcb ?_)
                        simp (disch := omega) [zbd, gE, tP, DtCmd.cells, zbb, zba, cS]
                        all_goals first | grind [CmdP, MayP, Ch8] | (rw [Bool.eq_iff_iff, zbb, zbf]; grind [CmdP, zeroCmd]) | (simp only [CmdP, MayP, Ch8] at *; grind) | (rw [Bool.eq_iff_iff, zbb]; simp [zbb]; grind [CmdP, MayP, Ch8]) | (rw [Bool.eq_iff_iff, zbb, zbb]; grind [CmdP, MayP, Ch8]) | (rw [Bool.eq_iff_iff, zbb, beq_iff_eq, len0]; grind [CmdP, MayP, Ch8])
                     ·try simp [zbb, zba, zbf, zbe] at hc15
                      all_goals
                       refine zbw ?_
                       refine zb3 ?_
                       refine zdf rfl rfl fun K hK => ?_
                       simp (disch := omega) [zbd, gE, tP, DtCmd.cells, zbb, zba, cS]
                       repeat' first | (exfalso; omega) | (refine ⟨fun _ => ?_, fun _ => ?_⟩) | (refine ⟨by omega, ?_⟩) | (intro _)
                       all_goals (refine hK _ ?_; clear hK K)
                       all_goals
                        refine ⟨_, LeS.kp [(1, .ptr 32 0), (4, (.g (.int .i64 (((i + 1) : Nat)))))] (by simp [KpE, zbn, zb4, zbk]; try rfl), _, ?_, i + 1, rfl, ?_, rfl⟩
                        ·omega
                        ·refine ⟨by omega, ?_⟩; grind
                  ·try simp [zbb, zba, zbf, zbe] at hc14
                   all_goals
                    refine zce ?_
                    refine zb3 ?_
                    refine AW_r rfl rfl fun K hK => ?_
                    simp (disch := omega) [zbd, gE, tP, DtCmd.cells, zbb, zba, cS]
                    repeat' first | (exfalso; omega) | (refine ⟨fun _ => ?_, fun _ => ?_⟩) | (refine ⟨by omega, ?_⟩) | (intro _)
                    all_goals (refine hK _ ?_; clear hK K)
                    all_goals
                     refine zbz (zcb ?_)
                     simp (disch := omega) [zbd, gE, tP, DtCmd.cells, zbb, zba, cS]
                     all_goals first | grind [CmdP, MayP, Ch8] | (rw [Bool.eq_iff_iff, zbb, zbf]; grind [CmdP, zeroCmd]) | (simp only [CmdP, MayP, Ch8] at *; grind) | (rw [Bool.eq_iff_iff, zbb]; simp [zbb]; grind [CmdP, MayP, Ch8]) | (rw [Bool.eq_iff_iff, zbb, zbb]; grind [CmdP, MayP, Ch8]) | (rw [Bool.eq_iff_iff, zbb, beq_iff_eq, len0]; grind [CmdP, MayP, Ch8])
theorem zzt (c : DtCmd) (hs : DtCmd.sz c ≤ 1048576) : PCall Try.prog 57 [.agg (DtCmd.cells c)] (.g (.bool (decB (CmdP c)))) := by
 have ⟨hl, hw1, hw2, hw3⟩ : c.fChunks.length ≤ 1048576 ∧ c.fSet.length ≤ 1048576 ∧ c.fName.length ≤ 1048576 ∧ c.fTag.length ≤ 1048576 := by have := zcp zcy c.fChunks; simp only [DtCmd.sz, szS] at hs; omega
 refine zbu Try.func57 (by rfl) (by rfl) (by rw [Try.ntmps57]; exact Nat.le_of_ble_eq_true rfl) rfl (by decide) ?_
 rw [Try.ntmps57]
 refine AW_k [(0, _)] ⟨rfl, trivial⟩ ?_
 refine AW_r rfl rfl fun K hK => ?_
 simp (disch := omega) [zbd, gE, tP, DtCmd.cells, zbb, zba]
 repeat' first | (refine ⟨by omega, ?_⟩) | (intro _)
 refine hK _ ?_; clear hK K
 refine zbt ?_
 refine AW_r rfl rfl fun K hK => ?_
 simp (disch := omega) [zbd, gE, tP, DtCmd.cells, zbb, zba]
 repeat' first | (refine ⟨by omega, ?_⟩) | (intro _)
 refine hK _ ?_; clear hK K
 refine zbv rfl (fun hc16 => ?_) (fun hc16 => ?_)
 ·try simp [zbb, zba, zbf, zbe] at hc16
  all_goals
   refine AW_r rfl rfl fun K hK => ?_
   simp (disch := omega) [zbd, gE, tP, DtCmd.cells, zbb, zba]
   repeat' first | (exfalso; omega) | (refine zck (zbg (zb6 rfl) (zbg (a := .agg _) (b := .agg (DtCmd.cells zeroCmd)) (by simp [DtCmd.cells, zeroCmd, zxw, zsf, zse, zxt, zxu, zxv]) zbr)) (zsw c zeroCmd hl) rfl ?_; simp (disch := omega) [zbd, gE, tP, DtCmd.cells, zbb, zba]) | (refine ⟨fun _ => ?_, fun _ => ?_⟩) | (refine ⟨by omega, ?_⟩) | (intro _)
   all_goals (refine hK _ ?_; clear hK K)
   all_goals
    refine zbz (zcb ?_)
    simp (disch := omega) [zbd, gE, tP, DtCmd.cells, zbb, zba]
    all_goals first | grind [CmdP, MayP, Ch8] | (rw [Bool.eq_iff_iff, zbb, zbf]; grind [CmdP, zeroCmd]) | (simp only [CmdP, MayP, Ch8] at *; grind) | (rw [Bool.eq_iff_iff, zbb]; simp [zbb]; grind [CmdP, MayP, Ch8]) | (rw [Bool.eq_iff_iff, zbb, zbb]; grind [CmdP, MayP, Ch8]) | (rw [Bool.eq_iff_iff, zbb, beq_iff_eq, len0]; grind [CmdP, MayP, Ch8])
 ·try simp [zbb, zba, zbf, zbe] at hc16
  all_goals
   refine zbw ?_
   refine zb3 ?_
   refine zbt ?_
   refine AW_r rfl rfl fun K hK => ?_
   simp (disch := omega) [zbd, gE, tP, DtCmd.cells, zbb, zba]
   repeat' first | (exfalso; omega) | (refine zck (zbg zc5 (zbg zc5 (zbg zc5 zbr))) (zm1 _ _ _) rfl ?_; simp (disch := omega) [zbd, gE, tP, DtCmd.cells, zbb, zba]) | (refine ⟨fun _ => ?_, fun _ => ?_⟩) | (refine ⟨by omega, ?_⟩) | (intro _)
   all_goals (refine hK _ ?_; clear hK K)
   all_goals
    refine zbv rfl (fun hc17 => ?_) (fun hc17 => ?_)
    ·try simp [zbb, zba, zbf, zbe] at hc17
     all_goals
      refine AW_r rfl rfl fun K hK => ?_
      simp (disch := omega) [zbd, gE, tP, DtCmd.cells, zbb, zba]
      repeat' first | (exfalso; omega) | (refine ⟨fun _ => ?_, fun _ => ?_⟩) | (refine ⟨by omega, ?_⟩) | (intro _)
      all_goals (refine hK _ ?_; clear hK K)
      all_goals
       refine zbz (zcb ?_)
       simp (disch := omega) [zbd, gE, tP, DtCmd.cells, zbb, zba]
       all_goals first | grind [CmdP, MayP, Ch8] | (rw [Bool.eq_iff_iff, zbb, zbf]; grind [CmdP, zeroCmd]) | (simp only [CmdP, MayP, Ch8] at *; grind) | (rw [Bool.eq_iff_iff, zbb]; simp [zbb]; grind [CmdP, MayP, Ch8]) | (rw [Bool.eq_iff_iff, zbb, zbb]; grind [CmdP, MayP, Ch8]) | (rw [Bool.eq_iff_iff, zbb, beq_iff_eq, len0]; grind [CmdP, MayP, Ch8])
    ·try simp [zbb, zba, zbf, zbe] at hc17
     all_goals
      refine zbw ?_
      refine zb3 ?_
      refine zbt ?_
      refine AW_r rfl rfl fun K hK => ?_
      simp (disch := omega) [zbd, gE, tP, DtCmd.cells, zbb, zba]
      repeat' first | (exfalso; omega) | (refine zck (zbg am2_s (zbg zc5 zbr)) (wordIf _ _ (by omega)) rfl ?_; simp (disch := omega) [zbd, gE, tP, DtCmd.cells, zbb, zba]) | (refine ⟨fun _ => ?_, fun _ => ?_⟩) | (refine ⟨by omega, ?_⟩) | (intro _)
      all_goals (refine hK _ ?_; clear hK K)
      all_goals
       refine zbv rfl (fun hc18 => ?_) (fun hc18 => ?_)
       ·try simp [zbb, zba, zbf, zbe] at hc18
        all_goals
         refine AW_r rfl rfl fun K hK => ?_
         simp (disch := omega) [zbd, gE, tP, DtCmd.cells, zbb, zba]
         repeat' first | (exfalso; omega) | (refine ⟨fun _ => ?_, fun _ => ?_⟩) | (refine ⟨by omega, ?_⟩) | (intro _)
         all_goals (refine hK _ ?_; clear hK K)
         all_goals
          refine zbz (zcb ?_)
          simp (disch := omega) [zbd, gE, tP, DtCmd.cells, zbb, zba]
          all_goals first | grind [CmdP, MayP, Ch8] | (rw [Bool.eq_iff_iff, zbb, zbf]; grind [CmdP, zeroCmd]) | (simp only [CmdP, MayP, Ch8] at *; grind) | (rw [Bool.eq_iff_iff, zbb]; simp [zbb]; grind [CmdP, MayP, Ch8]) | (rw [Bool.eq_iff_iff, zbb, zbb]; grind [CmdP, MayP, Ch8]) | (rw [Bool.eq_iff_iff, zbb, beq_iff_eq, len0]; grind [CmdP, MayP, Ch8])
       ·try simp [zbb, zba, zbf, zbe] at hc18
        all_goals
         refine zbw ?_
         refine zb3 ?_
         refine zbt ?_
         refine AW_r rfl rfl fun K hK => ?_
         simp (disch := omega) [zbd, gE, tP, DtCmd.cells, zbb, zba]
         repeat' first | (exfalso; omega) | (refine zck (zbg zc5 (zbg zc5 (zbg zc5 zbr))) (zm1 _ _ _) rfl ?_; simp (disch := omega) [zbd, gE, tP, DtCmd.cells, zbb, zba]) | (refine ⟨fun _ => ?_, fun _ => ?_⟩) | (refine ⟨by omega, ?_⟩) | (intro _)
         all_goals (refine hK _ ?_; clear hK K)
         all_goals
          refine zbv rfl (fun hc19 => ?_) (fun hc19 => ?_)
          ·try simp [zbb, zba, zbf, zbe] at hc19
           all_goals
            refine AW_r rfl rfl fun K hK => ?_
            simp (disch := omega) [zbd, gE, tP, DtCmd.cells, zbb, zba]
            repeat' first | (exfalso; omega) | (refine ⟨fun _ => ?_, fun _ => ?_⟩) | (refine ⟨by omega, ?_⟩) | (intro _)
            all_goals (refine hK _ ?_; clear hK K)
            all_goals
             refine zbz (zcb ?_)
             simp (disch := omega) [zbd, gE, tP, DtCmd.cells, zbb, zba]
             all_goals first | grind [CmdP, MayP, Ch8] | (rw [Bool.eq_iff_iff, zbb, zbf]; grind [CmdP, zeroCmd]) | (simp only [CmdP, MayP, Ch8] at *; grind) | (rw [Bool.eq_iff_iff, zbb]; simp [zbb]; grind [CmdP, MayP, Ch8]) | (rw [Bool.eq_iff_iff, zbb, zbb]; grind [CmdP, MayP, Ch8]) | (rw [Bool.eq_iff_iff, zbb, beq_iff_eq, len0]; grind [CmdP, MayP, Ch8])
          ·try simp [zbb, zba, zbf, zbe] at hc19
           all_goals
            refine zbw ?_
            refine zb3 ?_
            refine zbt ?_
            refine AW_r rfl rfl fun K hK => ?_
            simp (disch := omega) [zbd, gE, tP, DtCmd.cells, zbb, zba]
            repeat' first | (exfalso; omega) | (refine ⟨fun _ => ?_, fun _ => ?_⟩) | (refine ⟨by omega, ?_⟩) | (intro _)
            all_goals (refine hK _ ?_; clear hK K)
            all_goals
             refine zbv rfl (fun hc20 => ?_) (fun hc20 => ?_)
             ·try simp [zbb, zba, zbf, zbe] at hc20
              all_goals
               refine AW_r rfl rfl fun K hK => ?_
               simp (disch := omega) [zbd, gE, tP, DtCmd.cells, zbb, zba]
               repeat' first | (exfalso; omega) | (refine zck (zbg zc5 (zbg zc5 (zbg zc5 zbr))) (zm1 _ _ _) rfl ?_; simp (disch := omega) [zbd, gE, tP, DtCmd.cells, zbb, zba]) | (refine zck (zbg zca zbr) (zzr _ (by omega)) rfl ?_; simp (disch := omega) [zbd, gE, tP, DtCmd.cells, zbb, zba]) | (refine ⟨fun _ => ?_, fun _ => ?_⟩) | (refine ⟨by omega, ?_⟩) | (intro _)
               all_goals (refine hK _ ?_; clear hK K)
               all_goals
                refine zbz (zcb ?_)
                simp (disch := omega) [zbd, gE, tP, DtCmd.cells, zbb, zba]
                all_goals first | grind [CmdP, MayP, Ch8] | (rw [Bool.eq_iff_iff, zbb, zbf]; grind [CmdP, zeroCmd]) | (simp only [CmdP, MayP, Ch8] at *; grind) | (rw [Bool.eq_iff_iff, zbb]; simp [zbb]; grind [CmdP, MayP, Ch8]) | (rw [Bool.eq_iff_iff, zbb, zbb]; grind [CmdP, MayP, Ch8]) | (rw [Bool.eq_iff_iff, zbb, beq_iff_eq, len0]; grind [CmdP, MayP, Ch8])
             ·try simp [zbb, zba, zbf, zbe] at hc20
              all_goals
               refine zbw ?_
               refine zb3 ?_
               refine AW_r rfl rfl fun K hK => ?_
               simp (disch := omega) [zbd, gE, tP, DtCmd.cells, zbb, zba]
               repeat' first | (exfalso; omega) | (refine ⟨fun _ => ?_, fun _ => ?_⟩) | (refine ⟨by omega, ?_⟩) | (intro _)
               all_goals (refine hK _ ?_; clear hK K)
               all_goals
                refine zbz (zcb ?_)
                simp (disch := omega) [zbd, gE, tP, DtCmd.cells, zbb, zba]
                all_goals first | grind [CmdP, MayP, Ch8] | (rw [Bool.eq_iff_iff, zbb, zbf]; grind [CmdP, zeroCmd]) | (simp only [CmdP, MayP, Ch8] at *; grind) | (rw [Bool.eq_iff_iff, zbb]; simp [zbb]; grind [CmdP, MayP, Ch8]) | (rw [Bool.eq_iff_iff, zbb, zbb]; grind [CmdP, MayP, Ch8]) | (rw [Bool.eq_iff_iff, zbb, beq_iff_eq, len0]; grind [CmdP, MayP, Ch8])
end Go.Proofs.Ytfbmhgiokfpgiaa.Vs
