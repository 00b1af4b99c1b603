import Derived.Test.YtfbmhgiokfpgiaaSW1
open Go Go.Proofs Go.Proofs.Ytfbmhgiokfpgiaa.Vs
namespace Go.Proofs.Ytfbmhgiokfpgiaa.Vs
set_option linter.all false
set_option linter.unusedSimpArgs false
set_option linter.unusedVariables false
set_option maxRecDepth 100000
def Ch8 (l : List (List UInt8)) : Prop := ∀ (j : Nat) c, l[j]? = some c → c.length = 8
theorem zzr (l : List (List UInt8)) (hs : l.length ≤ 1048576) : PCall Try.prog 77 [.sl 1 (l.map cS)] (.g (.bool (decB (Ch8 l)))) := by
 refine zbu Try.func77 (by rfl) (by rfl) (by rw [Try.ntmps77]; exact Nat.le_of_ble_eq_true rfl) rfl (by decide) ?_
 rw [Try.ntmps77]
 refine AW_k [(0, _)] ⟨rfl, trivial⟩ ?_
 refine AW_r rfl rfl fun K hK => ?_
 simp (disch := omega) [zbd, gE, tP, cS]
 repeat' first | (refine ⟨by omega, ?_⟩) | (intro _)
 refine hK _ ?_; clear hK K
 refine zbt ?_
 refine AW_r rfl rfl fun K hK => ?_
 simp (disch := omega) [zbd, gE, tP, cS]
 repeat' first | (refine ⟨by omega, ?_⟩) | (intro _)
 refine hK _ ?_; clear hK K
 refine zb0 ?_
 refine zcc (fun mM sS => ∃ (i : Nat), mM = l.length - i ∧ (i ≤ l.length ∧ ∀ (j : Nat) c, j < i → l[j]? = some c → c.length = 8) ∧ sS = { env := lkE [(5, .sl 1 (l.map cS)), (6, (.g (.int .i64 ((l.length : Nat))))), (7, (.g (.int .i64 ((i : Nat)))))], ob := formOb [] [] }) ?_ ?_
 ·refine ⟨_, LeS.kp [(5, .sl 1 (l.map cS)), (6, (.g (.int .i64 ((l.length : Nat))))), (7, (.g (.int .i64 (((0) : Nat)))))] (by simp [KpE, zbn, zb4, zbk]; try rfl), _, 0, rfl, ?_, rfl⟩
  ·simp
 ·rintro mM sS ⟨i, rfl, ⟨hi, hpre⟩, rfl⟩
  refine AW_r rfl rfl fun K hK => ?_
  simp (disch := omega) [zbd, gE, tP, cS]
  repeat' first | (refine ⟨by omega, ?_⟩) | (intro _)
  refine hK _ ?_; clear hK K
  refine zbt ?_
  refine zbv rfl (fun hc1 => ?_) (fun hc1 => ?_)
  ·try simp at hc1
   all_goals
    have hg : l[i]? = some (l[i]) := List.getElem?_eq_getElem (by omega)
    refine zbw ?_
    refine zb3 ?_
    refine zbt ?_
    refine zb0 ?_
    refine AW_r rfl rfl fun K hK => ?_
    simp (disch := omega) [zbd, gE, tP, cS]
    repeat' first | (exfalso; omega) | (refine ⟨fun _ => ?_, fun _ => ?_⟩) | (refine ⟨by omega, ?_⟩) | (intro _)
    all_goals (refine hK _ ?_; clear hK K)
    all_goals
     refine AW_r rfl rfl fun K hK => ?_
     simp (disch := omega) [zbd, gE, tP, cS]
     repeat' first | (refine ⟨by omega, ?_⟩) | (intro _)
     refine hK _ ?_; clear hK K
     refine zbv rfl (fun hc2 => ?_) (fun hc2 => ?_)
     ·try simp at hc2
      all_goals
       refine AW_r rfl rfl fun K hK => ?_
       simp (disch := omega) [zbd, gE, tP, cS]
       repeat' first | (exfalso; omega) | (refine ⟨fun _ => ?_, fun _ => ?_⟩) | (refine ⟨by omega, ?_⟩) | (intro _)
       all_goals (refine hK _ ?_; clear hK K)
       all_goals
        refine zbz (zcb ?_)
        simp (disch := omega) [zbd, gE, tP, cS]
        all_goals first | (refine zcx fun h => ?_; grind [Ch8]) | (refine zco ?_; grind [Ch8])
     ·try simp at hc2
      all_goals
       refine zbw ?_
       refine zb3 ?_
       refine zdf rfl rfl fun K hK => ?_
       simp (disch := omega) [zbd, gE, tP, cS]
       repeat' first | (exfalso; omega) | (refine ⟨fun _ => ?_, fun _ => ?_⟩) | (refine ⟨by omega, ?_⟩) | (intro _)
       all_goals (refine hK _ ?_; clear hK K)
       all_goals
        refine ⟨_, LeS.kp [(5, .sl 1 (l.map cS)), (6, (.g (.int .i64 ((l.length : Nat))))), (7, (.g (.int .i64 (((i + 1) : Nat)))))] (by simp [KpE, zbn, zb4, zbk]; try rfl), _, ?_, i + 1, rfl, ?_, rfl⟩
        ·omega
        ·refine ⟨by omega, ?_⟩; grind
  ·try simp at hc1
   all_goals
    refine zce ?_
    refine zb3 ?_
    refine AW_r rfl rfl fun K hK => ?_
    simp (disch := omega) [zbd, gE, tP, cS]
    repeat' first | (exfalso; omega) | (refine ⟨fun _ => ?_, fun _ => ?_⟩) | (refine ⟨by omega, ?_⟩) | (intro _)
    all_goals (refine hK _ ?_; clear hK K)
    all_goals
     refine zbz (zcb ?_)
     simp (disch := omega) [zbd, gE, tP, cS]
     all_goals first | (refine zcx fun h => ?_; grind [Ch8]) | (refine zco ?_; grind [Ch8])
end Go.Proofs.Ytfbmhgiokfpgiaa.Vs
