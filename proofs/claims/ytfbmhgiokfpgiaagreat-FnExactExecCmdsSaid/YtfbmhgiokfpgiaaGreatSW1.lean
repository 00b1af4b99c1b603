import Derived.Test.YtfbmhgiokfpgiaaGreatSDQ
open Go Go.Proofs Go.Proofs.YtfbmhgiokfpgiaaGreat.Vs
namespace Go.Proofs.YtfbmhgiokfpgiaaGreat.Vs
set_option linter.all false
set_option linter.unusedSimpArgs false
set_option linter.unusedVariables false
set_option maxRecDepth 100000
theorem l1In (a b c : Int) : PCall Tryz.prog 73 [(.g (.int .i64 (a))), (.g (.int .i64 (b))), (.g (.int .i64 (c)))] (.g (.bool (decide (b ≤ a) && decide (a ≤ c)))) := by
 refine zbz Tryz.func73 (by rfl) (by rfl) (by rw [Tryz.ntmps73]; exact Nat.le_of_ble_eq_true rfl) rfl (by decide) ?_
 rw [Tryz.ntmps73]
 refine AW_k [(0, _), (1, _), (2, _)] ⟨rfl, rfl, rfl, trivial⟩ ?_
 refine AW_r rfl rfl fun K hK => ?_
 simp (disch := omega)
 repeat' first | (refine ⟨by omega, ?_⟩) | (intro _)
 refine hK _ ?_; clear hK K
 refine AW_r rfl rfl fun K hK => ?_
 simp (disch := omega)
 repeat' first | (exfalso; omega) | (refine ⟨fun _ => ?_, fun _ => ?_⟩) | (refine ⟨by omega, ?_⟩) | (intro _)
 all_goals (refine hK _ ?_; clear hK K)
 all_goals
  refine zby (zcd ?_)
  simp (disch := omega)
  all_goals first | omega | (simp_all; done) | (simp [List.take_of_length_le]; done) | ((try simp_all); (try simp (disch := omega) only [zbd, Int.tdiv_eq_ediv_of_nonneg, Int.tmod_eq_emod_of_nonneg, and_true, true_and]); done) | ((try simp_all); (try simp (disch := omega) only [zbd, Int.tdiv_eq_ediv_of_nonneg, Int.tmod_eq_emod_of_nonneg, and_true, true_and] at *); omega)
theorem znu (a b c : Int) : PCall Tryz.prog 78 [(.g (.int .i64 (a))), (.g (.int .i64 (b))), (.g (.int .i64 (c)))] (.g (.bool (decide (b ≤ a) && decide (a ≤ c)))) := by
 refine zbz Tryz.func78 (by rfl) (by rfl) (by rw [Tryz.ntmps78]; exact Nat.le_of_ble_eq_true rfl) rfl (by decide) ?_
 rw [Tryz.ntmps78]
 refine AW_k [(0, _), (1, _), (2, _)] ⟨rfl, rfl, rfl, trivial⟩ ?_
 refine AW_r rfl rfl fun K hK => ?_
 simp (disch := omega)
 repeat' first | (refine ⟨by omega, ?_⟩) | (intro _)
 refine hK _ ?_; clear hK K
 refine AW_r rfl rfl fun K hK => ?_
 simp (disch := omega)
 repeat' first | (exfalso; omega) | (refine ⟨fun _ => ?_, fun _ => ?_⟩) | (refine ⟨by omega, ?_⟩) | (intro _)
 all_goals (refine hK _ ?_; clear hK K)
 all_goals
  refine zby (zcd ?_)
  simp (disch := omega)
  all_goals first | omega | (simp_all; done) | (simp [List.take_of_length_le]; done) | ((try simp_all); (try simp (disch := omega) only [zbd, Int.tdiv_eq_ediv_of_nonneg, Int.tmod_eq_emod_of_nonneg, and_true, true_and]); done) | ((try simp_all); (try simp (disch := omega) only [zbd, Int.tdiv_eq_ediv_of_nonneg, Int.tmod_eq_emod_of_nonneg, and_true, true_and] at *); omega)
def LoB (b : UInt8) : Prop := 97 ≤ b.toNat ∧ b.toNat ≤ 122
def Word (s : List UInt8) : Prop := 1 ≤ s.length ∧ s.length ≤ 8 ∧ ∀ (j : Nat) b, s[j]? = some b → LoB b
theorem l4Word (s : List UInt8) : PCall Tryz.prog 99 [.s s] (.g (.bool (decB (Word s)))) := by
 refine zbz Tryz.func99 (by rfl) (by rfl) (by rw [Tryz.ntmps99]; exact Nat.le_of_ble_eq_true rfl) rfl (by decide) ?_
 rw [Tryz.ntmps99]
 refine AW_k [(0, _)] ⟨rfl, trivial⟩ ?_
 refine AW_r rfl rfl fun K hK => ?_
 simp (disch := omega)
 repeat' first | (refine ⟨by omega, ?_⟩) | (intro _)
 refine hK _ ?_; clear hK K
 refine zbr ?_
 refine AW_r rfl rfl fun K hK => ?_
 simp (disch := omega)
 repeat' first | (exfalso; omega) | (refine zco (zbh zcx (zbh zcx (zbh zcx zbs))) (l1In _ _ _) rfl ?_; simp (disch := omega)) | (refine ⟨by omega, ?_⟩) | (intro _)
 refine hK _ ?_; clear hK K
 refine zbu rfl (fun hc1 => ?_) (fun hc1 => ?_)
 ·try simp at hc1
  all_goals
   refine AW_r rfl rfl fun K hK => ?_
   simp (disch := omega)
   repeat' first | (exfalso; omega) | (refine ⟨fun _ => ?_, fun _ => ?_⟩) | (refine ⟨by omega, ?_⟩) | (intro _)
   all_goals (refine hK _ ?_; clear hK K)
   all_goals
    refine zby (zcd ?_)
    simp (disch := omega)
    all_goals first | (refine zc4 fun h => ?_; grind [Word, LoB]) | (refine zcu ?_; grind [Word, LoB])
 ·try simp at hc1
  all_goals
   refine zbv ?_
   refine zb4 ?_
   refine zbr ?_
   refine AW_r rfl rfl fun K hK => ?_
   simp (disch := omega)
   repeat' first | (exfalso; omega) | (refine ⟨fun _ => ?_, fun _ => ?_⟩) | (refine ⟨by omega, ?_⟩) | (intro _)
   all_goals (refine hK _ ?_; clear hK K)
   all_goals
    refine zb0 ?_
    refine zcf (fun mM sS => ∃ (i : Nat), mM = s.length - i ∧ (i ≤ s.length ∧ ∀ j b, j < i → s[j]? = some b → LoB b) ∧ sS = { env := lkE [(0, .s s), (3, (.g (.int .i64 ((i : Nat)))))], ob := formOb [] [] }) ?_ ?_
    ·refine ⟨_, LeS.kp [(0, .s s), (3, (.g (.int .i64 (((0) : Nat)))))] (by simp [KpE, zbl, zb5, zbi]; try rfl), _, 0, rfl, ?_, rfl⟩
     ·simp
    ·rintro mM sS ⟨i, rfl, ⟨hi, hpre⟩, rfl⟩
     refine zbr ?_
     refine AW_r rfl rfl fun K hK => ?_
     simp (disch := omega)
     repeat' first | (refine ⟨by omega, ?_⟩) | (intro _)
     refine hK _ ?_; clear hK K
     refine zbu rfl (fun hc2 => ?_) (fun hc2 => ?_)
     ·try simp at hc2
      all_goals
       have hg : s[i]? = some s[i] := List.getElem?_eq_getElem (by omega)
       refine zbv ?_
       refine zb4 ?_
       refine zbr ?_
       refine zb0 ?_
       refine AW_r rfl rfl fun K hK => ?_
       simp (disch := omega)
       repeat' first | (exfalso; omega) | (refine ⟨fun _ => ?_, fun _ => ?_⟩) | (refine ⟨by omega, ?_⟩) | (intro _)
       all_goals (refine hK _ ?_; clear hK K)
       all_goals
        refine zbu rfl (fun hc3 => ?_) (fun hc3 => ?_)
        ·try simp at hc3
         all_goals
          refine AW_r rfl rfl fun K hK => ?_
          simp (disch := omega)
          repeat' first | (exfalso; omega) | (refine ⟨fun _ => ?_, fun _ => ?_⟩) | (refine ⟨by omega, ?_⟩) | (intro _)
          all_goals (refine hK _ ?_; clear hK K)
          all_goals
           refine zby (zcd ?_)
           simp (disch := omega)
           all_goals first | (refine zc4 fun h => ?_; grind [Word, LoB]) | (refine zcu ?_; grind [Word, LoB])
        ·try simp at hc3
         all_goals
          refine zbv ?_
          refine zb4 ?_
          refine zdi rfl rfl fun K hK => ?_
          simp (disch := omega)
          repeat' first | (exfalso; omega) | (refine ⟨fun _ => ?_, fun _ => ?_⟩) | (refine ⟨by omega, ?_⟩) | (intro _)
          all_goals (refine hK _ ?_; clear hK K)
          all_goals
           refine ⟨_, LeS.kp [(0, .s s), (3, (.g (.int .i64 (((i + 1) : Nat)))))] (by simp [KpE, zbl, zb5, zbi]; try rfl), _, ?_, i + 1, rfl, ?_, rfl⟩
           ·omega
           ·refine ⟨by omega, ?_⟩; grind [LoB]
     ·try simp at hc2
      all_goals
       refine zch ?_
       refine zb4 ?_
       refine AW_r rfl rfl fun K hK => ?_
       simp (disch := omega)
       repeat' first | (exfalso; omega) | (refine ⟨fun _ => ?_, fun _ => ?_⟩) | (refine ⟨by omega, ?_⟩) | (intro _)
       all_goals (refine hK _ ?_; clear hK K)
       all_goals
        refine zby (zcd ?_)
        simp (disch := omega)
        all_goals first | (refine zc4 fun h => ?_; grind [Word, LoB]) | (refine zcu ?_; grind [Word, LoB])
theorem isWord (s : List UInt8) (hs : s.length ≤ 1048576) : PCall Tryz.prog 101 [.s s] (.g (.bool (decB (Word s)))) := by
 refine zbz Tryz.func101 (by rfl) (by rfl) (by rw [Tryz.ntmps101]; exact Nat.le_of_ble_eq_true rfl) rfl (by decide) ?_
 rw [Tryz.ntmps101]
 refine AW_k [(0, _)] ⟨rfl, trivial⟩ ?_
 refine AW_r rfl rfl fun K hK => ?_
 simp (disch := omega)
 repeat' first | (refine ⟨by omega, ?_⟩) | (intro _)
 refine hK _ ?_; clear hK K
 refine zbr ?_
 refine AW_r rfl rfl fun K hK => ?_
 simp (disch := omega)
 repeat' first | (refine ⟨by omega, ?_⟩) | (intro _)
 refine hK _ ?_; clear hK K
 refine zb0 ?_
 refine zcf (fun mM sS => ∃ (i : Nat), mM = s.length - i ∧ (i ≤ s.length ∧ ∀ j b, j < i → s[j]? = some b → LoB b) ∧ sS = { env := lkE [(0, .s s), (3, (.g (.int .i64 ((i : Nat)))))], ob := formOb [] [] }) ?_ ?_
 ·refine ⟨_, LeS.kp [(0, .s s), (3, (.g (.int .i64 (((0) : Nat)))))] (by simp [KpE, zbl, zb5, zbi]; try rfl), _, 0, rfl, ?_, rfl⟩
  ·simp
 ·rintro mM sS ⟨i, rfl, ⟨hi, hpre⟩, rfl⟩
  refine zbr ?_
  refine AW_r rfl rfl fun K hK => ?_
  simp (disch := omega)
  repeat' first | (refine ⟨by omega, ?_⟩) | (intro _)
  refine hK _ ?_; clear hK K
  refine zbu rfl (fun hc4 => ?_) (fun hc4 => ?_)
  ·try simp at hc4
   all_goals
    have hg : s[i]? = some s[i] := List.getElem?_eq_getElem (by omega)
    refine zbv ?_
    refine zb4 ?_
    refine zbr ?_
    refine zb0 ?_
    refine AW_r rfl rfl fun K hK => ?_
    simp (disch := omega)
    repeat' first | (exfalso; omega) | (refine ⟨fun _ => ?_, fun _ => ?_⟩) | (refine ⟨by omega, ?_⟩) | (intro _)
    all_goals (refine hK _ ?_; clear hK K)
    all_goals
     refine zbu rfl (fun hc5 => ?_) (fun hc5 => ?_)
     ·try simp at hc5
      all_goals
       refine AW_r rfl rfl fun K hK => ?_
       simp (disch := omega)
       repeat' first | (exfalso; omega) | (refine ⟨fun _ => ?_, fun _ => ?_⟩) | (refine ⟨by omega, ?_⟩) | (intro _)
       all_goals (refine hK _ ?_; clear hK K)
       all_goals
        refine zby (zcd ?_)
        simp (disch := omega)
        all_goals first | (refine zc4 fun h => ?_; grind [Word, LoB]) | (refine zcu ?_; grind [Word, LoB]) | (rw [Bool.eq_iff_iff, zbc]; grind [Word, LoB])
     ·try simp at hc5
      all_goals
       refine zbv ?_
       refine zb4 ?_
       refine zdi rfl rfl fun K hK => ?_
       simp (disch := omega)
       repeat' first | (exfalso; omega) | (refine ⟨fun _ => ?_, fun _ => ?_⟩) | (refine ⟨by omega, ?_⟩) | (intro _)
       all_goals (refine hK _ ?_; clear hK K)
       all_goals
        refine ⟨_, LeS.kp [(0, .s s), (3, (.g (.int .i64 (((i + 1) : Nat)))))] (by simp [KpE, zbl, zb5, zbi]; try rfl), _, ?_, i + 1, rfl, ?_, rfl⟩
        ·omega
        ·refine ⟨by omega, ?_⟩; grind [LoB]
  ·try simp at hc4
   all_goals
    refine zch ?_
    refine zb4 ?_
    refine AW_r rfl rfl fun K hK => ?_
    simp (disch := omega)
    repeat' first | (exfalso; omega) | (refine zco (zbh zcx (zbh zcx (zbh zcx zbs))) (znu _ _ _) rfl ?_; simp (disch := omega)) | (refine ⟨fun _ => ?_, fun _ => ?_⟩) | (refine ⟨by omega, ?_⟩) | (intro _)
    all_goals (refine hK _ ?_; clear hK K)
    all_goals
     refine zby (zcd ?_)
     simp (disch := omega)
     all_goals first | (refine zc4 fun h => ?_; grind [Word, LoB]) | (refine zcu ?_; grind [Word, LoB]) | (rw [Bool.eq_iff_iff, zbc]; grind [Word, LoB])
end Go.Proofs.YtfbmhgiokfpgiaaGreat.Vs
