import Derived.Test.YtfbmhgiokfpgiaaSDQ
open Go Go.Proofs Go.Proofs.Ytfbmhgiokfpgiaa.Vs
namespace Go.Proofs.Ytfbmhgiokfpgiaa.Vs
set_option linter.all false
set_option linter.unusedSimpArgs false
set_option linter.unusedVariables false
set_option maxRecDepth 100000
theorem l1In (a b c : Int) : PCall Try.prog 48 [(.g (.int .i64 (a))), (.g (.int .i64 (b))), (.g (.int .i64 (c)))] (.g (.bool (decide (b ≤ a) && decide (a ≤ c)))) := by
 refine zbq Try.func48 (by rfl) (by rfl) (by rw [Try.ntmps48]; exact Nat.le_of_ble_eq_true rfl) rfl (by decide) ?_
 rw [Try.ntmps48]
 refine AW_k [(0, _), (1, _), (2, _)] ⟨rfl, rfl, rfl, trivial⟩ ?_
 refine AW_r rfl rfl fun K hK => ?_
 simp (disch := omega)
 repeat' first | (refine ⟨by omega, ?_⟩) | (intro _)
 refine hK _ ?_; clear hK K
 refine AW_r rfl rfl fun K hK => ?_
 simp (disch := omega)
 repeat' first | (exfalso; omega) | (refine ⟨fun _ => ?_, fun _ => ?_⟩) | (refine ⟨by omega, ?_⟩) | (intro _)
 all_goals (refine hK _ ?_; clear hK K)
 all_goals
  refine zbt (zb4 ?_)
  simp (disch := omega)
  all_goals first | omega | (simp_all; done) | (simp [List.take_of_length_le]; done) | ((try simp_all); (try simp (disch := omega) only [zbc, Int.tdiv_eq_ediv_of_nonneg, Int.tmod_eq_emod_of_nonneg, and_true, true_and]); done) | ((try simp_all); (try simp (disch := omega) only [zbc, Int.tdiv_eq_ediv_of_nonneg, Int.tmod_eq_emod_of_nonneg, and_true, true_and] at *); omega)
theorem zlz (a b c : Int) : PCall Try.prog 56 [(.g (.int .i64 (a))), (.g (.int .i64 (b))), (.g (.int .i64 (c)))] (.g (.bool (decide (b ≤ a) && decide (a ≤ c)))) := by
 refine zbq Try.func56 (by rfl) (by rfl) (by rw [Try.ntmps56]; exact Nat.le_of_ble_eq_true rfl) rfl (by decide) ?_
 rw [Try.ntmps56]
 refine AW_k [(0, _), (1, _), (2, _)] ⟨rfl, rfl, rfl, trivial⟩ ?_
 refine AW_r rfl rfl fun K hK => ?_
 simp (disch := omega)
 repeat' first | (refine ⟨by omega, ?_⟩) | (intro _)
 refine hK _ ?_; clear hK K
 refine AW_r rfl rfl fun K hK => ?_
 simp (disch := omega)
 repeat' first | (exfalso; omega) | (refine ⟨fun _ => ?_, fun _ => ?_⟩) | (refine ⟨by omega, ?_⟩) | (intro _)
 all_goals (refine hK _ ?_; clear hK K)
 all_goals
  refine zbt (zb4 ?_)
  simp (disch := omega)
  all_goals first | omega | (simp_all; done) | (simp [List.take_of_length_le]; done) | ((try simp_all); (try simp (disch := omega) only [zbc, Int.tdiv_eq_ediv_of_nonneg, Int.tmod_eq_emod_of_nonneg, and_true, true_and]); done) | ((try simp_all); (try simp (disch := omega) only [zbc, Int.tdiv_eq_ediv_of_nonneg, Int.tmod_eq_emod_of_nonneg, and_true, true_and] at *); omega)
def LoB (b : UInt8) : Prop := 97 ≤ b.toNat ∧ b.toNat ≤ 122
def Word (s : List UInt8) : Prop := 1 ≤ s.length ∧ s.length ≤ 8 ∧ ∀ (j : Nat) b, s[j]? = some b → LoB b
theorem l4Word (s : List UInt8) : PCall Try.prog 86 [.s s] (.g (.bool (decB (Word s)))) := by
 refine zbq Try.func86 (by rfl) (by rfl) (by rw [Try.ntmps86]; exact Nat.le_of_ble_eq_true rfl) rfl (by decide) ?_
 rw [Try.ntmps86]
 refine AW_k [(0, _)] ⟨rfl, trivial⟩ ?_
 refine AW_r rfl rfl fun K hK => ?_
 simp (disch := omega)
 repeat' first | (refine ⟨by omega, ?_⟩) | (intro _)
 refine hK _ ?_; clear hK K
 refine zbo ?_
 refine AW_r rfl rfl fun K hK => ?_
 simp (disch := omega)
 repeat' first | (exfalso; omega) | (refine zcj (zbg zcr (zbg zcr (zbg zcr zbn))) (l1In _ _ _) rfl ?_; simp (disch := omega)) | (refine ⟨by omega, ?_⟩) | (intro _)
 refine hK _ ?_; clear hK K
 refine zbr rfl (fun hc1 => ?_) (fun hc1 => ?_)
 ·try simp at hc1
  all_goals
   refine AW_r rfl rfl fun K hK => ?_
   simp (disch := omega)
   repeat' first | (exfalso; omega) | (refine ⟨fun _ => ?_, fun _ => ?_⟩) | (refine ⟨by omega, ?_⟩) | (intro _)
   all_goals (refine hK _ ?_; clear hK K)
   all_goals
    refine zbt (zb4 ?_)
    simp (disch := omega)
    all_goals first | (refine zcu fun h => ?_; grind [Word, LoB]) | (refine zct ?_; grind [Word, LoB])
 ·try simp at hc1
  all_goals
   refine zbs ?_
   refine zbx ?_
   refine zbo ?_
   refine AW_r rfl rfl fun K hK => ?_
   simp (disch := omega)
   repeat' first | (exfalso; omega) | (refine ⟨fun _ => ?_, fun _ => ?_⟩) | (refine ⟨by omega, ?_⟩) | (intro _)
   all_goals (refine hK _ ?_; clear hK K)
   all_goals
    refine zbw ?_
    refine zcb (fun mM sS => ∃ (i : Nat), mM = s.length - i ∧ (i ≤ s.length ∧ ∀ j b, j < i → s[j]? = some b → LoB b) ∧ sS = { env := lkE [(0, .s s), (3, (.g (.int .i64 ((i : Nat)))))], ob := formOb [] [] }) ?_ ?_
    ·refine ⟨_, LeS.kp [(0, .s s), (3, (.g (.int .i64 (((0) : Nat)))))] (by simp [KpE, zbl, zbz, zbj]; try rfl), _, 0, rfl, ?_, rfl⟩
     ·simp
    ·rintro mM sS ⟨i, rfl, ⟨hi, hpre⟩, rfl⟩
     refine zbo ?_
     refine AW_r rfl rfl fun K hK => ?_
     simp (disch := omega)
     repeat' first | (refine ⟨by omega, ?_⟩) | (intro _)
     refine hK _ ?_; clear hK K
     refine zbr rfl (fun hc2 => ?_) (fun hc2 => ?_)
     ·try simp at hc2
      all_goals
       have hg : s[i]? = some s[i] := List.getElem?_eq_getElem (by omega)
       refine zbs ?_
       refine zbx ?_
       refine zbo ?_
       refine zbw ?_
       refine AW_r rfl rfl fun K hK => ?_
       simp (disch := omega)
       repeat' first | (exfalso; omega) | (refine ⟨fun _ => ?_, fun _ => ?_⟩) | (refine ⟨by omega, ?_⟩) | (intro _)
       all_goals (refine hK _ ?_; clear hK K)
       all_goals
        refine zbr rfl (fun hc3 => ?_) (fun hc3 => ?_)
        ·try simp at hc3
         all_goals
          refine AW_r rfl rfl fun K hK => ?_
          simp (disch := omega)
          repeat' first | (exfalso; omega) | (refine ⟨fun _ => ?_, fun _ => ?_⟩) | (refine ⟨by omega, ?_⟩) | (intro _)
          all_goals (refine hK _ ?_; clear hK K)
          all_goals
           refine zbt (zb4 ?_)
           simp (disch := omega)
           all_goals first | (refine zcu fun h => ?_; grind [Word, LoB]) | (refine zct ?_; grind [Word, LoB])
        ·try simp at hc3
         all_goals
          refine zbs ?_
          refine zbx ?_
          refine zc6 rfl rfl fun K hK => ?_
          simp (disch := omega)
          repeat' first | (exfalso; omega) | (refine ⟨fun _ => ?_, fun _ => ?_⟩) | (refine ⟨by omega, ?_⟩) | (intro _)
          all_goals (refine hK _ ?_; clear hK K)
          all_goals
           refine ⟨_, LeS.kp [(0, .s s), (3, (.g (.int .i64 (((i + 1) : Nat)))))] (by simp [KpE, zbl, zbz, zbj]; try rfl), _, ?_, i + 1, rfl, ?_, rfl⟩
           ·omega
           ·refine ⟨by omega, ?_⟩; grind [LoB]
     ·try simp at hc2
      all_goals
       refine zce ?_
       refine zbx ?_
       refine AW_r rfl rfl fun K hK => ?_
       simp (disch := omega)
       repeat' first | (exfalso; omega) | (refine ⟨fun _ => ?_, fun _ => ?_⟩) | (refine ⟨by omega, ?_⟩) | (intro _)
       all_goals (refine hK _ ?_; clear hK K)
       all_goals
        refine zbt (zb4 ?_)
        simp (disch := omega)
        all_goals first | (refine zcu fun h => ?_; grind [Word, LoB]) | (refine zct ?_; grind [Word, LoB])
theorem isWord (s : List UInt8) (hs : s.length ≤ 1048576) : PCall Try.prog 88 [.s s] (.g (.bool (decB (Word s)))) := by
 refine zbq Try.func88 (by rfl) (by rfl) (by rw [Try.ntmps88]; exact Nat.le_of_ble_eq_true rfl) rfl (by decide) ?_
 rw [Try.ntmps88]
 refine AW_k [(0, _)] ⟨rfl, trivial⟩ ?_
 refine AW_r rfl rfl fun K hK => ?_
 simp (disch := omega)
 repeat' first | (refine ⟨by omega, ?_⟩) | (intro _)
 refine hK _ ?_; clear hK K
 refine zbo ?_
 refine AW_r rfl rfl fun K hK => ?_
 simp (disch := omega)
 repeat' first | (refine ⟨by omega, ?_⟩) | (intro _)
 refine hK _ ?_; clear hK K
 refine zbw ?_
 refine zcb (fun mM sS => ∃ (i : Nat), mM = s.length - i ∧ (i ≤ s.length ∧ ∀ j b, j < i → s[j]? = some b → LoB b) ∧ sS = { env := lkE [(0, .s s), (3, (.g (.int .i64 ((i : Nat)))))], ob := formOb [] [] }) ?_ ?_
 ·refine ⟨_, LeS.kp [(0, .s s), (3, (.g (.int .i64 (((0) : Nat)))))] (by simp [KpE, zbl, zbz, zbj]; try rfl), _, 0, rfl, ?_, rfl⟩
  ·simp
 ·rintro mM sS ⟨i, rfl, ⟨hi, hpre⟩, rfl⟩
  refine zbo ?_
  refine AW_r rfl rfl fun K hK => ?_
  simp (disch := omega)
  repeat' first | (refine ⟨by omega, ?_⟩) | (intro _)
  refine hK _ ?_; clear hK K
  refine zbr rfl (fun hc4 => ?_) (fun hc4 => ?_)
  ·try simp at hc4
   all_goals
    have hg : s[i]? = some s[i] := List.getElem?_eq_getElem (by omega)
    refine zbs ?_
    refine zbx ?_
    refine zbo ?_
    refine zbw ?_
    refine AW_r rfl rfl fun K hK => ?_
    simp (disch := omega)
    repeat' first | (exfalso; omega) | (refine ⟨fun _ => ?_, fun _ => ?_⟩) | (refine ⟨by omega, ?_⟩) | (intro _)
    all_goals (refine hK _ ?_; clear hK K)
    all_goals
     refine zbr rfl (fun hc5 => ?_) (fun hc5 => ?_)
     ·try simp at hc5
      all_goals
       refine AW_r rfl rfl fun K hK => ?_
       simp (disch := omega)
       repeat' first | (exfalso; omega) | (refine ⟨fun _ => ?_, fun _ => ?_⟩) | (refine ⟨by omega, ?_⟩) | (intro _)
       all_goals (refine hK _ ?_; clear hK K)
       all_goals
        refine zbt (zb4 ?_)
        simp (disch := omega)
        all_goals first | (refine zcu fun h => ?_; grind [Word, LoB]) | (refine zct ?_; grind [Word, LoB]) | (rw [Bool.eq_iff_iff, zba]; grind [Word, LoB])
     ·try simp at hc5
      all_goals
       refine zbs ?_
       refine zbx ?_
       refine zc6 rfl rfl fun K hK => ?_
       simp (disch := omega)
       repeat' first | (exfalso; omega) | (refine ⟨fun _ => ?_, fun _ => ?_⟩) | (refine ⟨by omega, ?_⟩) | (intro _)
       all_goals (refine hK _ ?_; clear hK K)
       all_goals
        refine ⟨_, LeS.kp [(0, .s s), (3, (.g (.int .i64 (((i + 1) : Nat)))))] (by simp [KpE, zbl, zbz, zbj]; try rfl), _, ?_, i + 1, rfl, ?_, rfl⟩
        ·omega
        ·refine ⟨by omega, ?_⟩; grind [LoB]
  ·try simp at hc4
   all_goals
    refine zce ?_
    refine zbx ?_
    refine AW_r rfl rfl fun K hK => ?_
    simp (disch := omega)
    repeat' first | (exfalso; omega) | (refine zcj (zbg zcr (zbg zcr (zbg zcr zbn))) (zlz _ _ _) rfl ?_; simp (disch := omega)) | (refine ⟨fun _ => ?_, fun _ => ?_⟩) | (refine ⟨by omega, ?_⟩) | (intro _)
    all_goals (refine hK _ ?_; clear hK K)
    all_goals
     refine zbt (zb4 ?_)
     simp (disch := omega)
     all_goals first | (refine zcu fun h => ?_; grind [Word, LoB]) | (refine zct ?_; grind [Word, LoB]) | (rw [Bool.eq_iff_iff, zba]; grind [Word, LoB])
end Go.Proofs.Ytfbmhgiokfpgiaa.Vs
