import Derived.Test.YtfbmhgiokfpgiaaSK1
open Go Go.Proofs Go.Proofs.Ytfbmhgiokfpgiaa.Vs
namespace Go.Proofs.Ytfbmhgiokfpgiaa.Vs
set_option linter.all false
set_option linter.unusedSimpArgs false
set_option linter.unusedVariables false
set_option maxRecDepth 100000
theorem zby : eq2 Try.prog 36 = true := by kernel_rfl
def IdP (x : DtId) : Prop := 0 ≤ x.fRep ∧ x.fRep ≤ 2 ∧ 1 ≤ x.fSlot ∧ x.fSlot ≤ 6
def idLt (a b : DtId) : Prop := a.fRep < b.fRep ∨ (a.fRep = b.fRep ∧ a.fSlot < b.fSlot)
def IdsP (l : List DtId) : Prop := ∀ (i : Nat) x, l[i]? = some x → IdP x ∧ ∀ y, 0 < i → l[i - 1]? = some y → idLt y x
noncomputable def cmpI (a b : DtId) : Int := bif decB (idLt a b) then -1 else bif eqB a b then 0 else 1
theorem zbp (a b : DtId) : (cmpI a b < 0) = idLt a b := by
 by_cases h : idLt a b
 ·have e : cmpI a b = -1 := by rw [cmpI, zco h]; rfl
  rw [e]; simp [h]
 ·have e : 0 ≤ cmpI a b := by
   rw [cmpI, zcx h]
   cases eqB a b <;> simp
  simp [h]; omega
theorem zbq (a b : DtId) : (0 ≤ cmpI a b) = ¬ idLt a b := by
 rw [← zbp]; simp
theorem zft (a b : DtId) : (a = b) = (a.fRep = b.fRep ∧ a.fSlot = b.fSlot) := DtId.ext_iff a b
theorem l8Id (x : DtId) : PCall Try.prog 47 [.agg (DtId.cells x)] (.g (.bool (decB (IdP x)))) := by
 refine zbu Try.func47 (by rfl) (by rfl) (by rw [Try.ntmps47]; exact Nat.le_of_ble_eq_true rfl) rfl (by decide) ?_
 rw [Try.ntmps47]
 refine AW_k [(0, _)] ⟨rfl, trivial⟩ ?_
 refine AW_r rfl rfl fun K hK => ?_
 simp (disch := omega) [zbd, gE, tP, DtId.cells, zbb, zba]
 repeat' first | (refine ⟨by omega, ?_⟩) | (intro _)
 refine hK _ ?_; clear hK K
 refine AW_r rfl rfl fun K hK => ?_
 simp (disch := omega) [zbd, gE, tP, DtId.cells, zbb, zba]
 repeat' first | (exfalso; omega) | (refine zck (zbg zc5 (zbg zc5 (zbg zc5 zbr))) (l1In _ _ _) rfl ?_; simp (disch := omega) [zbd, gE, tP, DtId.cells, zbb, zba]) | (refine ⟨fun _ => ?_, fun _ => ?_⟩) | (refine ⟨by omega, ?_⟩) | (intro _)
 all_goals (refine hK _ ?_; clear hK K)
 all_goals
  refine zbz (zcb ?_)
  simp (disch := omega) [zbd, gE, tP, DtId.cells, zbb, zba]
  all_goals first | grind [IdP] | (rw [Bool.eq_iff_iff, zbb]; simp; grind [IdP])
theorem idOk (x : DtId) : PCall Try.prog 55 [.agg (DtId.cells x)] (.g (.bool (decB (IdP x)))) := by
 refine zbu Try.func55 (by rfl) (by rfl) (by rw [Try.ntmps55]; exact Nat.le_of_ble_eq_true rfl) rfl (by decide) ?_
 rw [Try.ntmps55]
 refine AW_k [(0, _)] ⟨rfl, trivial⟩ ?_
 refine AW_r rfl rfl fun K hK => ?_
 simp (disch := omega) [zbd, gE, tP, DtId.cells, zbb, zba]
 repeat' first | (refine ⟨by omega, ?_⟩) | (intro _)
 refine hK _ ?_; clear hK K
 refine AW_r rfl rfl fun K hK => ?_
 simp (disch := omega) [zbd, gE, tP, DtId.cells, zbb, zba]
 repeat' first | (exfalso; omega) | (refine zck (zbg zc5 (zbg zc5 (zbg zc5 zbr))) (zm1 _ _ _) rfl ?_; simp (disch := omega) [zbd, gE, tP, DtId.cells, zbb, zba]) | (refine ⟨fun _ => ?_, fun _ => ?_⟩) | (refine ⟨by omega, ?_⟩) | (intro _)
 all_goals (refine hK _ ?_; clear hK K)
 all_goals
  refine zbz (zcb ?_)
  simp (disch := omega) [zbd, gE, tP, DtId.cells, zbb, zba]
  all_goals first | grind [IdP] | (rw [Bool.eq_iff_iff, zbb]; simp; grind [IdP])
theorem zzu (a b : DtId) : PCall Try.prog 34 [.agg (DtId.cells a), .agg (DtId.cells b)] (.g (.bool (decB (idLt a b)))) := by
 refine zbu Try.func34 (by rfl) (by rfl) (by rw [Try.ntmps34]; exact Nat.le_of_ble_eq_true rfl) rfl (by decide) ?_
 rw [Try.ntmps34]
 refine AW_k [(0, _), (1, _)] ⟨rfl, rfl, trivial⟩ ?_
 refine AW_r rfl rfl fun K hK => ?_
 simp (disch := omega) [zbd, gE, tP, DtId.cells, zbb, zba]
 repeat' first | (refine ⟨by omega, ?_⟩) | (intro _)
 refine hK _ ?_; clear hK K
 refine AW_r rfl rfl fun K hK => ?_
 simp (disch := omega) [zbd, gE, tP, DtId.cells, zbb, zba]
 repeat' first | (exfalso; omega) | (refine ⟨fun _ => ?_, fun _ => ?_⟩) | (refine ⟨by omega, ?_⟩) | (intro _)
 all_goals (refine hK _ ?_; clear hK K)
 all_goals
  refine zbz (zcb ?_)
  simp (disch := omega) [zbd, gE, tP, DtId.cells, zbb, zba]
  all_goals first | grind [idLt] | (rw [Bool.eq_iff_iff, zbb]; simp; grind [idLt])
theorem zg9 (a b : DtId) : PCall Try.prog 40 [.agg (DtId.cells a), .agg (DtId.cells b)] (.g (.int .i64 (cmpI a b))) := by
 have hd : decB (idLt a b) = true ∨ decB (idLt a b) = false := by cases decB (idLt a b) <;> simp
 have he := zft a b
 have k1 : (a.fRep < b.fRep ∨ (a.fRep = b.fRep ∧ a.fSlot < b.fSlot)) → cmpI a b = -1 := fun h => by
  have h : idLt a b := h
  rw [cmpI, zco h]; rfl
 have k2 : ¬ (a.fRep < b.fRep ∨ (a.fRep = b.fRep ∧ a.fSlot < b.fSlot)) → (a.fRep = b.fRep ∧ a.fSlot = b.fSlot) → cmpI a b = 0 := fun h h2 => by
  have h : ¬ idLt a b := h
  rw [cmpI, zcx h, zch (he.mpr h2)]; rfl
 have k3 : ¬ (a.fRep < b.fRep ∨ (a.fRep = b.fRep ∧ a.fSlot < b.fSlot)) → ¬ (a.fRep = b.fRep ∧ a.fSlot = b.fSlot) → cmpI a b = 1 := fun h h2 => by
  have h : ¬ idLt a b := h
  rw [cmpI, zcx h, zcd (fun e => h2 (he.mp e))]; rfl
 refine zbu Try.func40 (by rfl) (by rfl) (by rw [Try.ntmps40]; exact Nat.le_of_ble_eq_true rfl) rfl (by decide) ?_
 rw [Try.ntmps40]
 refine AW_k [(0, _), (1, _)] ⟨rfl, rfl, trivial⟩ ?_
 refine AW_r rfl rfl fun K hK => ?_
 simp (disch := omega) [zbd, gE, tP, DtId.cells, zby]
 repeat' first | (refine ⟨by omega, ?_⟩) | (intro _)
 refine hK _ ?_; clear hK K
 refine zbt ?_
 refine zb0 ?_
 refine AW_r rfl rfl fun K hK => ?_
 simp (disch := omega) [zbd, gE, tP, DtId.cells, zby]
 repeat' first | (exfalso; omega) | (refine ⟨fun _ => ?_, fun _ => ?_⟩) | (refine ⟨by omega, ?_⟩) | (intro _)
 all_goals (refine hK _ ?_; clear hK K)
 all_goals
  refine zbv rfl (fun hc1 => ?_) (fun hc1 => ?_)
  ·try simp [zbb, zba, zbf, zbe] at hc1
   all_goals
    refine AW_r rfl rfl fun K hK => ?_
    simp (disch := omega) [zbd, gE, tP, DtId.cells, zby]
    repeat' first | (exfalso; omega) | (refine ⟨fun _ => ?_, fun _ => ?_⟩) | (refine ⟨by omega, ?_⟩) | (intro _)
    all_goals (refine hK _ ?_; clear hK K)
    all_goals
     refine zbz (zcb ?_)
     simp (disch := omega) [zbd, gE, tP, DtId.cells, zby]
     all_goals (clear hd he; grind)
  ·try simp [zbb, zba, zbf, zbe] at hc1
   all_goals
    refine AW_r rfl rfl fun K hK => ?_
    simp (disch := omega) [zbd, gE, tP, DtId.cells, zby]
    repeat' first | (exfalso; omega) | (refine ⟨fun _ => ?_, fun _ => ?_⟩) | (refine ⟨by omega, ?_⟩) | (intro _)
    all_goals (refine hK _ ?_; clear hK K)
    all_goals
     refine zbv rfl (fun hc2 => ?_) (fun hc2 => ?_)
     ·try simp [zbb, zba, zbf, zbe] at hc2
      all_goals
       refine AW_r rfl rfl fun K hK => ?_
       simp (disch := omega) [zbd, gE, tP, DtId.cells, zby]
       repeat' first | (exfalso; omega) | (refine ⟨fun _ => ?_, fun _ => ?_⟩) | (refine ⟨by omega, ?_⟩) | (intro _)
       all_goals (refine hK _ ?_; clear hK K)
       all_goals
        refine zbz (zcb ?_)
        simp (disch := omega) [zbd, gE, tP, DtId.cells, zby]
        all_goals (clear hd he; grind)
     ·try simp [zbb, zba, zbf, zbe] at hc2
      all_goals
       refine zbw ?_
       refine zb3 ?_
       refine AW_r rfl rfl fun K hK => ?_
       simp (disch := omega) [zbd, gE, tP, DtId.cells, zby]
       repeat' first | (exfalso; omega) | (refine ⟨fun _ => ?_, fun _ => ?_⟩) | (refine ⟨by omega, ?_⟩) | (intro _)
       all_goals (refine hK _ ?_; clear hK K)
       all_goals
        refine zbz (zcb ?_)
        simp (disch := omega) [zbd, gE, tP, DtId.cells, zby]
        all_goals (clear hd he; grind)
theorem zzv (l : List DtId) (hn : l.length ≤ 1048576) : PCall Try.prog 50 [.sl 2 (l.map DtId.cells)] (.g (.bool (decB (IdsP l)))) := by
 refine zbu Try.func50 (by rfl) (by rfl) (by rw [Try.ntmps50]; exact Nat.le_of_ble_eq_true rfl) rfl (by decide) ?_
 rw [Try.ntmps50]
 refine AW_k [(0, _)] ⟨rfl, trivial⟩ ?_
 refine AW_r rfl rfl fun K hK => ?_
 simp (disch := omega) [zbd, gE, tP, DtId.cells, zbb, zba, zbq, zbp, Classical.not_not]
 repeat' first | (refine ⟨by omega, ?_⟩) | (intro _)
 refine hK _ ?_; clear hK K
 refine zbt ?_
 refine AW_r rfl rfl fun K hK => ?_
 simp (disch := omega) [zbd, gE, tP, DtId.cells, zbb, zba, zbq, zbp, Classical.not_not]
 repeat' first | (refine ⟨by omega, ?_⟩) | (intro _)
 refine hK _ ?_; clear hK K
 refine zb0 ?_
 refine zcc (fun mM sS => ∃ (i : Nat), mM = l.length - i ∧ (i ≤ l.length ∧ ∀ (j : Nat) x, j < i → l[j]? = some x → IdP x ∧ ∀ y, 0 < j → l[j - 1]? = some y → idLt y x) ∧ sS = { env := lkE [(0, .sl 2 (l.map DtId.cells)), (3, (.g (.int .i64 ((i : Nat)))))], ob := formOb [] [] }) ?_ ?_
 ·refine ⟨_, LeS.kp [(0, .sl 2 (l.map DtId.cells)), (3, (.g (.int .i64 (((0) : Nat)))))] (by simp [KpE, zbn, zb4, zbk]; try rfl), _, 0, rfl, ?_, rfl⟩
  ·simp
 ·rintro mM sS ⟨i, rfl, ⟨hi, hpre⟩, rfl⟩
  refine zbt ?_
  refine AW_r rfl rfl fun K hK => ?_
  simp (disch := omega) [zbd, gE, tP, DtId.cells, zbb, zba, zbq, zbp, Classical.not_not]
  repeat' first | (refine ⟨by omega, ?_⟩) | (intro _)
  refine hK _ ?_; clear hK K
  refine zbv rfl (fun hc3 => ?_) (fun hc3 => ?_)
  ·try simp [zbb, zba, zbf, zbe, zbp, zbq] at hc3
   all_goals
    have hg : l[i]? = some l[i] := List.getElem?_eq_getElem (by omega)
    have hg' : l[i - 1]? = some l[i - 1] := List.getElem?_eq_getElem (by omega)
    rcases Nat.eq_zero_or_pos i with hi0 | hi0
    all_goals
     refine zbw ?_
     refine zb3 ?_
     refine zbt ?_
     refine zb0 ?_
     refine AW_q rfl mix (by kernel_rfl) rfl fun K hK => ?_
     simp (disch := omega) [zbd, gE, tP, DtId.cells, zbb, zba, zbq, zbp, Classical.not_not]
     repeat' first | (exfalso; omega) | (refine zck (zbg (zb6 rfl) zbr) (l8Id _) rfl ?_; simp (disch := omega) [zbd, gE, tP, DtId.cells, zbb, zba, zbq, zbp, Classical.not_not]) | (refine zck (zbg (zb6 rfl) (zbg (zb6 rfl) zbr)) (zzu _ _) rfl ?_; simp (disch := omega) [zbd, gE, tP, DtId.cells, zbb, zba, zbq, zbp, Classical.not_not]) | (refine ⟨fun _ => ?_, fun _ => ?_⟩) | (refine ⟨by omega, ?_⟩) | (intro _)
     all_goals (refine hK _ ?_; clear hK K)
     all_goals
      refine zbv rfl (fun hc4 => ?_) (fun hc4 => ?_)
      ·try simp [zbb, zba, zbf, zbe, zbp, zbq] at hc4
       all_goals
        refine AW_r rfl rfl fun K hK => ?_
        simp (disch := omega) [zbd, gE, tP, DtId.cells, zbb, zba, zbq, zbp, Classical.not_not]
        repeat' first | (exfalso; omega) | (refine ⟨fun _ => ?_, fun _ => ?_⟩) | (refine ⟨by omega, ?_⟩) | (intro _)
        all_goals (refine hK _ ?_; clear hK K)
        all_goals
         refine zbz (zcb ?_)
         simp (disch := omega) [zbd, gE, tP, DtId.cells, zbb, zba, zbq, zbp, Classical.not_not]
         all_goals first | grind [IdsP] | (refine zcx fun h => ?_; grind [IdsP]) | (refine zco ?_; grind [IdsP])
      ·try simp [zbb, zba, zbf, zbe, zbp, zbq] at hc4
       all_goals
        refine zbw ?_
        refine zb3 ?_
        refine zdf rfl rfl fun K hK => ?_
        simp (disch := omega) [zbd, gE, tP, DtId.cells, zbb, zba, zbq, zbp, Classical.not_not]
        repeat' first | (exfalso; omega) | (refine ⟨fun _ => ?_, fun _ => ?_⟩) | (refine ⟨by omega, ?_⟩) | (intro _)
        all_goals (refine hK _ ?_; clear hK K)
        all_goals
         refine ⟨_, LeS.kp [(0, .sl 2 (l.map DtId.cells)), (3, (.g (.int .i64 (((i + 1) : Nat)))))] (by simp [KpE, zbn, zb4, zbk]; try rfl), _, ?_, i + 1, rfl, ?_, rfl⟩
         ·omega
         ·refine ⟨by omega, ?_⟩; clear hg'; grind
  ·try simp [zbb, zba, zbf, zbe, zbp, zbq] at hc3
   all_goals
    refine zce ?_
    refine zb3 ?_
    refine AW_r rfl rfl fun K hK => ?_
    simp (disch := omega) [zbd, gE, tP, DtId.cells, zbb, zba, zbq, zbp, Classical.not_not]
    repeat' first | (exfalso; omega) | (refine ⟨fun _ => ?_, fun _ => ?_⟩) | (refine ⟨by omega, ?_⟩) | (intro _)
    all_goals (refine hK _ ?_; clear hK K)
    all_goals
     refine zbz (zcb ?_)
     simp (disch := omega) [zbd, gE, tP, DtId.cells, zbb, zba, zbq, zbp, Classical.not_not]
     all_goals first | grind [IdsP] | (refine zcx fun h => ?_; grind [IdsP]) | (refine zco ?_; grind [IdsP])
theorem zzw (l : List DtId) (hn : l.length ≤ 1048576) : PCall Try.prog 58 [.sl 2 (l.map DtId.cells)] (.g (.bool (decB (IdsP l)))) := by
 refine zbu Try.func58 (by rfl) (by rfl) (by rw [Try.ntmps58]; exact Nat.le_of_ble_eq_true rfl) rfl (by decide) ?_
 rw [Try.ntmps58]
 refine AW_k [(0, _)] ⟨rfl, trivial⟩ ?_
 refine AW_r rfl rfl fun K hK => ?_
 simp (disch := omega) [zbd, gE, tP, DtId.cells, zbb, zba, zbq, zbp, Classical.not_not]
 repeat' first | (refine ⟨by omega, ?_⟩) | (intro _)
 refine hK _ ?_; clear hK K
 refine zbt ?_
 refine AW_r rfl rfl fun K hK => ?_
 simp (disch := omega) [zbd, gE, tP, DtId.cells, zbb, zba, zbq, zbp, Classical.not_not]
 repeat' first | (refine ⟨by omega, ?_⟩) | (intro _)
 refine hK _ ?_; clear hK K
 refine zb0 ?_
 refine zcc (fun mM sS => ∃ (i : Nat), mM = l.length - i ∧ (i ≤ l.length ∧ ∀ (j : Nat) x, j < i → l[j]? = some x → IdP x ∧ ∀ y, 0 < j → l[j - 1]? = some y → idLt y x) ∧ sS = { env := lkE [(0, .sl 2 (l.map DtId.cells)), (5, .sl 2 (l.map DtId.cells)), (6, (.g (.int .i64 ((l.length : Nat))))), (7, (.g (.int .i64 ((i : Nat)))))], ob := lk [] }) ?_ ?_
 ·refine ⟨_, LeS.ko [(0, .sl 2 (l.map DtId.cells)), (5, .sl 2 (l.map DtId.cells)), (6, (.g (.int .i64 ((l.length : Nat))))), (7, (.g (.int .i64 (((0) : Nat)))))] [] (by simp [KpE, zbn, zb4, zbk]; try rfl) (by simp [KpO, zbn, zbk, zbx, zcf]; try rfl) (by rfl) (by simp) (by rfl), _, 0, rfl, ?_, rfl⟩
  ·simp
 ·rintro mM sS ⟨i, rfl, ⟨hi, hpre⟩, rfl⟩
  refine AW_r rfl rfl fun K hK => ?_
  simp (disch := omega) [zbd, gE, tP, DtId.cells, zbb, zba, zbq, zbp, Classical.not_not]
  repeat' first | (refine ⟨by omega, ?_⟩) | (intro _)
  refine hK _ ?_; clear hK K
  refine zbt ?_
  refine zbv rfl (fun hc5 => ?_) (fun hc5 => ?_)
  ·try simp [zbb, zba, zbf, zbe, zbp, zbq] at hc5
   all_goals
    have hg : l[i]? = some l[i] := List.getElem?_eq_getElem (by omega)
    have hg' : l[i - 1]? = some l[i - 1] := List.getElem?_eq_getElem (by omega)
    rcases Nat.eq_zero_or_pos i with hi0 | hi0
    all_goals
     refine zbw ?_
     refine zb3 ?_
     refine zbt ?_
     refine zb0 ?_
     refine AW_r rfl rfl fun K hK => ?_
     simp (disch := omega) [zbd, gE, tP, DtId.cells, zbb, zba, zbq, zbp, Classical.not_not]
     repeat' first | (exfalso; omega) | (refine ⟨fun _ => ?_, fun _ => ?_⟩) | (refine ⟨by omega, ?_⟩) | (intro _)
     all_goals (refine hK _ ?_; clear hK K)
     all_goals
      refine AW_q rfl mix (by kernel_rfl) rfl fun K hK => ?_
      simp (disch := omega) [zbd, gE, tP, DtId.cells, zbb, zba, zbq, zbp, Classical.not_not]
      repeat' first | (exfalso; omega) | (refine zck (zbg (zb6 rfl) zbr) (idOk _) rfl ?_; simp (disch := omega) [zbd, gE, tP, DtId.cells, zbb, zba, zbq, zbp, Classical.not_not]) | (refine zck (zbg (zb6 rfl) (zbg (zb6 rfl) zbr)) (zg9 _ _) rfl ?_; simp (disch := omega) [zbd, gE, tP, DtId.cells, zbb, zba, zbq, zbp, Classical.not_not]) | (refine ⟨fun _ => ?_, fun _ => ?_⟩) | (refine ⟨by omega, ?_⟩) | (intro _)
      all_goals (refine hK _ ?_; clear hK K)
      all_goals
       refine zbv rfl (fun hc6 => ?_) (fun hc6 => ?_)
       ·try simp [zbb, zba, zbf, zbe, zbp, zbq] at hc6
        all_goals
         refine AW_r rfl rfl fun K hK => ?_
         simp (disch := omega) [zbd, gE, tP, DtId.cells, zbb, zba, zbq, zbp, Classical.not_not]
         repeat' first | (exfalso; omega) | (refine ⟨fun _ => ?_, fun _ => ?_⟩) | (refine ⟨by omega, ?_⟩) | (intro _)
         all_goals (refine hK _ ?_; clear hK K)
         all_goals
          refine zbz (zcb ?_)
          simp (disch := omega) [zbd, gE, tP, DtId.cells, zbb, zba, zbq, zbp, Classical.not_not]
          all_goals first | grind [IdsP] | (refine zcx fun h => ?_; grind [IdsP]) | (refine zco ?_; grind [IdsP])
       ·try simp [zbb, zba, zbf, zbe, zbp, zbq] at hc6
        all_goals
         refine zbw ?_
         refine zb3 ?_
         refine zdf rfl rfl fun K hK => ?_
         simp (disch := omega) [zbd, gE, tP, DtId.cells, zbb, zba, zbq, zbp, Classical.not_not]
         repeat' first | (exfalso; omega) | (refine ⟨fun _ => ?_, fun _ => ?_⟩) | (refine ⟨by omega, ?_⟩) | (intro _)
         all_goals (refine hK _ ?_; clear hK K)
         all_goals
          refine ⟨_, LeS.ko [(0, .sl 2 (l.map DtId.cells)), (5, .sl 2 (l.map DtId.cells)), (6, (.g (.int .i64 ((l.length : Nat))))), (7, (.g (.int .i64 (((i + 1) : Nat)))))] [] (by simp [KpE, zbn, zb4, zbk]; try rfl) (by simp [KpO, zbn, zbk, zbx, zcf]; try rfl) (by rfl) (by simp) (by rfl), _, ?_, i + 1, rfl, ?_, rfl⟩
          ·omega
          ·refine ⟨by omega, ?_⟩; clear hg'; grind
  ·try simp [zbb, zba, zbf, zbe, zbp, zbq] at hc5
   all_goals
    refine zce ?_
    refine zb3 ?_
    refine AW_r rfl rfl fun K hK => ?_
    simp (disch := omega) [zbd, gE, tP, DtId.cells, zbb, zba, zbq, zbp, Classical.not_not]
    repeat' first | (exfalso; omega) | (refine ⟨fun _ => ?_, fun _ => ?_⟩) | (refine ⟨by omega, ?_⟩) | (intro _)
    all_goals (refine hK _ ?_; clear hK K)
    all_goals
     refine zbz (zcb ?_)
     simp (disch := omega) [zbd, gE, tP, DtId.cells, zbb, zba, zbq, zbp, Classical.not_not]
     all_goals first | grind [IdsP] | (refine zcx fun h => ?_; grind [IdsP]) | (refine zco ?_; grind [IdsP])
theorem zwe (l : List DtId) (x : DtId) (hn : l.length ≤ 1048576) : PCall Try.prog 51 [.sl 2 (l.map DtId.cells), .agg (DtId.cells x)] (.g (.bool (decB (x ∈ l)))) := by
 refine zbu Try.func51 (by rfl) (by rfl) (by rw [Try.ntmps51]; exact Nat.le_of_ble_eq_true rfl) rfl (by decide) ?_
 rw [Try.ntmps51]
 refine AW_k [(0, _), (1, _)] ⟨rfl, rfl, trivial⟩ ?_
 refine AW_r rfl rfl fun K hK => ?_
 simp (disch := omega) [zbd, gE, tP, DtId.cells, zby]
 repeat' first | (refine ⟨by omega, ?_⟩) | (intro _)
 refine hK _ ?_; clear hK K
 refine zbt ?_
 refine AW_r rfl rfl fun K hK => ?_
 simp (disch := omega) [zbd, gE, tP, DtId.cells, zby]
 repeat' first | (refine ⟨by omega, ?_⟩) | (intro _)
 refine hK _ ?_; clear hK K
 refine zb0 ?_
 refine zcc (fun mM sS => ∃ (i : Nat), mM = l.length - i ∧ (i ≤ l.length ∧ ∀ (j : Nat) y, j < i → l[j]? = some y → ¬ (y.fRep = x.fRep ∧ y.fSlot = x.fSlot)) ∧ sS = { env := lkE [(0, .sl 2 (l.map DtId.cells)), (3, .ptr 64 0), (5, (.g (.int .i64 ((i : Nat)))))], ob := lk [(64, .cells (DtId.cells x))] }) ?_ ?_
 ·refine ⟨_, LeS.ko [(0, .sl 2 (l.map DtId.cells)), (3, .ptr 64 0), (5, (.g (.int .i64 (((0) : Nat)))))] [(64, .cells (DtId.cells x))] (by simp [KpE, zbn, zb4, zbk, DtId.cells]; try rfl) (by simp [KpO, zbn, zbk, zbx, zcf, DtId.cells]; try rfl) (by rfl) (by simp) (by rfl), _, 0, rfl, ?_, rfl⟩
  ·simp
 ·rintro mM sS ⟨i, rfl, ⟨hi, hpre⟩, rfl⟩
  refine zbt ?_
  refine AW_r rfl rfl fun K hK => ?_
  simp (disch := omega) [zbd, gE, tP, DtId.cells, zby]
  repeat' first | (refine ⟨by omega, ?_⟩) | (intro _)
  refine hK _ ?_; clear hK K
  refine zbv rfl (fun hc7 => ?_) (fun hc7 => ?_)
  ·try simp [zbb, zba, zbf, zbe, zbp, zbq] at hc7
   all_goals
    have hg : l[i]? = some l[i] := List.getElem?_eq_getElem (by omega)
    refine zbw ?_
    refine zb3 ?_
    refine zbt ?_
    refine zb0 ?_
    refine AW_q rfl mix (by kernel_rfl) rfl fun K hK => ?_
    simp (disch := omega) [zbd, gE, tP, DtId.cells, zby]
    repeat' first | (exfalso; omega) | (refine ⟨fun _ => ?_, fun _ => ?_⟩) | (refine ⟨by omega, ?_⟩) | (intro _)
    all_goals (refine hK _ ?_; clear hK K)
    all_goals
     refine zbv rfl (fun hc8 => ?_) (fun hc8 => ?_)
     ·try simp [zbb, zba, zbf, zbe, zbp, zbq] at hc8
      all_goals
       refine AW_r rfl rfl fun K hK => ?_
       simp (disch := omega) [zbd, gE, tP, DtId.cells, zby]
       repeat' first | (exfalso; omega) | (refine ⟨fun _ => ?_, fun _ => ?_⟩) | (refine ⟨by omega, ?_⟩) | (intro _)
       all_goals (refine hK _ ?_; clear hK K)
       all_goals
        refine zbz (zcb ?_)
        simp (disch := omega) [zbd, gE, tP, DtId.cells, zby]
        all_goals first | (refine zcx fun h => ?_; grind [List.mem_iff_getElem?]) | (refine zco ?_; grind [List.mem_iff_getElem?, zft])
     ·try simp [zbb, zba, zbf, zbe, zbp, zbq] at hc8
      all_goals
       refine zbw ?_
       refine zb3 ?_
       refine zdf rfl rfl fun K hK => ?_
       simp (disch := omega) [zbd, gE, tP, DtId.cells, zby]
       repeat' first | (exfalso; omega) | (refine ⟨fun _ => ?_, fun _ => ?_⟩) | (refine ⟨by omega, ?_⟩) | (intro _)
       all_goals (refine hK _ ?_; clear hK K)
       all_goals
        refine ⟨_, LeS.ko [(0, .sl 2 (l.map DtId.cells)), (3, .ptr 64 0), (5, (.g (.int .i64 (((i + 1) : Nat)))))] [(64, .cells (DtId.cells x))] (by simp [KpE, zbn, zb4, zbk, DtId.cells]; try rfl) (by simp [KpO, zbn, zbk, zbx, zcf, DtId.cells]; try rfl) (by rfl) (by simp) (by rfl), _, ?_, i + 1, rfl, ?_, rfl⟩
        ·omega
        ·refine ⟨by omega, ?_⟩; grind
  ·try simp [zbb, zba, zbf, zbe, zbp, zbq] at hc7
   all_goals
    refine zce ?_
    refine zb3 ?_
    refine AW_r rfl rfl fun K hK => ?_
    simp (disch := omega) [zbd, gE, tP, DtId.cells, zby]
    repeat' first | (exfalso; omega) | (refine ⟨fun _ => ?_, fun _ => ?_⟩) | (refine ⟨by omega, ?_⟩) | (intro _)
    all_goals (refine hK _ ?_; clear hK K)
    all_goals
     refine zbz (zcb ?_)
     simp (disch := omega) [zbd, gE, tP, DtId.cells, zby]
     all_goals first | (refine zcx fun h => ?_; grind [List.mem_iff_getElem?]) | (refine zco ?_; grind [List.mem_iff_getElem?, zft])
theorem zzx (l : List DtId) (x : DtId) (hn : l.length ≤ 1048576) : PCall Try.prog 30 [.sl 2 (l.map DtId.cells), .agg (DtId.cells x)] (.g (.int .i64 (idxZ (fun y => eqB x y) l))) := by
 refine zbu Try.func30 (by rfl) (by rfl) (by rw [Try.ntmps30]; exact Nat.le_of_ble_eq_true rfl) rfl (by decide) ?_
 rw [Try.ntmps30]
 refine AW_k [(0, _), (1, _)] ⟨rfl, rfl, trivial⟩ ?_
 refine AW_r rfl rfl fun K hK => ?_
 simp (disch := omega) [zbd, gE, tP, DtId.cells, zby]
 repeat' first | (refine ⟨by omega, ?_⟩) | (intro _)
 refine hK _ ?_; clear hK K
 refine zbt ?_
 refine AW_r rfl rfl fun K hK => ?_
 simp (disch := omega) [zbd, gE, tP, DtId.cells, zby]
 repeat' first | (refine ⟨by omega, ?_⟩) | (intro _)
 refine hK _ ?_; clear hK K
 refine zb0 ?_
 refine zcc (fun mM sS => ∃ (i : Nat), mM = l.length - i ∧ (i ≤ l.length ∧ ∀ (j : Nat) y, j < i → l[j]? = some y → eqB x y = false) ∧ sS = { env := lkE [(0, .sl 2 (l.map DtId.cells)), (3, .ptr 64 0), (6, .sl 2 (l.map DtId.cells)), (7, (.g (.int .i64 ((l.length : Nat))))), (8, (.g (.int .i64 ((i : Nat)))))], ob := lk [(64, .cells (DtId.cells x))] }) ?_ ?_
 ·refine ⟨_, LeS.ko [(0, .sl 2 (l.map DtId.cells)), (3, .ptr 64 0), (6, .sl 2 (l.map DtId.cells)), (7, (.g (.int .i64 ((l.length : Nat))))), (8, (.g (.int .i64 (((0) : Nat)))))] [(64, .cells (DtId.cells x))] (by simp [KpE, zbn, zb4, zbk, DtId.cells]; try rfl) (by simp [KpO, zbn, zbk, zbx, zcf, DtId.cells]; try rfl) (by rfl) (by simp) (by rfl), _, 0, rfl, ?_, rfl⟩
  ·simp
 ·rintro mM sS ⟨i, rfl, ⟨hi, hpre⟩, rfl⟩
  refine AW_r rfl rfl fun K hK => ?_
  simp (disch := omega) [zbd, gE, tP, DtId.cells, zby]
  repeat' first | (refine ⟨by omega, ?_⟩) | (intro _)
  refine hK _ ?_; clear hK K
  refine zbt ?_
  refine zbv rfl (fun hc9 => ?_) (fun hc9 => ?_)
  ·try simp [zbb, zba, zbf, zbe, zbp, zbq] at hc9
   all_goals
    have hg : l[i]? = some l[i] := List.getElem?_eq_getElem (by omega)
    refine zbw ?_
    refine zb3 ?_
    refine zbt ?_
    refine zb0 ?_
    refine AW_r rfl rfl fun K hK => ?_
    simp (disch := omega) [zbd, gE, tP, DtId.cells, zby]
    repeat' first | (exfalso; omega) | (refine ⟨fun _ => ?_, fun _ => ?_⟩) | (refine ⟨by omega, ?_⟩) | (intro _)
    all_goals (refine hK _ ?_; clear hK K)
    all_goals
     refine AW_q rfl mix (by kernel_rfl) rfl fun K hK => ?_
     simp (disch := omega) [zbd, gE, tP, DtId.cells, zby]
     repeat' first | (refine ⟨by omega, ?_⟩) | (intro _)
     refine hK _ ?_; clear hK K
     refine zbv rfl (fun hc10 => ?_) (fun hc10 => ?_)
     ·try simp [zbb, zba, zbf, zbe, zbp, zbq] at hc10
      all_goals
       refine AW_r rfl rfl fun K hK => ?_
       simp (disch := omega) [zbd, gE, tP, DtId.cells, zby]
       repeat' first | (exfalso; omega) | (refine ⟨fun _ => ?_, fun _ => ?_⟩) | (refine ⟨by omega, ?_⟩) | (intro _)
       all_goals (refine hK _ ?_; clear hK K)
       all_goals
        refine zbz (zcb ?_)
        simp (disch := omega) [zbd, gE, tP, DtId.cells, zby]
        all_goals first | (exact zdb (by assumption) (by simp_all [zbf, zft]) hpre) | (exact zdl (fun j x h => hpre j x (by omega)))
     ·try simp [zbb, zba, zbf, zbe, zbp, zbq] at hc10
      all_goals
       refine zbw ?_
       refine zb3 ?_
       refine zdf rfl rfl fun K hK => ?_
       simp (disch := omega) [zbd, gE, tP, DtId.cells, zby]
       repeat' first | (exfalso; omega) | (refine ⟨fun _ => ?_, fun _ => ?_⟩) | (refine ⟨by omega, ?_⟩) | (intro _)
       all_goals (refine hK _ ?_; clear hK K)
       all_goals
        refine ⟨_, LeS.ko [(0, .sl 2 (l.map DtId.cells)), (3, .ptr 64 0), (6, .sl 2 (l.map DtId.cells)), (7, (.g (.int .i64 ((l.length : Nat))))), (8, (.g (.int .i64 (((i + 1) : Nat)))))] [(64, .cells (DtId.cells x))] (by simp [KpE, zbn, zb4, zbk, DtId.cells]; try rfl) (by simp [KpO, zbn, zbk, zbx, zcf, DtId.cells]; try rfl) (by rfl) (by simp) (by rfl), _, ?_, i + 1, rfl, ?_, rfl⟩
        ·omega
        ·refine ⟨by omega, ?_⟩; grind [zbe, zft]
  ·try simp [zbb, zba, zbf, zbe, zbp, zbq] at hc9
   all_goals
    refine zce ?_
    refine zb3 ?_
    refine AW_r rfl rfl fun K hK => ?_
    simp (disch := omega) [zbd, gE, tP, DtId.cells, zby]
    repeat' first | (exfalso; omega) | (refine ⟨fun _ => ?_, fun _ => ?_⟩) | (refine ⟨by omega, ?_⟩) | (intro _)
    all_goals (refine hK _ ?_; clear hK K)
    all_goals
     refine zbz (zcb ?_)
     simp (disch := omega) [zbd, gE, tP, DtId.cells, zby]
     all_goals first | (exact zdb (by assumption) (by simp_all [zbf, zft]) hpre) | (exact zdl (fun j x h => hpre j x (by omega)))
theorem zkq {α : Type} (l : List α) (x : α) : decide (0 ≤ idxZ (fun y => eqB x y) l) = decB (x ∈ l) := by
 rw [Bool.eq_iff_iff, zbb]
 simp only [decide_eq_true_eq]
 unfold idxZ
 split
 ·rename_i i h
  obtain ⟨h1, h2, -⟩ := List.findIdx?_eq_some_iff_getElem.1 h
  rw [zbf] at h2
  exact ⟨fun _ => h2 ▸ List.getElem_mem _, fun _ => by omega⟩
 ·rename_i h
  rw [List.findIdx?_eq_none_iff] at h
  refine ⟨fun h => by omega, fun hx => ?_⟩
  have := h x hx
  simp [zb5] at this
theorem zds (l : List DtId) (x : DtId) (hn : l.length ≤ 1048576) : PCall Try.prog 59 [.sl 2 (l.map DtId.cells), .agg (DtId.cells x)] (.g (.bool (decB (x ∈ l)))) := by
 refine zbu Try.func59 (by rfl) (by rfl) (by rw [Try.ntmps59]; exact Nat.le_of_ble_eq_true rfl) rfl (by decide) ?_
 rw [Try.ntmps59]
 refine AW_k [(0, _), (1, _)] ⟨rfl, rfl, trivial⟩ ?_
 refine AW_r rfl rfl fun K hK => ?_
 simp (disch := omega) [zbd, gE, tP, DtId.cells, zkq]
 repeat' first | (refine ⟨by omega, ?_⟩) | (intro _)
 refine hK _ ?_; clear hK K
 refine AW_r rfl rfl fun K hK => ?_
 simp (disch := omega) [zbd, gE, tP, DtId.cells, zkq]
 repeat' first | (exfalso; omega) | (refine zck (zbg zca (zbg (zb6 rfl) zbr)) (zzx _ _ (by omega)) rfl ?_; simp (disch := omega) [zbd, gE, tP, DtId.cells, zkq]) | (refine ⟨by omega, ?_⟩) | (intro _)
 refine hK _ ?_; clear hK K
 refine zbz (zcb ?_)
 simp (disch := omega) [zbd, gE, tP, DtId.cells, zkq]
 all_goals first | omega | (simp_all; done) | (simp [List.take_of_length_le]; done) | ((try simp_all); (try simp (disch := omega) only [zbd, Int.tdiv_eq_ediv_of_nonneg, Int.tmod_eq_emod_of_nonneg, and_true, true_and]); done) | ((try simp_all); (try simp (disch := omega) only [zbd, Int.tdiv_eq_ediv_of_nonneg, Int.tmod_eq_emod_of_nonneg, and_true, true_and] at *); omega)
end Go.Proofs.Ytfbmhgiokfpgiaa.Vs
