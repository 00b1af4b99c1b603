import Derived.Test.YtfbmhgiokfpgiaaSK1
open Go Go.Proofs Go.Proofs.Ytfbmhgiokfpgiaa.Vs
namespace Go.Proofs.Ytfbmhgiokfpgiaa.Vs
set_option linter.all false
set_option linter.unusedSimpArgs false
set_option linter.unusedVariables false
set_option maxRecDepth 100000
theorem zch : eq2 Try.prog 36 = true := by kernel_rfl
def IdP (x : DtId) : Prop := 0 ≤ x.fRep ∧ x.fRep ≤ 2 ∧ 1 ≤ x.fSlot ∧ x.fSlot ≤ 6
def idLt (a b : DtId) : Prop := a.fRep < b.fRep ∨ (a.fRep = b.fRep ∧ a.fSlot < b.fSlot)
def IdsP (l : List DtId) : Prop := ∀ (i : Nat) x, l[i]? = some x → IdP x ∧ ∀ y, 0 < i → l[i - 1]? = some y → idLt y x
noncomputable def cmpI (a b : DtId) : Int := bif decB (idLt a b) then -1 else bif eqB a b then 0 else 1
theorem zbm (a b : DtId) : (cmpI a b < 0) = idLt a b := by
 by_cases h : idLt a b
 ·have e : cmpI a b = -1 := by rw [cmpI, zct h]; rfl
  rw [e]; simp [h]
 ·have e : 0 ≤ cmpI a b := by
   rw [cmpI, zcu h]
   cases eqB a b <;> simp
  simp [h]; omega
theorem zbp (a b : DtId) : (0 ≤ cmpI a b) = ¬ idLt a b := by
 rw [← zbm]; simp
theorem zgw (a b : DtId) : (a = b) = (a.fRep = b.fRep ∧ a.fSlot = b.fSlot) := DtId.ext_iff a b
theorem l8Id (x : DtId) : PCall Try.prog 47 [.agg (DtId.cells x)] (.g (.bool (decB (IdP x)))) := by
 refine zbq Try.func47 (by rfl) (by rfl) (by rw [Try.ntmps47]; exact Nat.le_of_ble_eq_true rfl) rfl (by decide) ?_
 rw [Try.ntmps47]
 refine AW_k [(0, _)] ⟨rfl, trivial⟩ ?_
 refine AW_r rfl rfl fun K hK => ?_
 simp (disch := omega) [zbc, gE, tP, DtId.cells, zba, zbb]
 repeat' first | (refine ⟨by omega, ?_⟩) | (intro _)
 refine hK _ ?_; clear hK K
 refine AW_r rfl rfl fun K hK => ?_
 simp (disch := omega) [zbc, gE, tP, DtId.cells, zba, zbb]
 repeat' first | (exfalso; omega) | (refine zcj (zbg zcr (zbg zcr (zbg zcr zbn))) (l1In _ _ _) rfl ?_; simp (disch := omega) [zbc, gE, tP, DtId.cells, zba, zbb]) | (refine ⟨fun _ => ?_, fun _ => ?_⟩) | (refine ⟨by omega, ?_⟩) | (intro _)
 all_goals (refine hK _ ?_; clear hK K)
 all_goals
  refine zbt (zb4 ?_)
  simp (disch := omega) [zbc, gE, tP, DtId.cells, zba, zbb]
  all_goals first | grind [IdP] | (rw [Bool.eq_iff_iff, zba]; simp; grind [IdP])
theorem idOk (x : DtId) : PCall Try.prog 55 [.agg (DtId.cells x)] (.g (.bool (decB (IdP x)))) := by
 refine zbq Try.func55 (by rfl) (by rfl) (by rw [Try.ntmps55]; exact Nat.le_of_ble_eq_true rfl) rfl (by decide) ?_
 rw [Try.ntmps55]
 refine AW_k [(0, _)] ⟨rfl, trivial⟩ ?_
 refine AW_r rfl rfl fun K hK => ?_
 simp (disch := omega) [zbc, gE, tP, DtId.cells, zba, zbb]
 repeat' first | (refine ⟨by omega, ?_⟩) | (intro _)
 refine hK _ ?_; clear hK K
 refine AW_r rfl rfl fun K hK => ?_
 simp (disch := omega) [zbc, gE, tP, DtId.cells, zba, zbb]
 repeat' first | (exfalso; omega) | (refine zcj (zbg zcr (zbg zcr (zbg zcr zbn))) (zlz _ _ _) rfl ?_; simp (disch := omega) [zbc, gE, tP, DtId.cells, zba, zbb]) | (refine ⟨fun _ => ?_, fun _ => ?_⟩) | (refine ⟨by omega, ?_⟩) | (intro _)
 all_goals (refine hK _ ?_; clear hK K)
 all_goals
  refine zbt (zb4 ?_)
  simp (disch := omega) [zbc, gE, tP, DtId.cells, zba, zbb]
  all_goals first | grind [IdP] | (rw [Bool.eq_iff_iff, zba]; simp; grind [IdP])
theorem zwv (a b : DtId) : PCall Try.prog 34 [.agg (DtId.cells a), .agg (DtId.cells b)] (.g (.bool (decB (idLt a b)))) := by
 refine zbq Try.func34 (by rfl) (by rfl) (by rw [Try.ntmps34]; exact Nat.le_of_ble_eq_true rfl) rfl (by decide) ?_
 rw [Try.ntmps34]
 refine AW_k [(0, _), (1, _)] ⟨rfl, rfl, trivial⟩ ?_
 refine AW_r rfl rfl fun K hK => ?_
 simp (disch := omega) [zbc, gE, tP, DtId.cells, zba, zbb]
 repeat' first | (refine ⟨by omega, ?_⟩) | (intro _)
 refine hK _ ?_; clear hK K
 refine AW_r rfl rfl fun K hK => ?_
 simp (disch := omega) [zbc, gE, tP, DtId.cells, zba, zbb]
 repeat' first | (exfalso; omega) | (refine ⟨fun _ => ?_, fun _ => ?_⟩) | (refine ⟨by omega, ?_⟩) | (intro _)
 all_goals (refine hK _ ?_; clear hK K)
 all_goals
  refine zbt (zb4 ?_)
  simp (disch := omega) [zbc, gE, tP, DtId.cells, zba, zbb]
  all_goals first | grind [idLt] | (rw [Bool.eq_iff_iff, zba]; simp; grind [idLt])
theorem zh4 (a b : DtId) : PCall Try.prog 40 [.agg (DtId.cells a), .agg (DtId.cells b)] (.g (.int .i64 (cmpI a b))) := by
 have hd : decB (idLt a b) = true ∨ decB (idLt a b) = false := by cases decB (idLt a b) <;> simp
 have he := zgw a b
 have k1 : (a.fRep < b.fRep ∨ (a.fRep = b.fRep ∧ a.fSlot < b.fSlot)) → cmpI a b = -1 := fun h => by
  have h : idLt a b := h
  rw [cmpI, zct h]; rfl
 have k2 : ¬ (a.fRep < b.fRep ∨ (a.fRep = b.fRep ∧ a.fSlot < b.fSlot)) → (a.fRep = b.fRep ∧ a.fSlot = b.fSlot) → cmpI a b = 0 := fun h h2 => by
  have h : ¬ idLt a b := h
  rw [cmpI, zcu h, zcc (he.mpr h2)]; rfl
 have k3 : ¬ (a.fRep < b.fRep ∨ (a.fRep = b.fRep ∧ a.fSlot < b.fSlot)) → ¬ (a.fRep = b.fRep ∧ a.fSlot = b.fSlot) → cmpI a b = 1 := fun h h2 => by
  have h : ¬ idLt a b := h
  rw [cmpI, zcu h, zb8 (fun e => h2 (he.mp e))]; rfl
 refine zbq Try.func40 (by rfl) (by rfl) (by rw [Try.ntmps40]; exact Nat.le_of_ble_eq_true rfl) rfl (by decide) ?_
 rw [Try.ntmps40]
 refine AW_k [(0, _), (1, _)] ⟨rfl, rfl, trivial⟩ ?_
 refine AW_r rfl rfl fun K hK => ?_
 simp (disch := omega) [zbc, gE, tP, DtId.cells, zch]
 repeat' first | (refine ⟨by omega, ?_⟩) | (intro _)
 refine hK _ ?_; clear hK K
 refine zbo ?_
 refine zbw ?_
 refine AW_r rfl rfl fun K hK => ?_
 simp (disch := omega) [zbc, gE, tP, DtId.cells, zch]
 repeat' first | (exfalso; omega) | (refine ⟨fun _ => ?_, fun _ => ?_⟩) | (refine ⟨by omega, ?_⟩) | (intro _)
 all_goals (refine hK _ ?_; clear hK K)
 all_goals
  refine zbr rfl (fun hc1 => ?_) (fun hc1 => ?_)
  ·try simp [zba, zbb, zbf, zbe] at hc1
   all_goals
    refine AW_r rfl rfl fun K hK => ?_
    simp (disch := omega) [zbc, gE, tP, DtId.cells, zch]
    repeat' first | (exfalso; omega) | (refine ⟨fun _ => ?_, fun _ => ?_⟩) | (refine ⟨by omega, ?_⟩) | (intro _)
    all_goals (refine hK _ ?_; clear hK K)
    all_goals
     refine zbt (zb4 ?_)
     simp (disch := omega) [zbc, gE, tP, DtId.cells, zch]
     all_goals (clear hd he; grind)
  ·try simp [zba, zbb, zbf, zbe] at hc1
   all_goals
    refine AW_r rfl rfl fun K hK => ?_
    simp (disch := omega) [zbc, gE, tP, DtId.cells, zch]
    repeat' first | (exfalso; omega) | (refine ⟨fun _ => ?_, fun _ => ?_⟩) | (refine ⟨by omega, ?_⟩) | (intro _)
    all_goals (refine hK _ ?_; clear hK K)
    all_goals
     refine zbr rfl (fun hc2 => ?_) (fun hc2 => ?_)
     ·try simp [zba, zbb, zbf, zbe] at hc2
      all_goals
       refine AW_r rfl rfl fun K hK => ?_
       simp (disch := omega) [zbc, gE, tP, DtId.cells, zch]
       repeat' first | (exfalso; omega) | (refine ⟨fun _ => ?_, fun _ => ?_⟩) | (refine ⟨by omega, ?_⟩) | (intro _)
       all_goals (refine hK _ ?_; clear hK K)
       all_goals
        refine zbt (zb4 ?_)
        simp (disch := omega) [zbc, gE, tP, DtId.cells, zch]
        all_goals (clear hd he; grind)
     ·try simp [zba, zbb, zbf, zbe] at hc2
      all_goals
       refine zbs ?_
       refine zbx ?_
       refine AW_r rfl rfl fun K hK => ?_
       simp (disch := omega) [zbc, gE, tP, DtId.cells, zch]
       repeat' first | (exfalso; omega) | (refine ⟨fun _ => ?_, fun _ => ?_⟩) | (refine ⟨by omega, ?_⟩) | (intro _)
       all_goals (refine hK _ ?_; clear hK K)
       all_goals
        refine zbt (zb4 ?_)
        simp (disch := omega) [zbc, gE, tP, DtId.cells, zch]
        all_goals (clear hd he; grind)
theorem zww (l : List DtId) (hn : l.length ≤ 1048576) : PCall Try.prog 50 [.sl 2 (l.map DtId.cells)] (.g (.bool (decB (IdsP l)))) := by
 refine zbq Try.func50 (by rfl) (by rfl) (by rw [Try.ntmps50]; exact Nat.le_of_ble_eq_true rfl) rfl (by decide) ?_
 rw [Try.ntmps50]
 refine AW_k [(0, _)] ⟨rfl, trivial⟩ ?_
 refine AW_r rfl rfl fun K hK => ?_
 simp (disch := omega) [zbc, gE, tP, DtId.cells, zba, zbb, zbp, zbm, Classical.not_not]
 repeat' first | (refine ⟨by omega, ?_⟩) | (intro _)
 refine hK _ ?_; clear hK K
 refine zbo ?_
 refine AW_r rfl rfl fun K hK => ?_
 simp (disch := omega) [zbc, gE, tP, DtId.cells, zba, zbb, zbp, zbm, Classical.not_not]
 repeat' first | (refine ⟨by omega, ?_⟩) | (intro _)
 refine hK _ ?_; clear hK K
 refine zbw ?_
 refine zcb (fun mM sS => ∃ (i : Nat), mM = l.length - i ∧ (i ≤ l.length ∧ ∀ (j : Nat) x, j < i → l[j]? = some x → IdP x ∧ ∀ y, 0 < j → l[j - 1]? = some y → idLt y x) ∧ sS = { env := lkE [(0, .sl 2 (l.map DtId.cells)), (3, (.g (.int .i64 ((i : Nat)))))], ob := formOb [] [] }) ?_ ?_
 ·refine ⟨_, LeS.kp [(0, .sl 2 (l.map DtId.cells)), (3, (.g (.int .i64 (((0) : Nat)))))] (by simp [KpE, zbl, zbz, zbj]; try rfl), _, 0, rfl, ?_, rfl⟩
  ·simp
 ·rintro mM sS ⟨i, rfl, ⟨hi, hpre⟩, rfl⟩
  refine zbo ?_
  refine AW_r rfl rfl fun K hK => ?_
  simp (disch := omega) [zbc, gE, tP, DtId.cells, zba, zbb, zbp, zbm, Classical.not_not]
  repeat' first | (refine ⟨by omega, ?_⟩) | (intro _)
  refine hK _ ?_; clear hK K
  refine zbr rfl (fun hc3 => ?_) (fun hc3 => ?_)
  ·try simp [zba, zbb, zbf, zbe, zbm, zbp] at hc3
   all_goals
    have hg : l[i]? = some l[i] := List.getElem?_eq_getElem (by omega)
    have hg' : l[i - 1]? = some l[i - 1] := List.getElem?_eq_getElem (by omega)
    rcases Nat.eq_zero_or_pos i with hi0 | hi0
    all_goals
     refine zbs ?_
     refine zbx ?_
     refine zbo ?_
     refine zbw ?_
     refine AW_q rfl mix (by kernel_rfl) rfl fun K hK => ?_
     simp (disch := omega) [zbc, gE, tP, DtId.cells, zba, zbb, zbp, zbm, Classical.not_not]
     repeat' first | (exfalso; omega) | (refine zcj (zbg (zb6 rfl) zbn) (l8Id _) rfl ?_; simp (disch := omega) [zbc, gE, tP, DtId.cells, zba, zbb, zbp, zbm, Classical.not_not]) | (refine zcj (zbg (zb6 rfl) (zbg (zb6 rfl) zbn)) (zwv _ _) rfl ?_; simp (disch := omega) [zbc, gE, tP, DtId.cells, zba, zbb, zbp, zbm, Classical.not_not]) | (refine ⟨fun _ => ?_, fun _ => ?_⟩) | (refine ⟨by omega, ?_⟩) | (intro _)
     all_goals (refine hK _ ?_; clear hK K)
     all_goals
      refine zbr rfl (fun hc4 => ?_) (fun hc4 => ?_)
      ·try simp [zba, zbb, zbf, zbe, zbm, zbp] at hc4
       all_goals
        refine AW_r rfl rfl fun K hK => ?_
        simp (disch := omega) [zbc, gE, tP, DtId.cells, zba, zbb, zbp, zbm, Classical.not_not]
        repeat' first | (exfalso; omega) | (refine ⟨fun _ => ?_, fun _ => ?_⟩) | (refine ⟨by omega, ?_⟩) | (intro _)
        all_goals (refine hK _ ?_; clear hK K)
        all_goals
         refine zbt (zb4 ?_)
         simp (disch := omega) [zbc, gE, tP, DtId.cells, zba, zbb, zbp, zbm, Classical.not_not]
         all_goals first | grind [IdsP] | (refine zcu fun h => ?_; grind [IdsP]) | (refine zct ?_; grind [IdsP])
      ·try simp [zba, zbb, zbf, zbe, zbm, zbp] at hc4
       all_goals
        refine zbs ?_
        refine zbx ?_
        refine zc6 rfl rfl fun K hK => ?_
        simp (disch := omega) [zbc, gE, tP, DtId.cells, zba, zbb, zbp, zbm, Classical.not_not]
        repeat' first | (exfalso; omega) | (refine ⟨fun _ => ?_, fun _ => ?_⟩) | (refine ⟨by omega, ?_⟩) | (intro _)
        all_goals (refine hK _ ?_; clear hK K)
        all_goals
         refine ⟨_, LeS.kp [(0, .sl 2 (l.map DtId.cells)), (3, (.g (.int .i64 (((i + 1) : Nat)))))] (by simp [KpE, zbl, zbz, zbj]; try rfl), _, ?_, i + 1, rfl, ?_, rfl⟩
         ·omega
         ·refine ⟨by omega, ?_⟩; clear hg'; grind
  ·try simp [zba, zbb, zbf, zbe, zbm, zbp] at hc3
   all_goals
    refine zce ?_
    refine zbx ?_
    refine AW_r rfl rfl fun K hK => ?_
    simp (disch := omega) [zbc, gE, tP, DtId.cells, zba, zbb, zbp, zbm, Classical.not_not]
    repeat' first | (exfalso; omega) | (refine ⟨fun _ => ?_, fun _ => ?_⟩) | (refine ⟨by omega, ?_⟩) | (intro _)
    all_goals (refine hK _ ?_; clear hK K)
    all_goals
     refine zbt (zb4 ?_)
     simp (disch := omega) [zbc, gE, tP, DtId.cells, zba, zbb, zbp, zbm, Classical.not_not]
     all_goals first | grind [IdsP] | (refine zcu fun h => ?_; grind [IdsP]) | (refine zct ?_; grind [IdsP])
theorem zwx (l : List DtId) (hn : l.length ≤ 1048576) : PCall Try.prog 58 [.sl 2 (l.map DtId.cells)] (.g (.bool (decB (IdsP l)))) := by
 refine zbq Try.func58 (by rfl) (by rfl) (by rw [Try.ntmps58]; exact Nat.le_of_ble_eq_true rfl) rfl (by decide) ?_
 rw [Try.ntmps58]
 refine AW_k [(0, _)] ⟨rfl, trivial⟩ ?_
 refine AW_r rfl rfl fun K hK => ?_
 simp (disch := omega) [zbc, gE, tP, DtId.cells, zba, zbb, zbp, zbm, Classical.not_not]
 repeat' first | (refine ⟨by omega, ?_⟩) | (intro _)
 refine hK _ ?_; clear hK K
 refine zbo ?_
 refine AW_r rfl rfl fun K hK => ?_
 simp (disch := omega) [zbc, gE, tP, DtId.cells, zba, zbb, zbp, zbm, Classical.not_not]
 repeat' first | (refine ⟨by omega, ?_⟩) | (intro _)
 refine hK _ ?_; clear hK K
 refine zbw ?_
 refine zcb (fun mM sS => ∃ (i : Nat), mM = l.length - i ∧ (i ≤ l.length ∧ ∀ (j : Nat) x, j < i → l[j]? = some x → IdP x ∧ ∀ y, 0 < j → l[j - 1]? = some y → idLt y x) ∧ sS = { env := lkE [(0, .sl 2 (l.map DtId.cells)), (5, .sl 2 (l.map DtId.cells)), (6, (.g (.int .i64 ((l.length : Nat))))), (7, (.g (.int .i64 ((i : Nat)))))], ob := lk [] }) ?_ ?_
 ·refine ⟨_, LeS.ko [(0, .sl 2 (l.map DtId.cells)), (5, .sl 2 (l.map DtId.cells)), (6, (.g (.int .i64 ((l.length : Nat))))), (7, (.g (.int .i64 (((0) : Nat)))))] [] (by simp [KpE, zbl, zbz, zbj]; try rfl) (by simp [KpO, zbl, zbj, zbu, zcg]; try rfl) (by rfl) (by simp) (by rfl), _, 0, rfl, ?_, rfl⟩
  ·simp
 ·rintro mM sS ⟨i, rfl, ⟨hi, hpre⟩, rfl⟩
  refine AW_r rfl rfl fun K hK => ?_
  simp (disch := omega) [zbc, gE, tP, DtId.cells, zba, zbb, zbp, zbm, Classical.not_not]
  repeat' first | (refine ⟨by omega, ?_⟩) | (intro _)
  refine hK _ ?_; clear hK K
  refine zbo ?_
  refine zbr rfl (fun hc5 => ?_) (fun hc5 => ?_)
  ·try simp [zba, zbb, zbf, zbe, zbm, zbp] at hc5
   all_goals
    have hg : l[i]? = some l[i] := List.getElem?_eq_getElem (by omega)
    have hg' : l[i - 1]? = some l[i - 1] := List.getElem?_eq_getElem (by omega)
    rcases Nat.eq_zero_or_pos i with hi0 | hi0
    all_goals
     refine zbs ?_
     refine zbx ?_
     refine zbo ?_
     refine zbw ?_
     refine AW_r rfl rfl fun K hK => ?_
     simp (disch := omega) [zbc, gE, tP, DtId.cells, zba, zbb, zbp, zbm, Classical.not_not]
     repeat' first | (exfalso; omega) | (refine ⟨fun _ => ?_, fun _ => ?_⟩) | (refine ⟨by omega, ?_⟩) | (intro _)
     all_goals (refine hK _ ?_; clear hK K)
     all_goals
      refine AW_q rfl mix (by kernel_rfl) rfl fun K hK => ?_
      simp (disch := omega) [zbc, gE, tP, DtId.cells, zba, zbb, zbp, zbm, Classical.not_not]
      repeat' first | (exfalso; omega) | (refine zcj (zbg (zb6 rfl) zbn) (idOk _) rfl ?_; simp (disch := omega) [zbc, gE, tP, DtId.cells, zba, zbb, zbp, zbm, Classical.not_not]) | (refine zcj (zbg (zb6 rfl) (zbg (zb6 rfl) zbn)) (zh4 _ _) rfl ?_; simp (disch := omega) [zbc, gE, tP, DtId.cells, zba, zbb, zbp, zbm, Classical.not_not]) | (refine ⟨fun _ => ?_, fun _ => ?_⟩) | (refine ⟨by omega, ?_⟩) | (intro _)
      all_goals (refine hK _ ?_; clear hK K)
      all_goals
       refine zbr rfl (fun hc6 => ?_) (fun hc6 => ?_)
       ·try simp [zba, zbb, zbf, zbe, zbm, zbp] at hc6
        all_goals
         refine AW_r rfl rfl fun K hK => ?_
         simp (disch := omega) [zbc, gE, tP, DtId.cells, zba, zbb, zbp, zbm, Classical.not_not]
         repeat' first | (exfalso; omega) | (refine ⟨fun _ => ?_, fun _ => ?_⟩) | (refine ⟨by omega, ?_⟩) | (intro _)
         all_goals (refine hK _ ?_; clear hK K)
         all_goals
          refine zbt (zb4 ?_)
          simp (disch := omega) [zbc, gE, tP, DtId.cells, zba, zbb, zbp, zbm, Classical.not_not]
          all_goals first | grind [IdsP] | (refine zcu fun h => ?_; grind [IdsP]) | (refine zct ?_; grind [IdsP])
       ·try simp [zba, zbb, zbf, zbe, zbm, zbp] at hc6
        all_goals
         refine zbs ?_
         refine zbx ?_
         refine zc6 rfl rfl fun K hK => ?_
         simp (disch := omega) [zbc, gE, tP, DtId.cells, zba, zbb, zbp, zbm, Classical.not_not]
         repeat' first | (exfalso; omega) | (refine ⟨fun _ => ?_, fun _ => ?_⟩) | (refine ⟨by omega, ?_⟩) | (intro _)
         all_goals (refine hK _ ?_; clear hK K)
         all_goals
          refine ⟨_, LeS.ko [(0, .sl 2 (l.map DtId.cells)), (5, .sl 2 (l.map DtId.cells)), (6, (.g (.int .i64 ((l.length : Nat))))), (7, (.g (.int .i64 (((i + 1) : Nat)))))] [] (by simp [KpE, zbl, zbz, zbj]; try rfl) (by simp [KpO, zbl, zbj, zbu, zcg]; try rfl) (by rfl) (by simp) (by rfl), _, ?_, i + 1, rfl, ?_, rfl⟩
          ·omega
          ·refine ⟨by omega, ?_⟩; clear hg'; grind
  ·try simp [zba, zbb, zbf, zbe, zbm, zbp] at hc5
   all_goals
    refine zce ?_
    refine zbx ?_
    refine AW_r rfl rfl fun K hK => ?_
    simp (disch := omega) [zbc, gE, tP, DtId.cells, zba, zbb, zbp, zbm, Classical.not_not]
    repeat' first | (exfalso; omega) | (refine ⟨fun _ => ?_, fun _ => ?_⟩) | (refine ⟨by omega, ?_⟩) | (intro _)
    all_goals (refine hK _ ?_; clear hK K)
    all_goals
     refine zbt (zb4 ?_)
     simp (disch := omega) [zbc, gE, tP, DtId.cells, zba, zbb, zbp, zbm, Classical.not_not]
     all_goals first | grind [IdsP] | (refine zcu fun h => ?_; grind [IdsP]) | (refine zct ?_; grind [IdsP])
theorem l8Has (l : List DtId) (x : DtId) (hn : l.length ≤ 1048576) : PCall Try.prog 51 [.sl 2 (l.map DtId.cells), .agg (DtId.cells x)] (.g (.bool (decB (x ∈ l)))) := by
 refine zbq Try.func51 (by rfl) (by rfl) (by rw [Try.ntmps51]; exact Nat.le_of_ble_eq_true rfl) rfl (by decide) ?_
 rw [Try.ntmps51]
 refine AW_k [(0, _), (1, _)] ⟨rfl, rfl, trivial⟩ ?_
 refine AW_r rfl rfl fun K hK => ?_
 simp (disch := omega) [zbc, gE, tP, DtId.cells, zch]
 repeat' first | (refine ⟨by omega, ?_⟩) | (intro _)
 refine hK _ ?_; clear hK K
 refine zbo ?_
 refine AW_r rfl rfl fun K hK => ?_
 simp (disch := omega) [zbc, gE, tP, DtId.cells, zch]
 repeat' first | (refine ⟨by omega, ?_⟩) | (intro _)
 refine hK _ ?_; clear hK K
 refine zbw ?_
 refine zcb (fun mM sS => ∃ (i : Nat), mM = l.length - i ∧ (i ≤ l.length ∧ ∀ (j : Nat) y, j < i → l[j]? = some y → ¬ (y.fRep = x.fRep ∧ y.fSlot = x.fSlot)) ∧ sS = { env := lkE [(0, .sl 2 (l.map DtId.cells)), (3, .ptr 64 0), (5, (.g (.int .i64 ((i : Nat)))))], ob := lk [(64, .cells (DtId.cells x))] }) ?_ ?_
 ·refine ⟨_, LeS.ko [(0, .sl 2 (l.map DtId.cells)), (3, .ptr 64 0), (5, (.g (.int .i64 (((0) : Nat)))))] [(64, .cells (DtId.cells x))] (by simp [KpE, zbl, zbz, zbj, DtId.cells]; try rfl) (by simp [KpO, zbl, zbj, zbu, zcg, DtId.cells]; try rfl) (by rfl) (by simp) (by rfl), _, 0, rfl, ?_, rfl⟩
  ·simp
 ·rintro mM sS ⟨i, rfl, ⟨hi, hpre⟩, rfl⟩
  refine zbo ?_
  refine AW_r rfl rfl fun K hK => ?_
  simp (disch := omega) [zbc, gE, tP, DtId.cells, zch]
  repeat' first | (refine ⟨by omega, ?_⟩) | (intro _)
  refine hK _ ?_; clear hK K
  refine zbr rfl (fun hc7 => ?_) (fun hc7 => ?_)
  ·try simp [zba, zbb, zbf, zbe, zbm, zbp] at hc7
   all_goals
    have hg : l[i]? = some l[i] := List.getElem?_eq_getElem (by omega)
    refine zbs ?_
    refine zbx ?_
    refine zbo ?_
    refine zbw ?_
    refine AW_q rfl mix (by kernel_rfl) rfl fun K hK => ?_
    simp (disch := omega) [zbc, gE, tP, DtId.cells, zch]
    repeat' first | (exfalso; omega) | (refine ⟨fun _ => ?_, fun _ => ?_⟩) | (refine ⟨by omega, ?_⟩) | (intro _)
    all_goals (refine hK _ ?_; clear hK K)
    all_goals
     refine zbr rfl (fun hc8 => ?_) (fun hc8 => ?_)
     ·try simp [zba, zbb, zbf, zbe, zbm, zbp] at hc8
      all_goals
       refine AW_r rfl rfl fun K hK => ?_
       simp (disch := omega) [zbc, gE, tP, DtId.cells, zch]
       repeat' first | (exfalso; omega) | (refine ⟨fun _ => ?_, fun _ => ?_⟩) | (refine ⟨by omega, ?_⟩) | (intro _)
       all_goals (refine hK _ ?_; clear hK K)
       all_goals
        refine zbt (zb4 ?_)
        simp (disch := omega) [zbc, gE, tP, DtId.cells, zch]
        all_goals first | (refine zcu fun h => ?_; grind [List.mem_iff_getElem?]) | (refine zct ?_; grind [List.mem_iff_getElem?, zgw])
     ·try simp [zba, zbb, zbf, zbe, zbm, zbp] at hc8
      all_goals
       refine zbs ?_
       refine zbx ?_
       refine zc6 rfl rfl fun K hK => ?_
       simp (disch := omega) [zbc, gE, tP, DtId.cells, zch]
       repeat' first | (exfalso; omega) | (refine ⟨fun _ => ?_, fun _ => ?_⟩) | (refine ⟨by omega, ?_⟩) | (intro _)
       all_goals (refine hK _ ?_; clear hK K)
       all_goals
        refine ⟨_, LeS.ko [(0, .sl 2 (l.map DtId.cells)), (3, .ptr 64 0), (5, (.g (.int .i64 (((i + 1) : Nat)))))] [(64, .cells (DtId.cells x))] (by simp [KpE, zbl, zbz, zbj, DtId.cells]; try rfl) (by simp [KpO, zbl, zbj, zbu, zcg, DtId.cells]; try rfl) (by rfl) (by simp) (by rfl), _, ?_, i + 1, rfl, ?_, rfl⟩
        ·omega
        ·refine ⟨by omega, ?_⟩; grind
  ·try simp [zba, zbb, zbf, zbe, zbm, zbp] at hc7
   all_goals
    refine zce ?_
    refine zbx ?_
    refine AW_r rfl rfl fun K hK => ?_
    simp (disch := omega) [zbc, gE, tP, DtId.cells, zch]
    repeat' first | (exfalso; omega) | (refine ⟨fun _ => ?_, fun _ => ?_⟩) | (refine ⟨by omega, ?_⟩) | (intro _)
    all_goals (refine hK _ ?_; clear hK K)
    all_goals
     refine zbt (zb4 ?_)
     simp (disch := omega) [zbc, gE, tP, DtId.cells, zch]
     all_goals first | (refine zcu fun h => ?_; grind [List.mem_iff_getElem?]) | (refine zct ?_; grind [List.mem_iff_getElem?, zgw])
theorem indexId (l : List DtId) (x : DtId) (hn : l.length ≤ 1048576) : PCall Try.prog 30 [.sl 2 (l.map DtId.cells), .agg (DtId.cells x)] (.g (.int .i64 (idxZ (fun y => eqB x y) l))) := by
 refine zbq Try.func30 (by rfl) (by rfl) (by rw [Try.ntmps30]; exact Nat.le_of_ble_eq_true rfl) rfl (by decide) ?_
 rw [Try.ntmps30]
 refine AW_k [(0, _), (1, _)] ⟨rfl, rfl, trivial⟩ ?_
 refine AW_r rfl rfl fun K hK => ?_
 simp (disch := omega) [zbc, gE, tP, DtId.cells, zch]
 repeat' first | (refine ⟨by omega, ?_⟩) | (intro _)
 refine hK _ ?_; clear hK K
 refine zbo ?_
 refine AW_r rfl rfl fun K hK => ?_
 simp (disch := omega) [zbc, gE, tP, DtId.cells, zch]
 repeat' first | (refine ⟨by omega, ?_⟩) | (intro _)
 refine hK _ ?_; clear hK K
 refine zbw ?_
 refine zcb (fun mM sS => ∃ (i : Nat), mM = l.length - i ∧ (i ≤ l.length ∧ ∀ (j : Nat) y, j < i → l[j]? = some y → eqB x y = false) ∧ sS = { env := lkE [(0, .sl 2 (l.map DtId.cells)), (3, .ptr 64 0), (6, .sl 2 (l.map DtId.cells)), (7, (.g (.int .i64 ((l.length : Nat))))), (8, (.g (.int .i64 ((i : Nat)))))], ob := lk [(64, .cells (DtId.cells x))] }) ?_ ?_
 ·refine ⟨_, LeS.ko [(0, .sl 2 (l.map DtId.cells)), (3, .ptr 64 0), (6, .sl 2 (l.map DtId.cells)), (7, (.g (.int .i64 ((l.length : Nat))))), (8, (.g (.int .i64 (((0) : Nat)))))] [(64, .cells (DtId.cells x))] (by simp [KpE, zbl, zbz, zbj, DtId.cells]; try rfl) (by simp [KpO, zbl, zbj, zbu, zcg, DtId.cells]; try rfl) (by rfl) (by simp) (by rfl), _, 0, rfl, ?_, rfl⟩
  ·simp
 ·rintro mM sS ⟨i, rfl, ⟨hi, hpre⟩, rfl⟩
  refine AW_r rfl rfl fun K hK => ?_
  simp (disch := omega) [zbc, gE, tP, DtId.cells, zch]
  repeat' first | (refine ⟨by omega, ?_⟩) | (intro _)
  refine hK _ ?_; clear hK K
  refine zbo ?_
  refine zbr rfl (fun hc9 => ?_) (fun hc9 => ?_)
  ·try simp [zba, zbb, zbf, zbe, zbm, zbp] at hc9
   all_goals
    have hg : l[i]? = some l[i] := List.getElem?_eq_getElem (by omega)
    refine zbs ?_
    refine zbx ?_
    refine zbo ?_
    refine zbw ?_
    refine AW_r rfl rfl fun K hK => ?_
    simp (disch := omega) [zbc, gE, tP, DtId.cells, zch]
    repeat' first | (exfalso; omega) | (refine ⟨fun _ => ?_, fun _ => ?_⟩) | (refine ⟨by omega, ?_⟩) | (intro _)
    all_goals (refine hK _ ?_; clear hK K)
    all_goals
     refine AW_q rfl mix (by kernel_rfl) rfl fun K hK => ?_
     simp (disch := omega) [zbc, gE, tP, DtId.cells, zch]
     repeat' first | (refine ⟨by omega, ?_⟩) | (intro _)
     refine hK _ ?_; clear hK K
     refine zbr rfl (fun hc10 => ?_) (fun hc10 => ?_)
     ·try simp [zba, zbb, zbf, zbe, zbm, zbp] at hc10
      all_goals
       refine AW_r rfl rfl fun K hK => ?_
       simp (disch := omega) [zbc, gE, tP, DtId.cells, zch]
       repeat' first | (exfalso; omega) | (refine ⟨fun _ => ?_, fun _ => ?_⟩) | (refine ⟨by omega, ?_⟩) | (intro _)
       all_goals (refine hK _ ?_; clear hK K)
       all_goals
        refine zbt (zb4 ?_)
        simp (disch := omega) [zbc, gE, tP, DtId.cells, zch]
        all_goals first | (exact zd4 (by assumption) (by simp_all [zbf, zgw]) hpre) | (exact zfw (fun j x h => hpre j x (by omega)))
     ·try simp [zba, zbb, zbf, zbe, zbm, zbp] at hc10
      all_goals
       refine zbs ?_
       refine zbx ?_
       refine zc6 rfl rfl fun K hK => ?_
       simp (disch := omega) [zbc, gE, tP, DtId.cells, zch]
       repeat' first | (exfalso; omega) | (refine ⟨fun _ => ?_, fun _ => ?_⟩) | (refine ⟨by omega, ?_⟩) | (intro _)
       all_goals (refine hK _ ?_; clear hK K)
       all_goals
        refine ⟨_, LeS.ko [(0, .sl 2 (l.map DtId.cells)), (3, .ptr 64 0), (6, .sl 2 (l.map DtId.cells)), (7, (.g (.int .i64 ((l.length : Nat))))), (8, (.g (.int .i64 (((i + 1) : Nat)))))] [(64, .cells (DtId.cells x))] (by simp [KpE, zbl, zbz, zbj, DtId.cells]; try rfl) (by simp [KpO, zbl, zbj, zbu, zcg, DtId.cells]; try rfl) (by rfl) (by simp) (by rfl), _, ?_, i + 1, rfl, ?_, rfl⟩
        ·omega
        ·refine ⟨by omega, ?_⟩; grind [zbe, zgw]
  ·try simp [zba, zbb, zbf, zbe, zbm, zbp] at hc9
   all_goals
    refine zce ?_
    refine zbx ?_
    refine AW_r rfl rfl fun K hK => ?_
    simp (disch := omega) [zbc, gE, tP, DtId.cells, zch]
    repeat' first | (exfalso; omega) | (refine ⟨fun _ => ?_, fun _ => ?_⟩) | (refine ⟨by omega, ?_⟩) | (intro _)
    all_goals (refine hK _ ?_; clear hK K)
    all_goals
     refine zbt (zb4 ?_)
     simp (disch := omega) [zbc, gE, tP, DtId.cells, zch]
     all_goals first | (exact zd4 (by assumption) (by simp_all [zbf, zgw]) hpre) | (exact zfw (fun j x h => hpre j x (by omega)))
theorem zjx {α : Type} (l : List α) (x : α) : decide (0 ≤ idxZ (fun y => eqB x y) l) = decB (x ∈ l) := by
 rw [Bool.eq_iff_iff, zba]
 simp only [decide_eq_true_eq]
 unfold idxZ
 split
 ·rename_i i h
  obtain ⟨h1, h2, -⟩ := List.findIdx?_eq_some_iff_getElem.1 h
  rw [zbf] at h2
  exact ⟨fun _ => h2 ▸ List.getElem_mem _, fun _ => by omega⟩
 ·rename_i h
  rw [List.findIdx?_eq_none_iff] at h
  refine ⟨fun h => by omega, fun hx => ?_⟩
  have := h x hx
  simp [zby] at this
theorem zh5 (l : List DtId) (x : DtId) (hn : l.length ≤ 1048576) : PCall Try.prog 59 [.sl 2 (l.map DtId.cells), .agg (DtId.cells x)] (.g (.bool (decB (x ∈ l)))) := by
 refine zbq Try.func59 (by rfl) (by rfl) (by rw [Try.ntmps59]; exact Nat.le_of_ble_eq_true rfl) rfl (by decide) ?_
 rw [Try.ntmps59]
 refine AW_k [(0, _), (1, _)] ⟨rfl, rfl, trivial⟩ ?_
 refine AW_r rfl rfl fun K hK => ?_
 simp (disch := omega) [zbc, gE, tP, DtId.cells, zjx]
 repeat' first | (refine ⟨by omega, ?_⟩) | (intro _)
 refine hK _ ?_; clear hK K
 refine AW_r rfl rfl fun K hK => ?_
 simp (disch := omega) [zbc, gE, tP, DtId.cells, zjx]
 repeat' first | (exfalso; omega) | (refine zcj (zbg zb9 (zbg (zb6 rfl) zbn)) (indexId _ _ (by omega)) rfl ?_; simp (disch := omega) [zbc, gE, tP, DtId.cells, zjx]) | (refine ⟨by omega, ?_⟩) | (intro _)
 refine hK _ ?_; clear hK K
 refine zbt (zb4 ?_)
 simp (disch := omega) [zbc, gE, tP, DtId.cells, zjx]
 all_goals first | omega | (simp_all; done) | (simp [List.take_of_length_le]; done) | ((try simp_all); (try simp (disch := omega) only [zbc, Int.tdiv_eq_ediv_of_nonneg, Int.tmod_eq_emod_of_nonneg, and_true, true_and]); done) | ((try simp_all); (try simp (disch := omega) only [zbc, Int.tdiv_eq_ediv_of_nonneg, Int.tmod_eq_emod_of_nonneg, and_true, true_and] at *); omega)
end Go.Proofs.Ytfbmhgiokfpgiaa.Vs
