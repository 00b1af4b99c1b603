import Derived.Test.YtfbmhgiokfpgiaaGreatSK1
open Go Go.Proofs Go.Proofs.YtfbmhgiokfpgiaaGreat.Vs
namespace Go.Proofs.YtfbmhgiokfpgiaaGreat.Vs
set_option linter.all false
set_option linter.unusedSimpArgs false
set_option linter.unusedVariables false
set_option maxRecDepth 100000
theorem zbx : eq2 Tryz.prog 44 = true := by kernel_rfl
def IdP (x : DtId) : Prop := 0 ≤ x.fRep ∧ x.fRep ≤ 2 ∧ 1 ≤ x.fSlot ∧ x.fSlot ≤ 6
def idLt (a b : DtId) : Prop := a.fRep < b.fRep ∨ (a.fRep = b.fRep ∧ a.fSlot < b.fSlot)
def IdsP (l : List DtId) : Prop := ∀ (i : Nat) x, l[i]? = some x → IdP x ∧ ∀ y, 0 < i → l[i - 1]? = some y → idLt y x
noncomputable def cmpI (a b : DtId) : Int := bif decB (idLt a b) then -1 else bif eqB a b then 0 else 1
theorem zbq (a b : DtId) : (cmpI a b < 0) = idLt a b := by
 by_cases h : idLt a b
 ·have e : cmpI a b = -1 := by rw [cmpI, zcu h]; rfl
  rw [e]; simp [h]
 ·have e : 0 ≤ cmpI a b := by
   rw [cmpI, zc4 h]
   cases eqB a b <;> simp
  simp [h]; omega
theorem zbt (a b : DtId) : (0 ≤ cmpI a b) = ¬ idLt a b := by
 rw [← zbq]; simp
theorem zgo (a b : DtId) : (a = b) = (a.fRep = b.fRep ∧ a.fSlot = b.fSlot) := DtId.ext_iff a b
theorem l8Id (x : DtId) : PCall Tryz.prog 72 [.agg (DtId.cells x)] (.g (.bool (decB (IdP x)))) := by
 refine zbz Tryz.func72 (by rfl) (by rfl) (by rw [Tryz.ntmps72]; exact Nat.le_of_ble_eq_true rfl) rfl (by decide) ?_
 rw [Tryz.ntmps72]
 refine AW_k [(0, _)] ⟨rfl, trivial⟩ ?_
 refine AW_r rfl rfl fun K hK => ?_
 simp (disch := omega) [zbd, gE, tP, DtId.cells, zbc, zbb]
 repeat' first | (refine ⟨by omega, ?_⟩) | (intro _)
 refine hK _ ?_; clear hK K
 refine AW_r rfl rfl fun K hK => ?_
 simp (disch := omega) [zbd, gE, tP, DtId.cells, zbc, zbb]
 repeat' first | (exfalso; omega) | (refine zco (zbh zcx (zbh zcx (zbh zcx zbs))) (l1In _ _ _) rfl ?_; simp (disch := omega) [zbd, gE, tP, DtId.cells, zbc, zbb]) | (refine ⟨fun _ => ?_, fun _ => ?_⟩) | (refine ⟨by omega, ?_⟩) | (intro _)
 all_goals (refine hK _ ?_; clear hK K)
 all_goals
  refine zby (zcd ?_)
  simp (disch := omega) [zbd, gE, tP, DtId.cells, zbc, zbb]
  all_goals first | grind [IdP] | (rw [Bool.eq_iff_iff, zbc]; simp; grind [IdP])
theorem idOk (x : DtId) : PCall Tryz.prog 77 [.agg (DtId.cells x)] (.g (.bool (decB (IdP x)))) := by
 refine zbz Tryz.func77 (by rfl) (by rfl) (by rw [Tryz.ntmps77]; exact Nat.le_of_ble_eq_true rfl) rfl (by decide) ?_
 rw [Tryz.ntmps77]
 refine AW_k [(0, _)] ⟨rfl, trivial⟩ ?_
 refine AW_r rfl rfl fun K hK => ?_
 simp (disch := omega) [zbd, gE, tP, DtId.cells, zbc, zbb]
 repeat' first | (refine ⟨by omega, ?_⟩) | (intro _)
 refine hK _ ?_; clear hK K
 refine AW_r rfl rfl fun K hK => ?_
 simp (disch := omega) [zbd, gE, tP, DtId.cells, zbc, zbb]
 repeat' first | (exfalso; omega) | (refine zco (zbh zcx (zbh zcx (zbh zcx zbs))) (znu _ _ _) rfl ?_; simp (disch := omega) [zbd, gE, tP, DtId.cells, zbc, zbb]) | (refine ⟨fun _ => ?_, fun _ => ?_⟩) | (refine ⟨by omega, ?_⟩) | (intro _)
 all_goals (refine hK _ ?_; clear hK K)
 all_goals
  refine zby (zcd ?_)
  simp (disch := omega) [zbd, gE, tP, DtId.cells, zbc, zbb]
  all_goals first | grind [IdP] | (rw [Bool.eq_iff_iff, zbc]; simp; grind [IdP])
theorem l8Less (a b : DtId) : PCall Tryz.prog 61 [.agg (DtId.cells a), .agg (DtId.cells b)] (.g (.bool (decB (idLt a b)))) := by
 refine zbz Tryz.func61 (by rfl) (by rfl) (by rw [Tryz.ntmps61]; exact Nat.le_of_ble_eq_true rfl) rfl (by decide) ?_
 rw [Tryz.ntmps61]
 refine AW_k [(0, _), (1, _)] ⟨rfl, rfl, trivial⟩ ?_
 refine AW_r rfl rfl fun K hK => ?_
 simp (disch := omega) [zbd, gE, tP, DtId.cells, zbc, zbb]
 repeat' first | (refine ⟨by omega, ?_⟩) | (intro _)
 refine hK _ ?_; clear hK K
 refine AW_r rfl rfl fun K hK => ?_
 simp (disch := omega) [zbd, gE, tP, DtId.cells, zbc, zbb]
 repeat' first | (exfalso; omega) | (refine ⟨fun _ => ?_, fun _ => ?_⟩) | (refine ⟨by omega, ?_⟩) | (intro _)
 all_goals (refine hK _ ?_; clear hK K)
 all_goals
  refine zby (zcd ?_)
  simp (disch := omega) [zbd, gE, tP, DtId.cells, zbc, zbb]
  all_goals first | grind [idLt] | (rw [Bool.eq_iff_iff, zbc]; simp; grind [idLt])
theorem zhp (a b : DtId) : PCall Tryz.prog 66 [.agg (DtId.cells a), .agg (DtId.cells b)] (.g (.int .i64 (cmpI a b))) := by
 have hd : decB (idLt a b) = true ∨ decB (idLt a b) = false := by cases decB (idLt a b) <;> simp
 have he := zgo a b
 have k1 : (a.fRep < b.fRep ∨ (a.fRep = b.fRep ∧ a.fSlot < b.fSlot)) → cmpI a b = -1 := fun h => by
  have h : idLt a b := h
  rw [cmpI, zcu h]; rfl
 have k2 : ¬ (a.fRep < b.fRep ∨ (a.fRep = b.fRep ∧ a.fSlot < b.fSlot)) → (a.fRep = b.fRep ∧ a.fSlot = b.fSlot) → cmpI a b = 0 := fun h h2 => by
  have h : ¬ idLt a b := h
  rw [cmpI, zc4 h, zcl (he.mpr h2)]; rfl
 have k3 : ¬ (a.fRep < b.fRep ∨ (a.fRep = b.fRep ∧ a.fSlot < b.fSlot)) → ¬ (a.fRep = b.fRep ∧ a.fSlot = b.fSlot) → cmpI a b = 1 := fun h h2 => by
  have h : ¬ idLt a b := h
  rw [cmpI, zc4 h, zci (fun e => h2 (he.mp e))]; rfl
 refine zbz Tryz.func66 (by rfl) (by rfl) (by rw [Tryz.ntmps66]; exact Nat.le_of_ble_eq_true rfl) rfl (by decide) ?_
 rw [Tryz.ntmps66]
 refine AW_k [(0, _), (1, _)] ⟨rfl, rfl, trivial⟩ ?_
 refine AW_r rfl rfl fun K hK => ?_
 simp (disch := omega) [zbd, gE, tP, DtId.cells, zbx]
 repeat' first | (refine ⟨by omega, ?_⟩) | (intro _)
 refine hK _ ?_; clear hK K
 refine zbr ?_
 refine zb0 ?_
 refine AW_r rfl rfl fun K hK => ?_
 simp (disch := omega) [zbd, gE, tP, DtId.cells, zbx]
 repeat' first | (exfalso; omega) | (refine ⟨fun _ => ?_, fun _ => ?_⟩) | (refine ⟨by omega, ?_⟩) | (intro _)
 all_goals (refine hK _ ?_; clear hK K)
 all_goals
  refine zbu rfl (fun hc1 => ?_) (fun hc1 => ?_)
  ·try simp [zbc, zbb, zbg, zbf] at hc1
   all_goals
    refine AW_r rfl rfl fun K hK => ?_
    simp (disch := omega) [zbd, gE, tP, DtId.cells, zbx]
    repeat' first | (exfalso; omega) | (refine ⟨fun _ => ?_, fun _ => ?_⟩) | (refine ⟨by omega, ?_⟩) | (intro _)
    all_goals (refine hK _ ?_; clear hK K)
    all_goals
     refine zby (zcd ?_)
     simp (disch := omega) [zbd, gE, tP, DtId.cells, zbx]
     all_goals (clear hd he; grind)
  ·try simp [zbc, zbb, zbg, zbf] at hc1
   all_goals
    refine AW_r rfl rfl fun K hK => ?_
    simp (disch := omega) [zbd, gE, tP, DtId.cells, zbx]
    repeat' first | (exfalso; omega) | (refine ⟨fun _ => ?_, fun _ => ?_⟩) | (refine ⟨by omega, ?_⟩) | (intro _)
    all_goals (refine hK _ ?_; clear hK K)
    all_goals
     refine zbu rfl (fun hc2 => ?_) (fun hc2 => ?_)
     ·try simp [zbc, zbb, zbg, zbf] at hc2
      all_goals
       refine AW_r rfl rfl fun K hK => ?_
       simp (disch := omega) [zbd, gE, tP, DtId.cells, zbx]
       repeat' first | (exfalso; omega) | (refine ⟨fun _ => ?_, fun _ => ?_⟩) | (refine ⟨by omega, ?_⟩) | (intro _)
       all_goals (refine hK _ ?_; clear hK K)
       all_goals
        refine zby (zcd ?_)
        simp (disch := omega) [zbd, gE, tP, DtId.cells, zbx]
        all_goals (clear hd he; grind)
     ·try simp [zbc, zbb, zbg, zbf] at hc2
      all_goals
       refine zbv ?_
       refine zb4 ?_
       refine AW_r rfl rfl fun K hK => ?_
       simp (disch := omega) [zbd, gE, tP, DtId.cells, zbx]
       repeat' first | (exfalso; omega) | (refine ⟨fun _ => ?_, fun _ => ?_⟩) | (refine ⟨by omega, ?_⟩) | (intro _)
       all_goals (refine hK _ ?_; clear hK K)
       all_goals
        refine zby (zcd ?_)
        simp (disch := omega) [zbd, gE, tP, DtId.cells, zbx]
        all_goals (clear hd he; grind)
theorem specIdsOk (l : List DtId) (hn : l.length ≤ 1048576) : PCall Tryz.prog 75 [.sl 2 (l.map DtId.cells)] (.g (.bool (decB (IdsP l)))) := by
 refine zbz Tryz.func75 (by rfl) (by rfl) (by rw [Tryz.ntmps75]; exact Nat.le_of_ble_eq_true rfl) rfl (by decide) ?_
 rw [Tryz.ntmps75]
 refine AW_k [(0, _)] ⟨rfl, trivial⟩ ?_
 refine AW_r rfl rfl fun K hK => ?_
 simp (disch := omega) [zbd, gE, tP, DtId.cells, zbc, zbb, zbt, zbq, Classical.not_not]
 repeat' first | (refine ⟨by omega, ?_⟩) | (intro _)
 refine hK _ ?_; clear hK K
 refine zbr ?_
 refine AW_r rfl rfl fun K hK => ?_
 simp (disch := omega) [zbd, gE, tP, DtId.cells, zbc, zbb, zbt, zbq, Classical.not_not]
 repeat' first | (refine ⟨by omega, ?_⟩) | (intro _)
 refine hK _ ?_; clear hK K
 refine zb0 ?_
 refine zcf (fun mM sS => ∃ (i : Nat), mM = l.length - i ∧ (i ≤ l.length ∧ ∀ (j : Nat) x, j < i → l[j]? = some x → IdP x ∧ ∀ y, 0 < j → l[j - 1]? = some y → idLt y x) ∧ sS = { env := lkE [(0, .sl 2 (l.map DtId.cells)), (3, (.g (.int .i64 ((i : Nat)))))], ob := formOb [] [] }) ?_ ?_
 ·refine ⟨_, LeS.kp [(0, .sl 2 (l.map DtId.cells)), (3, (.g (.int .i64 (((0) : Nat)))))] (by simp [KpE, zbl, zb5, zbi]; try rfl), _, 0, rfl, ?_, rfl⟩
  ·simp
 ·rintro mM sS ⟨i, rfl, ⟨hi, hpre⟩, rfl⟩
  refine zbr ?_
  refine AW_r rfl rfl fun K hK => ?_
  simp (disch := omega) [zbd, gE, tP, DtId.cells, zbc, zbb, zbt, zbq, Classical.not_not]
  repeat' first | (refine ⟨by omega, ?_⟩) | (intro _)
  refine hK _ ?_; clear hK K
  refine zbu rfl (fun hc3 => ?_) (fun hc3 => ?_)
  ·try simp [zbc, zbb, zbg, zbf, zbq, zbt] at hc3
   all_goals
    have hg : l[i]? = some l[i] := List.getElem?_eq_getElem (by omega)
    have hg' : l[i - 1]? = some l[i - 1] := List.getElem?_eq_getElem (by omega)
    rcases Nat.eq_zero_or_pos i with hi0 | hi0
    all_goals
     refine zbv ?_
     refine zb4 ?_
     refine zbr ?_
     refine zb0 ?_
     refine AW_q rfl mix (by kernel_rfl) rfl fun K hK => ?_
     simp (disch := omega) [zbd, gE, tP, DtId.cells, zbc, zbb, zbt, zbq, Classical.not_not]
     repeat' first | (exfalso; omega) | (refine zco (zbh (zcb rfl) zbs) (l8Id _) rfl ?_; simp (disch := omega) [zbd, gE, tP, DtId.cells, zbc, zbb, zbt, zbq, Classical.not_not]) | (refine zco (zbh (zcb rfl) (zbh (zcb rfl) zbs)) (l8Less _ _) rfl ?_; simp (disch := omega) [zbd, gE, tP, DtId.cells, zbc, zbb, zbt, zbq, Classical.not_not]) | (refine ⟨fun _ => ?_, fun _ => ?_⟩) | (refine ⟨by omega, ?_⟩) | (intro _)
     all_goals (refine hK _ ?_; clear hK K)
     all_goals
      refine zbu rfl (fun hc4 => ?_) (fun hc4 => ?_)
      ·try simp [zbc, zbb, zbg, zbf, zbq, zbt] at hc4
       all_goals
        refine AW_r rfl rfl fun K hK => ?_
        simp (disch := omega) [zbd, gE, tP, DtId.cells, zbc, zbb, zbt, zbq, Classical.not_not]
        repeat' first | (exfalso; omega) | (refine ⟨fun _ => ?_, fun _ => ?_⟩) | (refine ⟨by omega, ?_⟩) | (intro _)
        all_goals (refine hK _ ?_; clear hK K)
        all_goals
         refine zby (zcd ?_)
         simp (disch := omega) [zbd, gE, tP, DtId.cells, zbc, zbb, zbt, zbq, Classical.not_not]
         all_goals first | grind [IdsP] | (refine zc4 fun h => ?_; grind [IdsP]) | (refine zcu ?_; grind [IdsP])
      ·try simp [zbc, zbb, zbg, zbf, zbq, zbt] at hc4
       all_goals
        refine zbv ?_
        refine zb4 ?_
        refine zdi rfl rfl fun K hK => ?_
        simp (disch := omega) [zbd, gE, tP, DtId.cells, zbc, zbb, zbt, zbq, Classical.not_not]
        repeat' first | (exfalso; omega) | (refine ⟨fun _ => ?_, fun _ => ?_⟩) | (refine ⟨by omega, ?_⟩) | (intro _)
        all_goals (refine hK _ ?_; clear hK K)
        all_goals
         refine ⟨_, LeS.kp [(0, .sl 2 (l.map DtId.cells)), (3, (.g (.int .i64 (((i + 1) : Nat)))))] (by simp [KpE, zbl, zb5, zbi]; try rfl), _, ?_, i + 1, rfl, ?_, rfl⟩
         ·omega
         ·refine ⟨by omega, ?_⟩; clear hg'; grind
  ·try simp [zbc, zbb, zbg, zbf, zbq, zbt] at hc3
   all_goals
    refine zch ?_
    refine zb4 ?_
    refine AW_r rfl rfl fun K hK => ?_
    simp (disch := omega) [zbd, gE, tP, DtId.cells, zbc, zbb, zbt, zbq, Classical.not_not]
    repeat' first | (exfalso; omega) | (refine ⟨fun _ => ?_, fun _ => ?_⟩) | (refine ⟨by omega, ?_⟩) | (intro _)
    all_goals (refine hK _ ?_; clear hK K)
    all_goals
     refine zby (zcd ?_)
     simp (disch := omega) [zbd, gE, tP, DtId.cells, zbc, zbb, zbt, zbq, Classical.not_not]
     all_goals first | grind [IdsP] | (refine zc4 fun h => ?_; grind [IdsP]) | (refine zcu ?_; grind [IdsP])
theorem implIdsOk (l : List DtId) (hn : l.length ≤ 1048576) : PCall Tryz.prog 80 [.sl 2 (l.map DtId.cells)] (.g (.bool (decB (IdsP l)))) := by
 refine zbz Tryz.func80 (by rfl) (by rfl) (by rw [Tryz.ntmps80]; exact Nat.le_of_ble_eq_true rfl) rfl (by decide) ?_
 rw [Tryz.ntmps80]
 refine AW_k [(0, _)] ⟨rfl, trivial⟩ ?_
 refine AW_r rfl rfl fun K hK => ?_
 simp (disch := omega) [zbd, gE, tP, DtId.cells, zbc, zbb, zbt, zbq, Classical.not_not]
 repeat' first | (refine ⟨by omega, ?_⟩) | (intro _)
 refine hK _ ?_; clear hK K
 refine zbr ?_
 refine AW_r rfl rfl fun K hK => ?_
 simp (disch := omega) [zbd, gE, tP, DtId.cells, zbc, zbb, zbt, zbq, Classical.not_not]
 repeat' first | (refine ⟨by omega, ?_⟩) | (intro _)
 refine hK _ ?_; clear hK K
 refine zb0 ?_
 refine zcf (fun mM sS => ∃ (i : Nat), mM = l.length - i ∧ (i ≤ l.length ∧ ∀ (j : Nat) x, j < i → l[j]? = some x → IdP x ∧ ∀ y, 0 < j → l[j - 1]? = some y → idLt y x) ∧ sS = { env := lkE [(0, .sl 2 (l.map DtId.cells)), (5, .sl 2 (l.map DtId.cells)), (6, (.g (.int .i64 ((l.length : Nat))))), (7, (.g (.int .i64 ((i : Nat)))))], ob := lk [] }) ?_ ?_
 ·refine ⟨_, LeS.ko [(0, .sl 2 (l.map DtId.cells)), (5, .sl 2 (l.map DtId.cells)), (6, (.g (.int .i64 ((l.length : Nat))))), (7, (.g (.int .i64 (((0) : Nat)))))] [] (by simp [KpE, zbl, zb5, zbi]; try rfl) (by simp [KpO, zbl, zbi, zbp, zcj]; try rfl) (by rfl) (by simp) (by rfl), _, 0, rfl, ?_, rfl⟩
  ·simp
 ·rintro mM sS ⟨i, rfl, ⟨hi, hpre⟩, rfl⟩
  refine AW_r rfl rfl fun K hK => ?_
  simp (disch := omega) [zbd, gE, tP, DtId.cells, zbc, zbb, zbt, zbq, Classical.not_not]
  repeat' first | (refine ⟨by omega, ?_⟩) | (intro _)
  refine hK _ ?_; clear hK K
  refine zbr ?_
  refine zbu rfl (fun hc5 => ?_) (fun hc5 => ?_)
  ·try simp [zbc, zbb, zbg, zbf, zbq, zbt] at hc5
   all_goals
    have hg : l[i]? = some l[i] := List.getElem?_eq_getElem (by omega)
    have hg' : l[i - 1]? = some l[i - 1] := List.getElem?_eq_getElem (by omega)
    rcases Nat.eq_zero_or_pos i with hi0 | hi0
    all_goals
     refine zbv ?_
     refine zb4 ?_
     refine zbr ?_
     refine zb0 ?_
     refine AW_r rfl rfl fun K hK => ?_
     simp (disch := omega) [zbd, gE, tP, DtId.cells, zbc, zbb, zbt, zbq, Classical.not_not]
     repeat' first | (exfalso; omega) | (refine ⟨fun _ => ?_, fun _ => ?_⟩) | (refine ⟨by omega, ?_⟩) | (intro _)
     all_goals (refine hK _ ?_; clear hK K)
     all_goals
      refine AW_q rfl mix (by kernel_rfl) rfl fun K hK => ?_
      simp (disch := omega) [zbd, gE, tP, DtId.cells, zbc, zbb, zbt, zbq, Classical.not_not]
      repeat' first | (exfalso; omega) | (refine zco (zbh (zcb rfl) zbs) (idOk _) rfl ?_; simp (disch := omega) [zbd, gE, tP, DtId.cells, zbc, zbb, zbt, zbq, Classical.not_not]) | (refine zco (zbh (zcb rfl) (zbh (zcb rfl) zbs)) (zhp _ _) rfl ?_; simp (disch := omega) [zbd, gE, tP, DtId.cells, zbc, zbb, zbt, zbq, Classical.not_not]) | (refine ⟨fun _ => ?_, fun _ => ?_⟩) | (refine ⟨by omega, ?_⟩) | (intro _)
      all_goals (refine hK _ ?_; clear hK K)
      all_goals
       refine zbu rfl (fun hc6 => ?_) (fun hc6 => ?_)
       ·try simp [zbc, zbb, zbg, zbf, zbq, zbt] at hc6
        all_goals
         refine AW_r rfl rfl fun K hK => ?_
         simp (disch := omega) [zbd, gE, tP, DtId.cells, zbc, zbb, zbt, zbq, Classical.not_not]
         repeat' first | (exfalso; omega) | (refine ⟨fun _ => ?_, fun _ => ?_⟩) | (refine ⟨by omega, ?_⟩) | (intro _)
         all_goals (refine hK _ ?_; clear hK K)
         all_goals
          refine zby (zcd ?_)
          simp (disch := omega) [zbd, gE, tP, DtId.cells, zbc, zbb, zbt, zbq, Classical.not_not]
          all_goals first | grind [IdsP] | (refine zc4 fun h => ?_; grind [IdsP]) | (refine zcu ?_; grind [IdsP])
       ·try simp [zbc, zbb, zbg, zbf, zbq, zbt] at hc6
        all_goals
         refine zbv ?_
         refine zb4 ?_
         refine zdi rfl rfl fun K hK => ?_
         simp (disch := omega) [zbd, gE, tP, DtId.cells, zbc, zbb, zbt, zbq, Classical.not_not]
         repeat' first | (exfalso; omega) | (refine ⟨fun _ => ?_, fun _ => ?_⟩) | (refine ⟨by omega, ?_⟩) | (intro _)
         all_goals (refine hK _ ?_; clear hK K)
         all_goals
          refine ⟨_, LeS.ko [(0, .sl 2 (l.map DtId.cells)), (5, .sl 2 (l.map DtId.cells)), (6, (.g (.int .i64 ((l.length : Nat))))), (7, (.g (.int .i64 (((i + 1) : Nat)))))] [] (by simp [KpE, zbl, zb5, zbi]; try rfl) (by simp [KpO, zbl, zbi, zbp, zcj]; try rfl) (by rfl) (by simp) (by rfl), _, ?_, i + 1, rfl, ?_, rfl⟩
          ·omega
          ·refine ⟨by omega, ?_⟩; clear hg'; grind
  ·try simp [zbc, zbb, zbg, zbf, zbq, zbt] at hc5
   all_goals
    refine zch ?_
    refine zb4 ?_
    refine AW_r rfl rfl fun K hK => ?_
    simp (disch := omega) [zbd, gE, tP, DtId.cells, zbc, zbb, zbt, zbq, Classical.not_not]
    repeat' first | (exfalso; omega) | (refine ⟨fun _ => ?_, fun _ => ?_⟩) | (refine ⟨by omega, ?_⟩) | (intro _)
    all_goals (refine hK _ ?_; clear hK K)
    all_goals
     refine zby (zcd ?_)
     simp (disch := omega) [zbd, gE, tP, DtId.cells, zbc, zbb, zbt, zbq, Classical.not_not]
     all_goals first | grind [IdsP] | (refine zc4 fun h => ?_; grind [IdsP]) | (refine zcu ?_; grind [IdsP])
theorem zxh (l : List DtId) (x : DtId) (hn : l.length ≤ 1048576) : PCall Tryz.prog 40 [.sl 2 (l.map DtId.cells), .agg (DtId.cells x)] (.g (.bool (decB (x ∈ l)))) := by
 refine zbz Tryz.func40 (by rfl) (by rfl) (by rw [Tryz.ntmps40]; exact Nat.le_of_ble_eq_true rfl) rfl (by decide) ?_
 rw [Tryz.ntmps40]
 refine AW_k [(0, _), (1, _)] ⟨rfl, rfl, trivial⟩ ?_
 refine AW_r rfl rfl fun K hK => ?_
 simp (disch := omega) [zbd, gE, tP, DtId.cells, zbx]
 repeat' first | (refine ⟨by omega, ?_⟩) | (intro _)
 refine hK _ ?_; clear hK K
 refine zbr ?_
 refine AW_r rfl rfl fun K hK => ?_
 simp (disch := omega) [zbd, gE, tP, DtId.cells, zbx]
 repeat' first | (refine ⟨by omega, ?_⟩) | (intro _)
 refine hK _ ?_; clear hK K
 refine zb0 ?_
 refine zcf (fun mM sS => ∃ (i : Nat), mM = l.length - i ∧ (i ≤ l.length ∧ ∀ (j : Nat) y, j < i → l[j]? = some y → ¬ (y.fRep = x.fRep ∧ y.fSlot = x.fSlot)) ∧ sS = { env := lkE [(0, .sl 2 (l.map DtId.cells)), (3, .ptr 64 0), (5, (.g (.int .i64 ((i : Nat)))))], ob := lk [(64, .cells (DtId.cells x))] }) ?_ ?_
 ·refine ⟨_, LeS.ko [(0, .sl 2 (l.map DtId.cells)), (3, .ptr 64 0), (5, (.g (.int .i64 (((0) : Nat)))))] [(64, .cells (DtId.cells x))] (by simp [KpE, zbl, zb5, zbi, DtId.cells]; try rfl) (by simp [KpO, zbl, zbi, zbp, zcj, DtId.cells]; try rfl) (by rfl) (by simp) (by rfl), _, 0, rfl, ?_, rfl⟩
  ·simp
 ·rintro mM sS ⟨i, rfl, ⟨hi, hpre⟩, rfl⟩
  refine zbr ?_
  refine AW_r rfl rfl fun K hK => ?_
  simp (disch := omega) [zbd, gE, tP, DtId.cells, zbx]
  repeat' first | (refine ⟨by omega, ?_⟩) | (intro _)
  refine hK _ ?_; clear hK K
  refine zbu rfl (fun hc7 => ?_) (fun hc7 => ?_)
  ·try simp [zbc, zbb, zbg, zbf, zbq, zbt] at hc7
   all_goals
    have hg : l[i]? = some l[i] := List.getElem?_eq_getElem (by omega)
    refine zbv ?_
    refine zb4 ?_
    refine zbr ?_
    refine zb0 ?_
    refine AW_q rfl mix (by kernel_rfl) rfl fun K hK => ?_
    simp (disch := omega) [zbd, gE, tP, DtId.cells, zbx]
    repeat' first | (exfalso; omega) | (refine ⟨fun _ => ?_, fun _ => ?_⟩) | (refine ⟨by omega, ?_⟩) | (intro _)
    all_goals (refine hK _ ?_; clear hK K)
    all_goals
     refine zbu rfl (fun hc8 => ?_) (fun hc8 => ?_)
     ·try simp [zbc, zbb, zbg, zbf, zbq, zbt] at hc8
      all_goals
       refine AW_r rfl rfl fun K hK => ?_
       simp (disch := omega) [zbd, gE, tP, DtId.cells, zbx]
       repeat' first | (exfalso; omega) | (refine ⟨fun _ => ?_, fun _ => ?_⟩) | (refine ⟨by omega, ?_⟩) | (intro _)
       all_goals (refine hK _ ?_; clear hK K)
       all_goals
        refine zby (zcd ?_)
        simp (disch := omega) [zbd, gE, tP, DtId.cells, zbx]
        all_goals first | (refine zc4 fun h => ?_; grind [List.mem_iff_getElem?]) | (refine zcu ?_; grind [List.mem_iff_getElem?, zgo])
     ·try simp [zbc, zbb, zbg, zbf, zbq, zbt] at hc8
      all_goals
       refine zbv ?_
       refine zb4 ?_
       refine zdi rfl rfl fun K hK => ?_
       simp (disch := omega) [zbd, gE, tP, DtId.cells, zbx]
       repeat' first | (exfalso; omega) | (refine ⟨fun _ => ?_, fun _ => ?_⟩) | (refine ⟨by omega, ?_⟩) | (intro _)
       all_goals (refine hK _ ?_; clear hK K)
       all_goals
        refine ⟨_, LeS.ko [(0, .sl 2 (l.map DtId.cells)), (3, .ptr 64 0), (5, (.g (.int .i64 (((i + 1) : Nat)))))] [(64, .cells (DtId.cells x))] (by simp [KpE, zbl, zb5, zbi, DtId.cells]; try rfl) (by simp [KpO, zbl, zbi, zbp, zcj, DtId.cells]; try rfl) (by rfl) (by simp) (by rfl), _, ?_, i + 1, rfl, ?_, rfl⟩
        ·omega
        ·refine ⟨by omega, ?_⟩; grind
  ·try simp [zbc, zbb, zbg, zbf, zbq, zbt] at hc7
   all_goals
    refine zch ?_
    refine zb4 ?_
    refine AW_r rfl rfl fun K hK => ?_
    simp (disch := omega) [zbd, gE, tP, DtId.cells, zbx]
    repeat' first | (exfalso; omega) | (refine ⟨fun _ => ?_, fun _ => ?_⟩) | (refine ⟨by omega, ?_⟩) | (intro _)
    all_goals (refine hK _ ?_; clear hK K)
    all_goals
     refine zby (zcd ?_)
     simp (disch := omega) [zbd, gE, tP, DtId.cells, zbx]
     all_goals first | (refine zc4 fun h => ?_; grind [List.mem_iff_getElem?]) | (refine zcu ?_; grind [List.mem_iff_getElem?, zgo])
theorem indexId (l : List DtId) (x : DtId) (hn : l.length ≤ 1048576) : PCall Tryz.prog 67 [.sl 2 (l.map DtId.cells), .agg (DtId.cells x)] (.g (.int .i64 (idxZ (fun y => eqB x y) l))) := by
 refine zbz Tryz.func67 (by rfl) (by rfl) (by rw [Tryz.ntmps67]; exact Nat.le_of_ble_eq_true rfl) rfl (by decide) ?_
 rw [Tryz.ntmps67]
 refine AW_k [(0, _), (1, _)] ⟨rfl, rfl, trivial⟩ ?_
 refine AW_r rfl rfl fun K hK => ?_
 simp (disch := omega) [zbd, gE, tP, DtId.cells, zbx]
 repeat' first | (refine ⟨by omega, ?_⟩) | (intro _)
 refine hK _ ?_; clear hK K
 refine zbr ?_
 refine AW_r rfl rfl fun K hK => ?_
 simp (disch := omega) [zbd, gE, tP, DtId.cells, zbx]
 repeat' first | (refine ⟨by omega, ?_⟩) | (intro _)
 refine hK _ ?_; clear hK K
 refine zb0 ?_
 refine zcf (fun mM sS => ∃ (i : Nat), mM = l.length - i ∧ (i ≤ l.length ∧ ∀ (j : Nat) y, j < i → l[j]? = some y → eqB x y = false) ∧ sS = { env := lkE [(0, .sl 2 (l.map DtId.cells)), (3, .ptr 64 0), (6, .sl 2 (l.map DtId.cells)), (7, (.g (.int .i64 ((l.length : Nat))))), (8, (.g (.int .i64 ((i : Nat)))))], ob := lk [(64, .cells (DtId.cells x))] }) ?_ ?_
 ·refine ⟨_, LeS.ko [(0, .sl 2 (l.map DtId.cells)), (3, .ptr 64 0), (6, .sl 2 (l.map DtId.cells)), (7, (.g (.int .i64 ((l.length : Nat))))), (8, (.g (.int .i64 (((0) : Nat)))))] [(64, .cells (DtId.cells x))] (by simp [KpE, zbl, zb5, zbi, DtId.cells]; try rfl) (by simp [KpO, zbl, zbi, zbp, zcj, DtId.cells]; try rfl) (by rfl) (by simp) (by rfl), _, 0, rfl, ?_, rfl⟩
  ·simp
 ·rintro mM sS ⟨i, rfl, ⟨hi, hpre⟩, rfl⟩
  refine AW_r rfl rfl fun K hK => ?_
  simp (disch := omega) [zbd, gE, tP, DtId.cells, zbx]
  repeat' first | (refine ⟨by omega, ?_⟩) | (intro _)
  refine hK _ ?_; clear hK K
  refine zbr ?_
  refine zbu rfl (fun hc9 => ?_) (fun hc9 => ?_)
  ·try simp [zbc, zbb, zbg, zbf, zbq, zbt] at hc9
   all_goals
    have hg : l[i]? = some l[i] := List.getElem?_eq_getElem (by omega)
    refine zbv ?_
    refine zb4 ?_
    refine zbr ?_
    refine zb0 ?_
    refine AW_r rfl rfl fun K hK => ?_
    simp (disch := omega) [zbd, gE, tP, DtId.cells, zbx]
    repeat' first | (exfalso; omega) | (refine ⟨fun _ => ?_, fun _ => ?_⟩) | (refine ⟨by omega, ?_⟩) | (intro _)
    all_goals (refine hK _ ?_; clear hK K)
    all_goals
     refine AW_q rfl mix (by kernel_rfl) rfl fun K hK => ?_
     simp (disch := omega) [zbd, gE, tP, DtId.cells, zbx]
     repeat' first | (refine ⟨by omega, ?_⟩) | (intro _)
     refine hK _ ?_; clear hK K
     refine zbu rfl (fun hc10 => ?_) (fun hc10 => ?_)
     ·try simp [zbc, zbb, zbg, zbf, zbq, zbt] at hc10
      all_goals
       refine AW_r rfl rfl fun K hK => ?_
       simp (disch := omega) [zbd, gE, tP, DtId.cells, zbx]
       repeat' first | (exfalso; omega) | (refine ⟨fun _ => ?_, fun _ => ?_⟩) | (refine ⟨by omega, ?_⟩) | (intro _)
       all_goals (refine hK _ ?_; clear hK K)
       all_goals
        refine zby (zcd ?_)
        simp (disch := omega) [zbd, gE, tP, DtId.cells, zbx]
        all_goals first | (exact zd1 (by assumption) (by simp_all [zbg, zgo]) hpre) | (exact zfj (fun j x h => hpre j x (by omega)))
     ·try simp [zbc, zbb, zbg, zbf, zbq, zbt] at hc10
      all_goals
       refine zbv ?_
       refine zb4 ?_
       refine zdi rfl rfl fun K hK => ?_
       simp (disch := omega) [zbd, gE, tP, DtId.cells, zbx]
       repeat' first | (exfalso; omega) | (refine ⟨fun _ => ?_, fun _ => ?_⟩) | (refine ⟨by omega, ?_⟩) | (intro _)
       all_goals (refine hK _ ?_; clear hK K)
       all_goals
        refine ⟨_, LeS.ko [(0, .sl 2 (l.map DtId.cells)), (3, .ptr 64 0), (6, .sl 2 (l.map DtId.cells)), (7, (.g (.int .i64 ((l.length : Nat))))), (8, (.g (.int .i64 (((i + 1) : Nat)))))] [(64, .cells (DtId.cells x))] (by simp [KpE, zbl, zb5, zbi, DtId.cells]; try rfl) (by simp [KpO, zbl, zbi, zbp, zcj, DtId.cells]; try rfl) (by rfl) (by simp) (by rfl), _, ?_, i + 1, rfl, ?_, rfl⟩
        ·omega
        ·refine ⟨by omega, ?_⟩; grind [zbf, zgo]
  ·try simp [zbc, zbb, zbg, zbf, zbq, zbt] at hc9
   all_goals
    refine zch ?_
    refine zb4 ?_
    refine AW_r rfl rfl fun K hK => ?_
    simp (disch := omega) [zbd, gE, tP, DtId.cells, zbx]
    repeat' first | (exfalso; omega) | (refine ⟨fun _ => ?_, fun _ => ?_⟩) | (refine ⟨by omega, ?_⟩) | (intro _)
    all_goals (refine hK _ ?_; clear hK K)
    all_goals
     refine zby (zcd ?_)
     simp (disch := omega) [zbd, gE, tP, DtId.cells, zbx]
     all_goals first | (exact zd1 (by assumption) (by simp_all [zbg, zgo]) hpre) | (exact zfj (fun j x h => hpre j x (by omega)))
theorem zld {α : Type} (l : List α) (x : α) : decide (0 ≤ idxZ (fun y => eqB x y) l) = decB (x ∈ l) := by
 rw [Bool.eq_iff_iff, zbc]
 simp only [decide_eq_true_eq]
 unfold idxZ
 split
 ·rename_i i h
  obtain ⟨h1, h2, -⟩ := List.findIdx?_eq_some_iff_getElem.1 h
  rw [zbg] at h2
  exact ⟨fun _ => h2 ▸ List.getElem_mem _, fun _ => by omega⟩
 ·rename_i h
  rw [List.findIdx?_eq_none_iff] at h
  refine ⟨fun h => by omega, fun hx => ?_⟩
  have := h x hx
  simp [zb6] at this
theorem zd2 (l : List DtId) (x : DtId) (hn : l.length ≤ 1048576) : PCall Tryz.prog 49 [.sl 2 (l.map DtId.cells), .agg (DtId.cells x)] (.g (.bool (decB (x ∈ l)))) := by
 refine zbz Tryz.func49 (by rfl) (by rfl) (by rw [Tryz.ntmps49]; exact Nat.le_of_ble_eq_true rfl) rfl (by decide) ?_
 rw [Tryz.ntmps49]
 refine AW_k [(0, _), (1, _)] ⟨rfl, rfl, trivial⟩ ?_
 refine AW_r rfl rfl fun K hK => ?_
 simp (disch := omega) [zbd, gE, tP, DtId.cells, zld]
 repeat' first | (refine ⟨by omega, ?_⟩) | (intro _)
 refine hK _ ?_; clear hK K
 refine AW_r rfl rfl fun K hK => ?_
 simp (disch := omega) [zbd, gE, tP, DtId.cells, zld]
 repeat' first | (exfalso; omega) | (refine zco (zbh zce (zbh (zcb rfl) zbs)) (indexId _ _ (by omega)) rfl ?_; simp (disch := omega) [zbd, gE, tP, DtId.cells, zld]) | (refine ⟨by omega, ?_⟩) | (intro _)
 refine hK _ ?_; clear hK K
 refine zby (zcd ?_)
 simp (disch := omega) [zbd, gE, tP, DtId.cells, zld]
 all_goals first | omega | (simp_all; done) | (simp [List.take_of_length_le]; done) | ((try simp_all); (try simp (disch := omega) only [zbd, Int.tdiv_eq_ediv_of_nonneg, Int.tmod_eq_emod_of_nonneg, and_true, true_and]); done) | ((try simp_all); (try simp (disch := omega) only [zbd, Int.tdiv_eq_ediv_of_nonneg, Int.tmod_eq_emod_of_nonneg, and_true, true_and] at *); omega)
end Go.Proofs.YtfbmhgiokfpgiaaGreat.Vs
