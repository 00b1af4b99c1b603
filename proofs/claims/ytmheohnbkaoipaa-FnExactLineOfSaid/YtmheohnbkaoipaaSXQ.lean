import Derived.Test.YtmheohnbkaoipaaSKQ
open Go Go.Proofs Go.Proofs.Ytmheohnbkaoipaa.Vs
namespace Go.Proofs.Ytmheohnbkaoipaa.Vs
set_option linter.all false
set_option linter.unusedSimpArgs false
set_option linter.unusedVariables false
set_option maxRecDepth 100000
def SaidAt (l : List DtSaid) (i : Nat) (x : DtSaid) : Prop := 1 ≤ x.fClient ∧ x.fClient ≤ 9 ∧ 1 ≤ x.fNo ∧ x.fNo ≤ 1000 ∧ ∀ y, 0 < i → l[i - 1]? = some y → y.fClient < x.fClient
def StateP (s : DtState) : Prop := CatP s.fCat ∧ ∀ (i : Nat) x, s.fSaid[i]? = some x → SaidAt s.fSaid i x
theorem zjm (s : DtState) (hs : DtState.sz s ≤ 1048576) : DtCatalog.sz s.fCat ≤ 1048576 ∧ s.fSaid.length ≤ 1048576 := by
 have h0 := zca DtSaid.sz_nonneg s.fSaid
 have h1 := DtCatalog.sz_nonneg s.fCat
 simp only [DtState.sz, szS] at hs
 omega
theorem zlr (s : DtState) (hs : DtState.sz s ≤ 1048576) : PCall Try.prog 110 [.agg (DtState.cells s)] (.g (.bool (decB (StateP s)))) := by
 have ⟨hz, hl⟩ := zjm s hs
 refine zbv Try.func110 (by rfl) (by rfl) (by rw [Try.ntmps110]; exact Nat.le_of_ble_eq_true rfl) rfl (by decide) ?_
 rw [Try.ntmps110]
 refine AW_k [(0, _)] ⟨rfl, trivial⟩ ?_
 refine AW_r rfl rfl fun K hK => ?_
 simp (disch := omega) [zbk, gE, tP, DtState.cells, DtCatalog.cells, DtSaid.cells, zba, zbb]
 repeat' first | (exfalso; omega) | (refine ⟨fun _ => ?_, fun _ => ?_⟩) | (refine ⟨by omega, ?_⟩) | (intro _)
 all_goals (refine hK _ ?_; clear hK K)
 all_goals
  refine zbm ?_
  refine AW_r rfl rfl fun K hK => ?_
  simp (disch := omega) [zbk, gE, tP, DtState.cells, DtCatalog.cells, DtSaid.cells, zba, zbb]
  repeat' first | (exfalso; omega) | (refine zc9 (zbi (zb9 rfl) zbt) (zlp _ (by omega)) rfl ?_; simp (disch := omega) [zbk, gE, tP, DtState.cells, DtCatalog.cells, DtSaid.cells, zba, zbb]) | (refine ⟨fun _ => ?_, fun _ => ?_⟩) | (refine ⟨by omega, ?_⟩) | (intro _)
  all_goals (refine hK _ ?_; clear hK K)
  all_goals
   refine zbl rfl (fun hc1 => ?_) (fun hc1 => ?_)
   ·try simp [zba, zbb, zbf, zbd] at hc1
    all_goals
     refine AW_r rfl rfl fun K hK => ?_
     simp (disch := omega) [zbk, gE, tP, DtState.cells, DtCatalog.cells, DtSaid.cells, zba, zbb]
     repeat' first | (exfalso; omega) | (refine ⟨fun _ => ?_, fun _ => ?_⟩) | (refine ⟨by omega, ?_⟩) | (intro _)
     all_goals (refine hK _ ?_; clear hK K)
     all_goals
      refine zbo (zb7 ?_)
      simp (disch := omega) [zbk, gE, tP, DtState.cells, DtCatalog.cells, DtSaid.cells, zba, zbb]
      all_goals first | grind [StateP, SaidAt] | (refine zc6 fun h => ?_; grind [StateP, SaidAt]) | (refine zcc ?_; grind [StateP, SaidAt])
   ·try simp [zba, zbb, zbf, zbd] at hc1
    all_goals
     refine zbn ?_
     refine zbq ?_
     refine zbm ?_
     refine AW_r rfl rfl fun K hK => ?_
     simp (disch := omega) [zbk, gE, tP, DtState.cells, DtCatalog.cells, DtSaid.cells, zba, zbb]
     repeat' first | (exfalso; omega) | (refine ⟨fun _ => ?_, fun _ => ?_⟩) | (refine ⟨by omega, ?_⟩) | (intro _)
     all_goals (refine hK _ ?_; clear hK K)
     all_goals
      refine zbr ?_
      refine zb0 (fun mM sS => ∃ (i : Nat), mM = s.fSaid.length - i ∧ (i ≤ s.fSaid.length ∧ ∀ (j : Nat) x, j < i → s.fSaid[j]? = some x → SaidAt s.fSaid j x) ∧ sS = { env := lkE [(1, .ptr 32 0), (3, (.g (.int .i64 ((i : Nat)))))], ob := lk [(32, .cells (DtState.cells s))] }) ?_ ?_
      ·refine ⟨_, LeS.ko [(1, .ptr 32 0), (3, (.g (.int .i64 (((0) : Nat)))))] [(32, .cells (DtState.cells s))] (by simp [KpE, zbe, zbu, zbc, DtState.cells, DtCatalog.cells]; try rfl) (by simp [KpO, zbe, zbc, zbh, zcf, DtState.cells, DtCatalog.cells]; try rfl) (by rfl) (by simp) (by rfl), _, 0, rfl, ?_, rfl⟩
       ·simp
      ·rintro mM sS ⟨i, rfl, ⟨hi, hpre⟩, rfl⟩
       refine zbm ?_
       refine AW_r rfl rfl fun K hK => ?_
       simp (disch := omega) [zbk, gE, tP, DtState.cells, DtCatalog.cells, DtSaid.cells, zba, zbb]
       repeat' first | (exfalso; omega) | (refine ⟨fun _ => ?_, fun _ => ?_⟩) | (refine ⟨by omega, ?_⟩) | (intro _)
       all_goals (refine hK _ ?_; clear hK K)
       all_goals
        refine zbl rfl (fun hc2 => ?_) (fun hc2 => ?_)
        ·try simp [zba, zbb, zbf, zbd] at hc2
         all_goals
          have hg : s.fSaid[i]? = some s.fSaid[i] := List.getElem?_eq_getElem (by omega)
          have hg' : s.fSaid[i - 1]? = some s.fSaid[i - 1] := List.getElem?_eq_getElem (by omega)
          rcases Nat.eq_zero_or_pos i with hi0 | hi0
          all_goals
           refine zbn ?_
           refine zbq ?_
           refine zbm ?_
           refine zbr ?_
           refine AW_r rfl rfl fun K hK => ?_
           simp (disch := omega) [zbk, gE, tP, DtState.cells, DtCatalog.cells, DtSaid.cells, zba, zbb]
           repeat' first | (exfalso; omega) | (refine ⟨fun _ => ?_, fun _ => ?_⟩) | (refine ⟨by omega, ?_⟩) | (intro _)
           all_goals (refine hK _ ?_; clear hK K)
           all_goals
            refine AW_q rfl mix (by kernel_rfl) rfl fun K hK => ?_
            simp (disch := omega) [zbk, gE, tP, DtState.cells, DtCatalog.cells, DtSaid.cells, zba, zbb]
            repeat' first | (exfalso; omega) | (refine zc9 (zbi zcs (zbi zcs (zbi zcs zbt))) (l1In _ _ _) rfl ?_; simp (disch := omega) [zbk, gE, tP, DtState.cells, DtCatalog.cells, DtSaid.cells, zba, zbb]) | (refine ⟨fun _ => ?_, fun _ => ?_⟩) | (refine ⟨by omega, ?_⟩) | (intro _)
            all_goals (refine hK _ ?_; clear hK K)
            all_goals
             refine zbl rfl (fun hc3 => ?_) (fun hc3 => ?_)
             ·try simp [zba, zbb, zbf, zbd] at hc3
              all_goals
               refine AW_r rfl rfl fun K hK => ?_
               simp (disch := omega) [zbk, gE, tP, DtState.cells, DtCatalog.cells, DtSaid.cells, zba, zbb]
               repeat' first | (exfalso; omega) | (refine ⟨fun _ => ?_, fun _ => ?_⟩) | (refine ⟨by omega, ?_⟩) | (intro _)
               all_goals (refine hK _ ?_; clear hK K)
               all_goals
                refine zbo (zb7 ?_)
                simp (disch := omega) [zbk, gE, tP, DtState.cells, DtCatalog.cells, DtSaid.cells, zba, zbb]
                all_goals first | grind [StateP, SaidAt] | (refine zc6 fun h => ?_; grind [StateP, SaidAt]) | (refine zcc ?_; grind [StateP, SaidAt])
             ·try simp [zba, zbb, zbf, zbd] at hc3
              all_goals
               refine zbn ?_
               refine zbq ?_
               refine zc3 rfl rfl fun K hK => ?_
               simp (disch := omega) [zbk, gE, tP, DtState.cells, DtCatalog.cells, DtSaid.cells, zba, zbb]
               repeat' first | (exfalso; omega) | (refine ⟨fun _ => ?_, fun _ => ?_⟩) | (refine ⟨by omega, ?_⟩) | (intro _)
               all_goals (refine hK _ ?_; clear hK K)
               all_goals
                refine ⟨_, LeS.ko [(1, .ptr 32 0), (3, (.g (.int .i64 (((i + 1) : Nat)))))] [(32, .cells (DtState.cells s))] (by simp [KpE, zbe, zbu, zbc, DtState.cells, DtCatalog.cells]; try rfl) (by simp [KpO, zbe, zbc, zbh, zcf, DtState.cells, DtCatalog.cells]; try rfl) (by rfl) (by simp) (by rfl), _, ?_, i + 1, rfl, ?_, rfl⟩
                ·omega
                ·refine ⟨by omega, ?_⟩; clear hg'; grind [SaidAt]
        ·try simp [zba, zbb, zbf, zbd] at hc2
         all_goals
          refine zb5 ?_
          refine zbq ?_
          refine AW_r rfl rfl fun K hK => ?_
          simp (disch := omega) [zbk, gE, tP, DtState.cells, DtCatalog.cells, DtSaid.cells, zba, zbb]
          repeat' first | (exfalso; omega) | (refine ⟨fun _ => ?_, fun _ => ?_⟩) | (refine ⟨by omega, ?_⟩) | (intro _)
          all_goals (refine hK _ ?_; clear hK K)
          all_goals
           refine zbo (zb7 ?_)
           simp (disch := omega) [zbk, gE, tP, DtState.cells, DtCatalog.cells, DtSaid.cells, zba, zbb]
           all_goals first | grind [StateP, SaidAt] | (refine zc6 fun h => ?_; grind [StateP, SaidAt]) | (refine zcc ?_; grind [StateP, SaidAt])
theorem zls (s : DtState) (hs : DtState.sz s ≤ 1048576) : PCall Try.prog 114 [.agg (DtState.cells s)] (.g (.bool (decB (StateP s)))) := by
 have ⟨hz, hl⟩ := zjm s hs
 refine zbv Try.func114 (by rfl) (by rfl) (by rw [Try.ntmps114]; exact Nat.le_of_ble_eq_true rfl) rfl (by decide) ?_
 rw [Try.ntmps114]
 refine AW_k [(0, _)] ⟨rfl, trivial⟩ ?_
 refine AW_r rfl rfl fun K hK => ?_
 simp (disch := omega) [zbk, gE, tP, DtState.cells, DtCatalog.cells, DtSaid.cells, zba, zbb]
 repeat' first | (exfalso; omega) | (refine ⟨fun _ => ?_, fun _ => ?_⟩) | (refine ⟨by omega, ?_⟩) | (intro _)
 all_goals (refine hK _ ?_; clear hK K)
 all_goals
  refine zbm ?_
  refine AW_r rfl rfl fun K hK => ?_
  simp (disch := omega) [zbk, gE, tP, DtState.cells, DtCatalog.cells, DtSaid.cells, zba, zbb]
  repeat' first | (exfalso; omega) | (refine ⟨fun _ => ?_, fun _ => ?_⟩) | (refine ⟨by omega, ?_⟩) | (intro _)
  all_goals (refine hK _ ?_; clear hK K)
  all_goals
   refine zbr ?_
   refine zb0 (fun mM sS => ∃ (i : Nat), mM = s.fSaid.length - i ∧ (i ≤ s.fSaid.length ∧ ∀ (j : Nat) x, j < i → s.fSaid[j]? = some x → SaidAt s.fSaid j x) ∧ sS = { env := lkE [(1, .ptr 32 0), (6, .sl 3 (s.fSaid.map DtSaid.cells)), (7, (.g (.int .i64 ((s.fSaid.length : Nat))))), (8, (.g (.int .i64 ((i : Nat)))))], ob := lk [(32, .cells (DtState.cells s))] }) ?_ ?_
   ·refine ⟨_, LeS.ko [(1, .ptr 32 0), (6, .sl 3 (s.fSaid.map DtSaid.cells)), (7, (.g (.int .i64 ((s.fSaid.length : Nat))))), (8, (.g (.int .i64 (((0) : Nat)))))] [(32, .cells (DtState.cells s))] (by simp [KpE, zbe, zbu, zbc, DtState.cells, DtCatalog.cells]; try rfl) (by simp [KpO, zbe, zbc, zbh, zcf, DtState.cells, DtCatalog.cells]; try rfl) (by rfl) (by simp) (by rfl), _, 0, rfl, ?_, rfl⟩
    ·simp
   ·rintro mM sS ⟨i, rfl, ⟨hi, hpre⟩, rfl⟩
    refine AW_r rfl rfl fun K hK => ?_
    simp (disch := omega) [zbk, gE, tP, DtState.cells, DtCatalog.cells, DtSaid.cells, zba, zbb]
    repeat' first | (exfalso; omega) | (refine ⟨fun _ => ?_, fun _ => ?_⟩) | (refine ⟨by omega, ?_⟩) | (intro _)
    all_goals (refine hK _ ?_; clear hK K)
    all_goals
     refine zbm ?_
     refine zbl rfl (fun hc4 => ?_) (fun hc4 => ?_)
     ·try simp [zba, zbb, zbf, zbd] at hc4
      all_goals
       have hg : s.fSaid[i]? = some s.fSaid[i] := List.getElem?_eq_getElem (by omega)
       have hg' : s.fSaid[i - 1]? = some s.fSaid[i - 1] := List.getElem?_eq_getElem (by omega)
       rcases Nat.eq_zero_or_pos i with hi0 | hi0
       all_goals
        refine zbn ?_
        refine zbq ?_
        refine zbm ?_
        refine zbr ?_
        refine AW_r rfl rfl fun K hK => ?_
        simp (disch := omega) [zbk, gE, tP, DtState.cells, DtCatalog.cells, DtSaid.cells, zba, zbb]
        repeat' first | (exfalso; omega) | (refine ⟨fun _ => ?_, fun _ => ?_⟩) | (refine ⟨by omega, ?_⟩) | (intro _)
        all_goals (refine hK _ ?_; clear hK K)
        all_goals
         refine AW_q rfl mix (by kernel_rfl) rfl fun K hK => ?_
         simp (disch := omega) [zbk, gE, tP, DtState.cells, DtCatalog.cells, DtSaid.cells, zba, zbb]
         repeat' first | (exfalso; omega) | (refine zc9 (zbi zcs (zbi zcs (zbi zcs zbt))) (znb _ _ _) rfl ?_; simp (disch := omega) [zbk, gE, tP, DtState.cells, DtCatalog.cells, DtSaid.cells, zba, zbb]) | (refine ⟨fun _ => ?_, fun _ => ?_⟩) | (refine ⟨by omega, ?_⟩) | (intro _)
         all_goals (refine hK _ ?_; clear hK K)
         all_goals
          refine zbl rfl (fun hc5 => ?_) (fun hc5 => ?_)
          ·try simp [zba, zbb, zbf, zbd] at hc5
           all_goals
            refine AW_r rfl rfl fun K hK => ?_
            simp (disch := omega) [zbk, gE, tP, DtState.cells, DtCatalog.cells, DtSaid.cells, zba, zbb]
            repeat' first | (exfalso; omega) | (refine ⟨fun _ => ?_, fun _ => ?_⟩) | (refine ⟨by omega, ?_⟩) | (intro _)
            all_goals (refine hK _ ?_; clear hK K)
            all_goals
             refine zbo (zb7 ?_)
             simp (disch := omega) [zbk, gE, tP, DtState.cells, DtCatalog.cells, DtSaid.cells, zba, zbb]
             all_goals first | grind [StateP, SaidAt] | (refine zc6 fun h => ?_; grind [StateP, SaidAt]) | (refine zcc ?_; grind [StateP, SaidAt]) | (rw [Bool.eq_iff_iff, zba, zba]; grind [StateP, SaidAt])
          ·try simp [zba, zbb, zbf, zbd] at hc5
           all_goals
            refine zbn ?_
            refine zbq ?_
            refine zc3 rfl rfl fun K hK => ?_
            simp (disch := omega) [zbk, gE, tP, DtState.cells, DtCatalog.cells, DtSaid.cells, zba, zbb]
            repeat' first | (exfalso; omega) | (refine ⟨fun _ => ?_, fun _ => ?_⟩) | (refine ⟨by omega, ?_⟩) | (intro _)
            all_goals (refine hK _ ?_; clear hK K)
            all_goals
             refine ⟨_, LeS.ko [(1, .ptr 32 0), (6, .sl 3 (s.fSaid.map DtSaid.cells)), (7, (.g (.int .i64 ((s.fSaid.length : Nat))))), (8, (.g (.int .i64 (((i + 1) : Nat)))))] [(32, .cells (DtState.cells s))] (by simp [KpE, zbe, zbu, zbc, DtState.cells, DtCatalog.cells]; try rfl) (by simp [KpO, zbe, zbc, zbh, zcf, DtState.cells, DtCatalog.cells]; try rfl) (by rfl) (by simp) (by rfl), _, ?_, i + 1, rfl, ?_, rfl⟩
             ·omega
             ·refine ⟨by omega, ?_⟩; clear hg'; grind [SaidAt]
     ·try simp [zba, zbb, zbf, zbd] at hc4
      all_goals
       refine zb5 ?_
       refine zbq ?_
       refine AW_r rfl rfl fun K hK => ?_
       simp (disch := omega) [zbk, gE, tP, DtState.cells, DtCatalog.cells, DtSaid.cells, zba, zbb]
       repeat' first | (exfalso; omega) | (refine zc9 (zbi (zb9 rfl) zbt) (zlq _ (by omega)) rfl ?_; simp (disch := omega) [zbk, gE, tP, DtState.cells, DtCatalog.cells, DtSaid.cells, zba, zbb]) | (refine ⟨fun _ => ?_, fun _ => ?_⟩) | (refine ⟨by omega, ?_⟩) | (intro _)
       all_goals (refine hK _ ?_; clear hK K)
       all_goals
        refine zbo (zb7 ?_)
        simp (disch := omega) [zbk, gE, tP, DtState.cells, DtCatalog.cells, DtSaid.cells, zba, zbb]
        all_goals first | grind [StateP, SaidAt] | (refine zc6 fun h => ?_; grind [StateP, SaidAt]) | (refine zcc ?_; grind [StateP, SaidAt]) | (rw [Bool.eq_iff_iff, zba, zba]; grind [StateP, SaidAt])
end Go.Proofs.Ytmheohnbkaoipaa.Vs
