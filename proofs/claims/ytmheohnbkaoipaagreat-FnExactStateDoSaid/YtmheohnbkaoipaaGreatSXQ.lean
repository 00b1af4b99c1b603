import Derived.Test.YtmheohnbkaoipaaGreatSKQ
open Go Go.Proofs Go.Proofs.YtmheohnbkaoipaaGreat.Vs
namespace Go.Proofs.YtmheohnbkaoipaaGreat.Vs
set_option linter.all false
set_option linter.unusedSimpArgs false
set_option linter.unusedVariables false
set_option maxRecDepth 100000
def SaidAt (l : List DtSaid) (i : Nat) (x : DtSaid) : Prop := 1 ≤ x.fClient ∧ x.fClient ≤ 9 ∧ 1 ≤ x.fNo ∧ x.fNo ≤ 1000 ∧ ∀ y, 0 < i → l[i - 1]? = some y → y.fClient < x.fClient
def StateP (s : DtState) : Prop := CatP s.fCat ∧ ∀ (i : Nat) x, s.fSaid[i]? = some x → SaidAt s.fSaid i x
theorem zjw (s : DtState) (hs : DtState.sz s ≤ 1048576) : DtCatalog.sz s.fCat ≤ 1048576 ∧ s.fSaid.length ≤ 1048576 := by
 have h0 := zb9 DtSaid.sz_nonneg s.fSaid
 have h1 := DtCatalog.sz_nonneg s.fCat
 simp only [DtState.sz, szS] at hs
 omega
theorem zl1 (s : DtState) (hs : DtState.sz s ≤ 1048576) : PCall Tryz.prog 18 [.agg (DtState.cells s)] (.g (.bool (decB (StateP s)))) := by
 have ⟨hz, hl⟩ := zjw s hs
 refine zbu Tryz.func18 (by rfl) (by rfl) (by rw [Tryz.ntmps18]; exact Nat.le_of_ble_eq_true rfl) rfl (by decide) ?_
 rw [Tryz.ntmps18]
 refine AW_k [(0, _)] ⟨rfl, trivial⟩ ?_
 refine AW_r rfl rfl fun K hK => ?_
 simp (disch := omega) [zbi, gE, tP, DtState.cells, DtCatalog.cells, DtSaid.cells, zba, zbb]
 repeat' first | (exfalso; omega) | (refine ⟨fun _ => ?_, fun _ => ?_⟩) | (refine ⟨by omega, ?_⟩) | (intro _)
 all_goals (refine hK _ ?_; clear hK K)
 all_goals
  refine zbm ?_
  refine AW_r rfl rfl fun K hK => ?_
  simp (disch := omega) [zbi, gE, tP, DtState.cells, DtCatalog.cells, DtSaid.cells, zba, zbb]
  repeat' first | (exfalso; omega) | (refine zcx (zbh (zbz rfl) zbs) (zlz _ (by omega)) rfl ?_; simp (disch := omega) [zbi, gE, tP, DtState.cells, DtCatalog.cells, DtSaid.cells, zba, zbb]) | (refine ⟨fun _ => ?_, fun _ => ?_⟩) | (refine ⟨by omega, ?_⟩) | (intro _)
  all_goals (refine hK _ ?_; clear hK K)
  all_goals
   refine zbl rfl (fun hc1 => ?_) (fun hc1 => ?_)
   ·try simp [zba, zbb, zbf, zbd] at hc1
    all_goals
     refine AW_r rfl rfl fun K hK => ?_
     simp (disch := omega) [zbi, gE, tP, DtState.cells, DtCatalog.cells, DtSaid.cells, zba, zbb]
     repeat' first | (exfalso; omega) | (refine ⟨fun _ => ?_, fun _ => ?_⟩) | (refine ⟨by omega, ?_⟩) | (intro _)
     all_goals (refine hK _ ?_; clear hK K)
     all_goals
      refine zbo (zb4 ?_)
      simp (disch := omega) [zbi, gE, tP, DtState.cells, DtCatalog.cells, DtSaid.cells, zba, zbb]
      all_goals first | grind [StateP, SaidAt] | (refine zdp fun h => ?_; grind [StateP, SaidAt]) | (refine zck ?_; grind [StateP, SaidAt])
   ·try simp [zba, zbb, zbf, zbd] at hc1
    all_goals
     refine zbn ?_
     refine zbq ?_
     refine zbm ?_
     refine AW_r rfl rfl fun K hK => ?_
     simp (disch := omega) [zbi, gE, tP, DtState.cells, DtCatalog.cells, DtSaid.cells, zba, zbb]
     repeat' first | (exfalso; omega) | (refine ⟨fun _ => ?_, fun _ => ?_⟩) | (refine ⟨by omega, ?_⟩) | (intro _)
     all_goals (refine hK _ ?_; clear hK K)
     all_goals
      refine zbt ?_
      refine zb5 (fun mM sS => ∃ (i : Nat), mM = s.fSaid.length - i ∧ (i ≤ s.fSaid.length ∧ ∀ (j : Nat) x, j < i → s.fSaid[j]? = some x → SaidAt s.fSaid j x) ∧ sS = { env := lkE [(1, .ptr 32 0), (3, (.g (.int .i64 ((i : Nat)))))], ob := lk [(32, .cells (DtState.cells s))] }) ?_ ?_
      ·refine ⟨_, LeS.ko [(1, .ptr 32 0), (3, (.g (.int .i64 (((0) : Nat)))))] [(32, .cells (DtState.cells s))] (by simp [KpE, zbe, zbv, zbc, DtState.cells, DtCatalog.cells]; try rfl) (by simp [KpO, zbe, zbc, zbj, zcl, DtState.cells, DtCatalog.cells]; try rfl) (by rfl) (by simp) (by rfl), _, 0, rfl, ?_, rfl⟩
       ·simp
      ·rintro mM sS ⟨i, rfl, ⟨hi, hpre⟩, rfl⟩
       refine zbm ?_
       refine AW_r rfl rfl fun K hK => ?_
       simp (disch := omega) [zbi, gE, tP, DtState.cells, DtCatalog.cells, DtSaid.cells, zba, zbb]
       repeat' first | (exfalso; omega) | (refine ⟨fun _ => ?_, fun _ => ?_⟩) | (refine ⟨by omega, ?_⟩) | (intro _)
       all_goals (refine hK _ ?_; clear hK K)
       all_goals
        refine zbl rfl (fun hc2 => ?_) (fun hc2 => ?_)
        ·try simp [zba, zbb, zbf, zbd] at hc2
         all_goals
          have hg : s.fSaid[i]? = some s.fSaid[i] := List.getElem?_eq_getElem (by omega)
          have hg' : s.fSaid[i - 1]? = some s.fSaid[i - 1] := List.getElem?_eq_getElem (by omega)
          rcases Nat.eq_zero_or_pos i with hi0 | hi0
          all_goals
           refine zbn ?_
           refine zbq ?_
           refine zbm ?_
           refine zbt ?_
           refine AW_r rfl rfl fun K hK => ?_
           simp (disch := omega) [zbi, gE, tP, DtState.cells, DtCatalog.cells, DtSaid.cells, zba, zbb]
           repeat' first | (exfalso; omega) | (refine ⟨fun _ => ?_, fun _ => ?_⟩) | (refine ⟨by omega, ?_⟩) | (intro _)
           all_goals (refine hK _ ?_; clear hK K)
           all_goals
            refine AW_q rfl mix (by kernel_rfl) rfl fun K hK => ?_
            simp (disch := omega) [zbi, gE, tP, DtState.cells, DtCatalog.cells, DtSaid.cells, zba, zbb]
            repeat' first | (exfalso; omega) | (refine zcx (zbh zcp (zbh zcp (zbh zcp zbs))) (l1In _ _ _) rfl ?_; simp (disch := omega) [zbi, gE, tP, DtState.cells, DtCatalog.cells, DtSaid.cells, zba, zbb]) | (refine ⟨fun _ => ?_, fun _ => ?_⟩) | (refine ⟨by omega, ?_⟩) | (intro _)
            all_goals (refine hK _ ?_; clear hK K)
            all_goals
             refine zbl rfl (fun hc3 => ?_) (fun hc3 => ?_)
             ·try simp [zba, zbb, zbf, zbd] at hc3
              all_goals
               refine AW_r rfl rfl fun K hK => ?_
               simp (disch := omega) [zbi, gE, tP, DtState.cells, DtCatalog.cells, DtSaid.cells, zba, zbb]
               repeat' first | (exfalso; omega) | (refine ⟨fun _ => ?_, fun _ => ?_⟩) | (refine ⟨by omega, ?_⟩) | (intro _)
               all_goals (refine hK _ ?_; clear hK K)
               all_goals
                refine zbo (zb4 ?_)
                simp (disch := omega) [zbi, gE, tP, DtState.cells, DtCatalog.cells, DtSaid.cells, zba, zbb]
                all_goals first | grind [StateP, SaidAt] | (refine zdp fun h => ?_; grind [StateP, SaidAt]) | (refine zck ?_; grind [StateP, SaidAt])
             ·try simp [zba, zbb, zbf, zbd] at hc3
              all_goals
               refine zbn ?_
               refine zbq ?_
               refine zc6 rfl rfl fun K hK => ?_
               simp (disch := omega) [zbi, gE, tP, DtState.cells, DtCatalog.cells, DtSaid.cells, zba, zbb]
               repeat' first | (exfalso; omega) | (refine ⟨fun _ => ?_, fun _ => ?_⟩) | (refine ⟨by omega, ?_⟩) | (intro _)
               all_goals (refine hK _ ?_; clear hK K)
               all_goals
                refine ⟨_, LeS.ko [(1, .ptr 32 0), (3, (.g (.int .i64 (((i + 1) : Nat)))))] [(32, .cells (DtState.cells s))] (by simp [KpE, zbe, zbv, zbc, DtState.cells, DtCatalog.cells]; try rfl) (by simp [KpO, zbe, zbc, zbj, zcl, DtState.cells, DtCatalog.cells]; try rfl) (by rfl) (by simp) (by rfl), _, ?_, i + 1, rfl, ?_, rfl⟩
                ·omega
                ·refine ⟨by omega, ?_⟩; clear hg'; grind [SaidAt]
        ·try simp [zba, zbb, zbf, zbd] at hc2
         all_goals
          refine zb7 ?_
          refine zbq ?_
          refine AW_r rfl rfl fun K hK => ?_
          simp (disch := omega) [zbi, gE, tP, DtState.cells, DtCatalog.cells, DtSaid.cells, zba, zbb]
          repeat' first | (exfalso; omega) | (refine ⟨fun _ => ?_, fun _ => ?_⟩) | (refine ⟨by omega, ?_⟩) | (intro _)
          all_goals (refine hK _ ?_; clear hK K)
          all_goals
           refine zbo (zb4 ?_)
           simp (disch := omega) [zbi, gE, tP, DtState.cells, DtCatalog.cells, DtSaid.cells, zba, zbb]
           all_goals first | grind [StateP, SaidAt] | (refine zdp fun h => ?_; grind [StateP, SaidAt]) | (refine zck ?_; grind [StateP, SaidAt])
theorem zl2 (s : DtState) (hs : DtState.sz s ≤ 1048576) : PCall Tryz.prog 27 [.agg (DtState.cells s)] (.g (.bool (decB (StateP s)))) := by
 have ⟨hz, hl⟩ := zjw s hs
 refine zbu Tryz.func27 (by rfl) (by rfl) (by rw [Tryz.ntmps27]; exact Nat.le_of_ble_eq_true rfl) rfl (by decide) ?_
 rw [Tryz.ntmps27]
 refine AW_k [(0, _)] ⟨rfl, trivial⟩ ?_
 refine AW_r rfl rfl fun K hK => ?_
 simp (disch := omega) [zbi, gE, tP, DtState.cells, DtCatalog.cells, DtSaid.cells, zba, zbb]
 repeat' first | (exfalso; omega) | (refine ⟨fun _ => ?_, fun _ => ?_⟩) | (refine ⟨by omega, ?_⟩) | (intro _)
 all_goals (refine hK _ ?_; clear hK K)
 all_goals
  refine zbm ?_
  refine AW_r rfl rfl fun K hK => ?_
  simp (disch := omega) [zbi, gE, tP, DtState.cells, DtCatalog.cells, DtSaid.cells, zba, zbb]
  repeat' first | (exfalso; omega) | (refine ⟨fun _ => ?_, fun _ => ?_⟩) | (refine ⟨by omega, ?_⟩) | (intro _)
  all_goals (refine hK _ ?_; clear hK K)
  all_goals
   refine zbt ?_
   refine zb5 (fun mM sS => ∃ (i : Nat), mM = s.fSaid.length - i ∧ (i ≤ s.fSaid.length ∧ ∀ (j : Nat) x, j < i → s.fSaid[j]? = some x → SaidAt s.fSaid j x) ∧ sS = { env := lkE [(1, .ptr 32 0), (6, .sl 3 (s.fSaid.map DtSaid.cells)), (7, (.g (.int .i64 ((s.fSaid.length : Nat))))), (8, (.g (.int .i64 ((i : Nat)))))], ob := lk [(32, .cells (DtState.cells s))] }) ?_ ?_
   ·refine ⟨_, LeS.ko [(1, .ptr 32 0), (6, .sl 3 (s.fSaid.map DtSaid.cells)), (7, (.g (.int .i64 ((s.fSaid.length : Nat))))), (8, (.g (.int .i64 (((0) : Nat)))))] [(32, .cells (DtState.cells s))] (by simp [KpE, zbe, zbv, zbc, DtState.cells, DtCatalog.cells]; try rfl) (by simp [KpO, zbe, zbc, zbj, zcl, DtState.cells, DtCatalog.cells]; try rfl) (by rfl) (by simp) (by rfl), _, 0, rfl, ?_, rfl⟩
    ·simp
   ·rintro mM sS ⟨i, rfl, ⟨hi, hpre⟩, rfl⟩
    refine AW_r rfl rfl fun K hK => ?_
    simp (disch := omega) [zbi, gE, tP, DtState.cells, DtCatalog.cells, DtSaid.cells, zba, zbb]
    repeat' first | (exfalso; omega) | (refine ⟨fun _ => ?_, fun _ => ?_⟩) | (refine ⟨by omega, ?_⟩) | (intro _)
    all_goals (refine hK _ ?_; clear hK K)
    all_goals
     refine zbm ?_
     refine zbl rfl (fun hc4 => ?_) (fun hc4 => ?_)
     ·try simp [zba, zbb, zbf, zbd] at hc4
      all_goals
       have hg : s.fSaid[i]? = some s.fSaid[i] := List.getElem?_eq_getElem (by omega)
       have hg' : s.fSaid[i - 1]? = some s.fSaid[i - 1] := List.getElem?_eq_getElem (by omega)
       rcases Nat.eq_zero_or_pos i with hi0 | hi0
       all_goals
        refine zbn ?_
        refine zbq ?_
        refine zbm ?_
        refine zbt ?_
        refine AW_r rfl rfl fun K hK => ?_
        simp (disch := omega) [zbi, gE, tP, DtState.cells, DtCatalog.cells, DtSaid.cells, zba, zbb]
        repeat' first | (exfalso; omega) | (refine ⟨fun _ => ?_, fun _ => ?_⟩) | (refine ⟨by omega, ?_⟩) | (intro _)
        all_goals (refine hK _ ?_; clear hK K)
        all_goals
         refine AW_q rfl mix (by kernel_rfl) rfl fun K hK => ?_
         simp (disch := omega) [zbi, gE, tP, DtState.cells, DtCatalog.cells, DtSaid.cells, zba, zbb]
         repeat' first | (exfalso; omega) | (refine zcx (zbh zcp (zbh zcp (zbh zcp zbs))) (znf _ _ _) rfl ?_; simp (disch := omega) [zbi, gE, tP, DtState.cells, DtCatalog.cells, DtSaid.cells, zba, zbb]) | (refine ⟨fun _ => ?_, fun _ => ?_⟩) | (refine ⟨by omega, ?_⟩) | (intro _)
         all_goals (refine hK _ ?_; clear hK K)
         all_goals
          refine zbl rfl (fun hc5 => ?_) (fun hc5 => ?_)
          ·try simp [zba, zbb, zbf, zbd] at hc5
           all_goals
            refine AW_r rfl rfl fun K hK => ?_
            simp (disch := omega) [zbi, gE, tP, DtState.cells, DtCatalog.cells, DtSaid.cells, zba, zbb]
            repeat' first | (exfalso; omega) | (refine ⟨fun _ => ?_, fun _ => ?_⟩) | (refine ⟨by omega, ?_⟩) | (intro _)
            all_goals (refine hK _ ?_; clear hK K)
            all_goals
             refine zbo (zb4 ?_)
             simp (disch := omega) [zbi, gE, tP, DtState.cells, DtCatalog.cells, DtSaid.cells, zba, zbb]
             all_goals first | grind [StateP, SaidAt] | (refine zdp fun h => ?_; grind [StateP, SaidAt]) | (refine zck ?_; grind [StateP, SaidAt]) | (rw [Bool.eq_iff_iff, zba, zba]; grind [StateP, SaidAt])
          ·try simp [zba, zbb, zbf, zbd] at hc5
           all_goals
            refine zbn ?_
            refine zbq ?_
            refine zc6 rfl rfl fun K hK => ?_
            simp (disch := omega) [zbi, gE, tP, DtState.cells, DtCatalog.cells, DtSaid.cells, zba, zbb]
            repeat' first | (exfalso; omega) | (refine ⟨fun _ => ?_, fun _ => ?_⟩) | (refine ⟨by omega, ?_⟩) | (intro _)
            all_goals (refine hK _ ?_; clear hK K)
            all_goals
             refine ⟨_, LeS.ko [(1, .ptr 32 0), (6, .sl 3 (s.fSaid.map DtSaid.cells)), (7, (.g (.int .i64 ((s.fSaid.length : Nat))))), (8, (.g (.int .i64 (((i + 1) : Nat)))))] [(32, .cells (DtState.cells s))] (by simp [KpE, zbe, zbv, zbc, DtState.cells, DtCatalog.cells]; try rfl) (by simp [KpO, zbe, zbc, zbj, zcl, DtState.cells, DtCatalog.cells]; try rfl) (by rfl) (by simp) (by rfl), _, ?_, i + 1, rfl, ?_, rfl⟩
             ·omega
             ·refine ⟨by omega, ?_⟩; clear hg'; grind [SaidAt]
     ·try simp [zba, zbb, zbf, zbd] at hc4
      all_goals
       refine zb7 ?_
       refine zbq ?_
       refine AW_r rfl rfl fun K hK => ?_
       simp (disch := omega) [zbi, gE, tP, DtState.cells, DtCatalog.cells, DtSaid.cells, zba, zbb]
       repeat' first | (exfalso; omega) | (refine zcx (zbh (zbz rfl) zbs) (zl0 _ (by omega)) rfl ?_; simp (disch := omega) [zbi, gE, tP, DtState.cells, DtCatalog.cells, DtSaid.cells, zba, zbb]) | (refine ⟨fun _ => ?_, fun _ => ?_⟩) | (refine ⟨by omega, ?_⟩) | (intro _)
       all_goals (refine hK _ ?_; clear hK K)
       all_goals
        refine zbo (zb4 ?_)
        simp (disch := omega) [zbi, gE, tP, DtState.cells, DtCatalog.cells, DtSaid.cells, zba, zbb]
        all_goals first | grind [StateP, SaidAt] | (refine zdp fun h => ?_; grind [StateP, SaidAt]) | (refine zck ?_; grind [StateP, SaidAt]) | (rw [Bool.eq_iff_iff, zba, zba]; grind [StateP, SaidAt])
end Go.Proofs.YtmheohnbkaoipaaGreat.Vs
