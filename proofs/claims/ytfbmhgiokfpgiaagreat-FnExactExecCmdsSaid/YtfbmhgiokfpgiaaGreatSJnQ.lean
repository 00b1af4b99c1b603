import Derived.Test.YtfbmhgiokfpgiaaGreatSGrV
open Go Go.Proofs Go.Proofs.YtfbmhgiokfpgiaaGreat.Vs
namespace Go.Proofs.YtfbmhgiokfpgiaaGreat.Vs
set_option linter.all false
set_option linter.unusedSimpArgs false
set_option linter.unusedVariables false
set_option maxRecDepth 100000
theorem jn_stop (a b : List DtId) (i j : Nat) (hj : j < b.length) (hn : ∀ h : i < a.length, ¬ idLt a[i] b[j]) : (∀ h : i < a.length, (a[i].fRep = b[j].fRep ∧ a[i].fSlot = b[j].fSlot) → jn (a.drop i) (b.drop j) = b[j] :: jn (a.drop (i + 1)) (b.drop (j + 1))) ∧ ((∀ h : i < a.length, ¬ (a[i].fRep = b[j].fRep ∧ a[i].fSlot = b[j].fSlot)) → jn (a.drop i) (b.drop j) = b[j] :: jn (a.drop i) (b.drop (j + 1))) := by
 have e2 := List.drop_eq_getElem_cons hj
 constructor
 ·intro h e
  rw [List.drop_eq_getElem_cons h, e2, jn_ge (hn h), zle, zcl ((zgo _ _).mpr e)]
  rfl
 ·intro h
  by_cases hi : i < a.length
  ·rw [List.drop_eq_getElem_cons hi, e2, jn_ge (hn hi), zle, zci (fun e => h hi ((zgo _ _).mp e))]
   rfl
  ·rw [List.drop_of_length_le (by omega), e2, jn_0]
theorem jn_go (a b : List DtId) (i j : Nat) (hi : i < a.length) (hj : j < b.length) (h : idLt a[i] b[j]) : jn (a.drop i) (b.drop j) = a[i] :: jn (a.drop (i + 1)) (b.drop j) := by
 rw [List.drop_eq_getElem_cons hi, List.drop_eq_getElem_cons hj, jn_lt h]
theorem zfp (a b : List DtId) (ha : a.length ≤ 1000) (hb : b.length ≤ 1000) : PCall Tryz.prog 76 [.sl 2 (a.map DtId.cells), .sl 2 (b.map DtId.cells)] (.sl 2 ((jn a b).map DtId.cells)) := by
 refine zbz Tryz.func76 (by rfl) (by rfl) (by rw [Tryz.ntmps76]; exact Nat.le_of_ble_eq_true rfl) rfl (by decide) ?_
 rw [Tryz.ntmps76]
 refine AW_k [(0, _), (1, _)] ⟨rfl, rfl, trivial⟩ ?_
 refine AW_r rfl rfl fun K hK => ?_
 simp (disch := omega) [zbd, gE, tP, DtId.cells, zbx, aNews, aAppend, aBuildSlice, chunks, tkm, zba]
 repeat' first | (simp (disch := omega) only [gE]; try simp (disch := omega) [zbd, gE, tP, DtId.cells, zbx, aNews, aAppend, aBuildSlice, chunks, tkm, zba]) | (refine ⟨by omega, ?_⟩) | (intro _)
 refine hK _ ?_; clear hK K
 refine AW_r rfl rfl fun K hK => ?_
 simp (disch := omega) [zbd, gE, tP, DtId.cells, zbx, aNews, aAppend, aBuildSlice, chunks, tkm, zba]
 repeat' first | (simp (disch := omega) only [gE]; try simp (disch := omega) [zbd, gE, tP, DtId.cells, zbx, aNews, aAppend, aBuildSlice, chunks, tkm, zba]) | (refine ⟨by omega, ?_⟩) | (intro _)
 refine hK _ ?_; clear hK K
 refine AW_r rfl rfl fun K hK => ?_
 simp (disch := omega) [zbd, gE, tP, DtId.cells, zbx, aNews, aAppend, aBuildSlice, chunks, tkm, zba]
 repeat' first | (simp (disch := omega) only [gE]; try simp (disch := omega) [zbd, gE, tP, DtId.cells, zbx, aNews, aAppend, aBuildSlice, chunks, tkm, zba]) | (refine ⟨by omega, ?_⟩) | (intro _)
 refine hK _ ?_; clear hK K
 refine zbr ?_
 refine AW_r rfl rfl fun K hK => ?_
 simp (disch := omega) [zbd, gE, tP, DtId.cells, zbx, aNews, aAppend, aBuildSlice, chunks, tkm, zba]
 repeat' first | (simp (disch := omega) only [gE]; try simp (disch := omega) [zbd, gE, tP, DtId.cells, zbx, aNews, aAppend, aBuildSlice, chunks, tkm, zba]) | (refine ⟨by omega, ?_⟩) | (intro _)
 refine hK _ ?_; clear hK K
 refine zb0 ?_
 refine zcf (fun mM sS => ∃ (j : Nat) (i : Nat) (o : List DtId), mM = b.length - j ∧ (j ≤ b.length ∧ i ≤ a.length ∧ o.length ≤ i + j ∧ o ++ jn (a.drop i) (b.drop j) = jn a b) ∧ sS = { env := lkE [(0, .sl 2 (a.map DtId.cells)), (1, .sl 2 (b.map DtId.cells)), (5, .arr 144 0 o.length), (6, (.g (.int .i64 ((i : Nat))))), (7, (.g (.int .i64 ((j : Nat)))))], ob := lk [(144, .flat 2 (o.map DtId.cells))] }) ?_ ?_
 ·refine ⟨_, LeS.kr [(144, 144)] [(0, .sl 2 (a.map DtId.cells)), (1, .sl 2 (b.map DtId.cells)), (5, .arr 144 0 ([]).length), (6, (.g (.int .i64 (((0) : Nat))))), (7, (.g (.int .i64 (((0) : Nat)))))] [(144, .flat 2 (([]).map DtId.cells))] (by simp [KpR, renV2, renV, zbl, zb5, zbi, zbp, DtId.cells]; try rfl) (by simp [KpOR, renO, renV, zbl, zbi, zbp, zcj, DtId.cells]; try (simp [DtId.cells]; done)) (by rfl) (by rfl) (by simp) (by simp) (by rfl) (by simp [forms]), _, 0, 0, [], rfl, ?_, rfl⟩
  ·try simp
 ·rintro mM sS ⟨j, i, o, rfl, ⟨hj, hi, hol, hjn⟩, rfl⟩
  refine zbr ?_
  refine AW_r rfl rfl fun K hK => ?_
  simp (disch := omega) [zbd, gE, tP, DtId.cells, zbx, aNews, aAppend, aBuildSlice, chunks, tkm, zba]
  repeat' first | (simp (disch := omega) only [gE]; try simp (disch := omega) [zbd, gE, tP, DtId.cells, zbx, aNews, aAppend, aBuildSlice, chunks, tkm, zba]) | (refine ⟨by omega, ?_⟩) | (intro _)
  refine hK _ ?_; clear hK K
  refine zbu rfl (fun hc1 => ?_) (fun hc1 => ?_)
  ·try simp [zbc, zbb, zbg, zbf, zbq, zbt] at hc1
   all_goals
    refine zbv ?_
    refine zb4 ?_
    refine zbr ?_
    refine zb0 ?_
    refine zbr ?_
    refine zb0 ?_
    refine zcf (fun mM sS => ∃ (i2 : Nat) (o2 : List DtId), mM = a.length - i2 ∧ (i2 ≤ a.length ∧ o2.length ≤ i2 + j ∧ o2 ++ jn (a.drop i2) (b.drop j) = jn a b) ∧ sS = { env := lkE [(0, .sl 2 (a.map DtId.cells)), (1, .sl 2 (b.map DtId.cells)), (5, .arr 144 0 o2.length), (6, (.g (.int .i64 ((i2 : Nat))))), (7, (.g (.int .i64 ((j : Nat)))))], ob := lk [(144, .flat 2 (o2.map DtId.cells))] }) ?_ ?_
    ·refine ⟨_, LeS.kr [(144, 144)] [(0, .sl 2 (a.map DtId.cells)), (1, .sl 2 (b.map DtId.cells)), (5, .arr 144 0 (o).length), (6, (.g (.int .i64 (((i) : Nat))))), (7, (.g (.int .i64 ((j : Nat)))))] [(144, .flat 2 ((o).map DtId.cells))] (by simp [KpR, renV2, renV, zbl, zb5, zbi, zbp, DtId.cells]; try rfl) (by simp [KpOR, renO, renV, zbl, zbi, zbp, zcj, DtId.cells]; try (simp [DtId.cells]; done)) (by rfl) (by rfl) (by simp) (by simp) (by rfl) (by simp [forms]), _, i, o, rfl, ?_, rfl⟩
     ·exact ⟨hi, hol, hjn⟩
    ·rintro mM sS ⟨i2, o2, rfl, ⟨hi2, ho2, hj2⟩, rfl⟩
     refine zbr ?_
     refine AW_q rfl mix (by kernel_rfl) rfl fun K hK => ?_
     simp (disch := omega) [zbd, gE, tP, DtId.cells, zbx, aNews, aAppend, aBuildSlice, chunks, tkm, zba]
     repeat' first | (exfalso; omega) | (simp (disch := omega) only [gE]; try simp (disch := omega) [zbd, gE, tP, DtId.cells, zbx, aNews, aAppend, aBuildSlice, chunks, tkm, zba]) | (refine zco (zbh (zcb rfl) (zbh (zcb rfl) zbs)) (l8Less _ _) rfl ?_; simp (disch := omega) [zbd, gE, tP, DtId.cells, zbx, aNews, aAppend, aBuildSlice, chunks, tkm, zba]) | (refine ⟨fun _ => ?_, fun _ => ?_⟩) | (refine ⟨by omega, ?_⟩) | (intro _)
     all_goals (refine hK _ ?_; clear hK K)
     all_goals
      refine zbu rfl (fun hc2 => ?_) (fun hc2 => ?_)
      ·try simp [zbc, zbb, zbg, zbf, zbq, zbt] at hc2
       all_goals
        refine zbv ?_
        refine zb4 ?_
        refine zb0 ?_
        refine AW_r rfl rfl fun K hK => ?_
        simp (disch := omega) [zbd, gE, tP, DtId.cells, zbx, aNews, aAppend, aBuildSlice, chunks, tkm, zba]
        repeat' first | (exfalso; omega) | (simp (disch := omega) only [gE]; try simp (disch := omega) [zbd, gE, tP, DtId.cells, zbx, aNews, aAppend, aBuildSlice, chunks, tkm, zba]) | (refine ⟨fun _ => ?_, fun _ => ?_⟩) | (refine ⟨by omega, ?_⟩) | (intro _)
        all_goals (refine hK _ ?_; clear hK K)
        all_goals
         refine zdi rfl rfl fun K hK => ?_
         simp (disch := omega) [zbd, gE, tP, DtId.cells, zbx, aNews, aAppend, aBuildSlice, chunks, tkm, zba]
         repeat' first | (simp (disch := omega) only [gE]; try simp (disch := omega) [zbd, gE, tP, DtId.cells, zbx, aNews, aAppend, aBuildSlice, chunks, tkm, zba]) | (refine ⟨by omega, ?_⟩) | (intro _)
         refine hK _ ?_; clear hK K
         refine ⟨_, LeS.kr [(144, 592)] [(0, .sl 2 (a.map DtId.cells)), (1, .sl 2 (b.map DtId.cells)), (5, .arr 144 0 (o2 ++ [a[i2]]).length), (6, (.g (.int .i64 (((i2 + 1) : Nat))))), (7, (.g (.int .i64 ((j : Nat)))))] [(144, .flat 2 ((o2 ++ [a[i2]]).map DtId.cells))] (by simp [KpR, renV2, renV, zbl, zb5, zbi, zbp, DtId.cells]; try rfl) (by simp [KpOR, renO, renV, zbl, zbi, zbp, zcj, DtId.cells]; try (simp [DtId.cells]; done)) (by rfl) (by rfl) (by simp) (by simp) (by rfl) (by simp [forms]), _, ?_, i2 + 1, o2 ++ [a[i2]], rfl, ?_, rfl⟩
         ·omega
         ·refine ⟨by omega, by simp; omega, ?_⟩; rw [← hj2, jn_go a b i2 j (by omega) (by omega) (by assumption)]; simp
      ·try simp [zbc, zbb, zbg, zbf, zbq, zbt] at hc2
       all_goals
        have hs := jn_stop a b i2 j (by omega) (fun h => by first | (exfalso; omega) | assumption)
        refine zch ?_
        refine zb4 ?_
        refine zbr ?_
        refine AW_q rfl mix (by kernel_rfl) rfl fun K hK => ?_
        simp (disch := omega) [zbd, gE, tP, DtId.cells, zbx, aNews, aAppend, aBuildSlice, chunks, tkm, zba]
        repeat' first | (exfalso; omega) | (simp (disch := omega) only [gE]; try simp (disch := omega) [zbd, gE, tP, DtId.cells, zbx, aNews, aAppend, aBuildSlice, chunks, tkm, zba]) | (refine ⟨fun _ => ?_, fun _ => ?_⟩) | (refine ⟨by omega, ?_⟩) | (intro _)
        all_goals (refine hK _ ?_; clear hK K)
        all_goals
         refine zbu rfl (fun hc3 => ?_) (fun hc3 => ?_)
         ·try simp [zbc, zbb, zbg, zbf, zbq, zbt] at hc3
          all_goals
           refine zdi rfl rfl fun K hK => ?_
           simp (disch := omega) [zbd, gE, tP, DtId.cells, zbx, aNews, aAppend, aBuildSlice, chunks, tkm, zba]
           repeat' first | (exfalso; omega) | (simp (disch := omega) only [gE]; try simp (disch := omega) [zbd, gE, tP, DtId.cells, zbx, aNews, aAppend, aBuildSlice, chunks, tkm, zba]) | (refine ⟨fun _ => ?_, fun _ => ?_⟩) | (refine ⟨by omega, ?_⟩) | (intro _)
           all_goals (refine hK _ ?_; clear hK K)
           all_goals
            refine zb4 ?_
            refine zdi rfl rfl fun K hK => ?_
            simp (disch := omega) [zbd, gE, tP, DtId.cells, zbx, aNews, aAppend, aBuildSlice, chunks, tkm, zba]
            repeat' first | (simp (disch := omega) only [gE]; try simp (disch := omega) [zbd, gE, tP, DtId.cells, zbx, aNews, aAppend, aBuildSlice, chunks, tkm, zba]) | (refine ⟨by omega, ?_⟩) | (intro _)
            refine hK _ ?_; clear hK K
            refine zb4 ?_
            refine zdi rfl rfl fun K hK => ?_
            simp (disch := omega) [zbd, gE, tP, DtId.cells, zbx, aNews, aAppend, aBuildSlice, chunks, tkm, zba]
            repeat' first | (simp (disch := omega) only [gE]; try simp (disch := omega) [zbd, gE, tP, DtId.cells, zbx, aNews, aAppend, aBuildSlice, chunks, tkm, zba]) | (refine ⟨by omega, ?_⟩) | (intro _)
            refine hK _ ?_; clear hK K
            refine ⟨_, LeS.kr [(144, 1008)] [(0, .sl 2 (a.map DtId.cells)), (1, .sl 2 (b.map DtId.cells)), (5, .arr 144 0 (o2 ++ [b[j]]).length), (6, (.g (.int .i64 (((i2 + 1) : Nat))))), (7, (.g (.int .i64 (((j + 1) : Nat)))))] [(144, .flat 2 ((o2 ++ [b[j]]).map DtId.cells))] (by simp [KpR, renV2, renV, zbl, zb5, zbi, zbp, DtId.cells]; try rfl) (by simp [KpOR, renO, renV, zbl, zbi, zbp, zcj, DtId.cells]; try (simp [DtId.cells]; done)) (by rfl) (by rfl) (by simp) (by simp) (by rfl) (by simp [forms]), _, ?_, j + 1, i2 + 1, o2 ++ [b[j]], rfl, ?_, rfl⟩
            ·omega
            ·refine ⟨by omega, by omega, by simp; omega, ?_⟩; rw [← hj2]; first | (rw [hs.1 (by omega) (by grind)]; simp; done) | (rw [hs.2 (fun h => by first | (exfalso; omega) | grind)]; simp; done)
         ·try simp [zbc, zbb, zbg, zbf, zbq, zbt] at hc3
          all_goals
           refine zbv ?_
           refine zb4 ?_
           refine zdi rfl rfl fun K hK => ?_
           simp (disch := omega) [zbd, gE, tP, DtId.cells, zbx, aNews, aAppend, aBuildSlice, chunks, tkm, zba]
           repeat' first | (exfalso; omega) | (simp (disch := omega) only [gE]; try simp (disch := omega) [zbd, gE, tP, DtId.cells, zbx, aNews, aAppend, aBuildSlice, chunks, tkm, zba]) | (refine ⟨fun _ => ?_, fun _ => ?_⟩) | (refine ⟨by omega, ?_⟩) | (intro _)
           all_goals (refine hK _ ?_; clear hK K)
           all_goals
            refine zb4 ?_
            refine zdi rfl rfl fun K hK => ?_
            simp (disch := omega) [zbd, gE, tP, DtId.cells, zbx, aNews, aAppend, aBuildSlice, chunks, tkm, zba]
            repeat' first | (simp (disch := omega) only [gE]; try simp (disch := omega) [zbd, gE, tP, DtId.cells, zbx, aNews, aAppend, aBuildSlice, chunks, tkm, zba]) | (refine ⟨by omega, ?_⟩) | (intro _)
            refine hK _ ?_; clear hK K
            refine ⟨_, LeS.kr [(144, 1008)] [(0, .sl 2 (a.map DtId.cells)), (1, .sl 2 (b.map DtId.cells)), (5, .arr 144 0 (o2 ++ [b[j]]).length), (6, (.g (.int .i64 (((i2) : Nat))))), (7, (.g (.int .i64 (((j + 1) : Nat)))))] [(144, .flat 2 ((o2 ++ [b[j]]).map DtId.cells))] (by simp [KpR, renV2, renV, zbl, zb5, zbi, zbp, DtId.cells]; try rfl) (by simp [KpOR, renO, renV, zbl, zbi, zbp, zcj, DtId.cells]; try (simp [DtId.cells]; done)) (by rfl) (by rfl) (by simp) (by simp) (by rfl) (by simp [forms]), _, ?_, j + 1, i2, o2 ++ [b[j]], rfl, ?_, rfl⟩
            ·omega
            ·refine ⟨by omega, by omega, by simp; omega, ?_⟩; rw [← hj2]; first | (rw [hs.1 (by omega) (by grind)]; simp; done) | (rw [hs.2 (fun h => by first | (exfalso; omega) | grind)]; simp; done)
  ·try simp [zbc, zbb, zbg, zbf, zbq, zbt] at hc1
   all_goals
    refine zch ?_
    refine zb4 ?_
    refine AW_r rfl rfl fun K hK => ?_
    simp (disch := omega) [zbd, gE, tP, DtId.cells, zbx, aNews, aAppend, aBuildSlice, chunks, tkm, zba]
    repeat' first | (exfalso; omega) | (simp (disch := omega) only [gE]; try simp (disch := omega) [zbd, gE, tP, DtId.cells, zbx, aNews, aAppend, aBuildSlice, chunks, tkm, zba]) | (refine ⟨fun _ => ?_, fun _ => ?_⟩) | (refine ⟨by omega, ?_⟩) | (intro _)
    all_goals (refine hK _ ?_; clear hK K)
    all_goals
     refine zby (zcd ?_)
     simp (disch := omega) [zbd, gE, tP, DtId.cells, zbx, aNews, aAppend, aBuildSlice, chunks, tkm, zba]
     all_goals ((have e : j = b.length := by omega); subst e; rw [List.drop_length, jn_n] at hjn; rw [← hjn]; simp [List.take_of_length_le])
end Go.Proofs.YtfbmhgiokfpgiaaGreat.Vs
