import Derived.Test.YtfbmhgiokfpgiaaSRyQ
open Go Go.Proofs Go.Proofs.Ytfbmhgiokfpgiaa.Vs
namespace Go.Proofs.Ytfbmhgiokfpgiaa.Vs
set_option linter.all false
set_option linter.unusedSimpArgs false
set_option linter.unusedVariables false
set_option maxRecDepth 100000
theorem zrc (l : List DtInst) (hs : szS DtInst.sz l ≤ 1048576) (hn : l.length ≤ 1048576) (hm : ∀ x ∈ l, InstSm x) : XCall Try.prog 8 [.sl 16 (l.map DtInst.cells)] [] (.arr 16 0 (bif decB (InstsP l) then waitL l else []).length) [] [.own 2 ((bif decB (InstsP l) then waitL l else []).map DtId.cells)] := by
 by_cases hp : InstsP l
 ·have hpb := zct hp
  refine zcd Try.func8 (by rfl) (by rfl) (by rw [Try.ntmps8]; exact Nat.le_of_ble_eq_true rfl) rfl (by simp) rfl rfl ?_
  rw [Try.ntmps8]
  refine zh3   ?_
  refine AW_k [(0, _)] ⟨rfl, trivial⟩ ?_
  refine AW_x rfl rfl fun K hK => ?_
  simp (disch := omega) [zbc, gE, tP, DtInst.cells, DtCmd.cells, DtId.cells, zbd, zbi, and_assoc, zba, zbb]
  repeat' first | (refine ⟨by omega, ?_⟩) | (intro _)
  refine hK _ ?_; clear hK K
  refine zbo ?_
  refine AW_x rfl rfl fun K hK => ?_
  simp (disch := omega) [zbc, gE, tP, DtInst.cells, DtCmd.cells, DtId.cells, zbd, zbi, and_assoc, zba, zbb]
  repeat' first | (exfalso; omega) | (refine zdu (zbg zb9 zbn) (zc2 _ (by assumption)) rfl ?_; simp (disch := omega) [zbc, gE, tP, DtInst.cells, DtCmd.cells, DtId.cells, zbd, zbi, and_assoc, zba, zbb]) | (refine zdv (zc2 _ (by assumption)) (by rfl) ?_ ?_; (focus (simp (disch := omega) [zbc, gE, tP, DtInst.cells, DtCmd.cells, DtId.cells, zbd, zbi, and_assoc, zba, zbb, zbd]; done)); simp (disch := omega) [zbc, gE, tP, DtInst.cells, DtCmd.cells, DtId.cells, zbd, zbi, and_assoc, zba, zbb]) | (refine ⟨by omega, ?_⟩) | (simp (disch := omega) [zbc, gE, tP, DtInst.cells, DtCmd.cells, DtId.cells, zbd, zbi, and_assoc, zba, zbb]) | (intro _)
  refine hK _ ?_; clear hK K
  refine zbr rfl (fun hc1 => ?_) (fun hc1 => ?_)
  ·try simp [zba, zbb, zbf, zbe, zbm, zbp] at hc1
   all_goals
    refine AW_x rfl rfl fun K hK => ?_
    simp (disch := omega) [zbc, gE, tP, DtInst.cells, DtCmd.cells, DtId.cells, zbd, zbi, and_assoc, zba, zbb]
    repeat' first | (exfalso; omega) | (refine ⟨fun _ => ?_, fun _ => ?_⟩) | (refine ⟨by omega, ?_⟩) | (simp (disch := omega) [zbc, gE, tP, DtInst.cells, DtCmd.cells, DtId.cells, zbd, zbi, and_assoc, zba, zbb]) | (intro _)
    all_goals (refine hK _ ?_; clear hK K)
    all_goals
     refine zbt (zdf [500] [(500, 2)] (by simp [List.range_succ, zbj, zbu, zbl]) (by simp) ?_)
     simp (disch := omega) [zbc, gE, tP, DtInst.cells, DtCmd.cells, DtId.cells, zbd, zbi, and_assoc, zba, zbb, hpb]
     all_goals first | (exfalso; exact absurd hp (by assumption)) | (rw [zw6 l i (by omega)]; exact ⟨rfl, rfl⟩) | trace_state
  ·try simp [zba, zbb, zbf, zbe, zbm, zbp] at hc1
   all_goals
    refine zbs ?_
    refine zbx ?_
    refine AW_x rfl rfl fun K hK => ?_
    simp (disch := omega) [zbc, gE, tP, DtInst.cells, DtCmd.cells, DtId.cells, zbd, zbi, and_assoc, zba, zbb]
    repeat' first | (exfalso; omega) | (refine ⟨fun _ => ?_, fun _ => ?_⟩) | (refine ⟨by omega, ?_⟩) | (simp (disch := omega) [zbc, gE, tP, DtInst.cells, DtCmd.cells, DtId.cells, zbd, zbi, and_assoc, zba, zbb]) | (intro _)
    all_goals (refine hK _ ?_; clear hK K)
    all_goals
     refine zbo ?_
     refine AW_x rfl rfl fun K hK => ?_
     simp (disch := omega) [zbc, gE, tP, DtInst.cells, DtCmd.cells, DtId.cells, zbd, zbi, and_assoc, zba, zbb]
     repeat' first | (refine ⟨by omega, ?_⟩) | (simp (disch := omega) [zbc, gE, tP, DtInst.cells, DtCmd.cells, DtId.cells, zbd, zbi, and_assoc, zba, zbb]) | (intro _)
     refine hK _ ?_; clear hK K
     refine zbw ?_
     refine zcb (fun mM sS => ∃ (i : Nat), mM = l.length - i ∧ (i ≤ l.length) ∧ sS = { env := lkE [(0, .sl 16 (l.map DtInst.cells)), (3, .arr 501 0 (waT l i).length), (10, .sl 16 (l.map DtInst.cells)), (11, (.g (.int .i64 ((l.length : Nat))))), (12, (.g (.int .i64 ((i : Nat)))))], ob := lk [(501, .win 2 ((waT l i).map DtId.cells))] }) ?_ ?_
     ·refine ⟨_, LeS.kx [(501, 160)] [(0, .sl 16 (l.map DtInst.cells)), (3, .arr 501 0 (waT l (0)).length), (10, .sl 16 (l.map DtInst.cells)), (11, (.g (.int .i64 ((l.length : Nat))))), (12, (.g (.int .i64 (((0) : Nat)))))] [(501, .win 2 ((waT l (0)).map DtId.cells))] (by simp [KpR, renV2, renV, zbl, zbz, zbj, zbu, DtId.cells, zf4, zbi]; try (first | (rw [hsx]; done) | (rw [hsx]; simp; done))) (by simp [KpOX, renO, plO, cvO, renV, pl1, zbj, zbu, zbl, DtId.cells, zf4, zbi]; try (first | (rw [hsx]; done) | (rw [hsx]; simp [DtId.cells]; done))) (by rfl) (by simp) (by simp) (by rfl) (by simp [formsX, List.range_succ, zbj, zbu]), _, 0, rfl, ?_, rfl⟩
      ·simp
     ·rintro mM sS ⟨i, rfl, hi, rfl⟩
      have hwl := zm2 l i hi
      refine AW_x rfl rfl fun K hK => ?_
      simp (disch := omega) [zbc, gE, tP, DtInst.cells, DtCmd.cells, DtId.cells, zbd, zbi, and_assoc, zba, zbb]
      repeat' first | (refine ⟨by omega, ?_⟩) | (intro _)
      refine hK _ ?_; clear hK K
      refine zbo ?_
      refine zbr rfl (fun hc2 => ?_) (fun hc2 => ?_)
      ·try simp [zba, zbb, zbf, zbe, zbm, zbp] at hc2
       all_goals
        have hws := waT_s l i (by omega)
        have hmi := hm l[i] (List.getElem_mem _)
        refine zbs ?_
        refine zbx ?_
        refine zbo ?_
        refine zbw ?_
        refine AW_x rfl rfl fun K hK => ?_
        simp (disch := omega) [zbc, gE, tP, DtInst.cells, DtCmd.cells, DtId.cells, zbd, zbi, and_assoc, zba, zbb]
        repeat' first | (exfalso; omega) | (refine ⟨fun _ => ?_, fun _ => ?_⟩) | (refine ⟨by omega, ?_⟩) | (simp (disch := omega) [zbc, gE, tP, DtInst.cells, DtCmd.cells, DtId.cells, zbd, zbi, and_assoc, zba, zbb]) | (intro _)
        all_goals (refine hK _ ?_; clear hK K)
        all_goals
         refine AW_x rfl rfl fun K hK => ?_
         simp (disch := omega) [zbc, gE, tP, DtInst.cells, DtCmd.cells, DtId.cells, zbd, zbi, and_assoc, zba, zbb]
         repeat' first | (exfalso; omega) | (refine zgs [] true [] (zw9 l l[i].fId hs hn hm hp) ?_ ?_ ?_; (focus (simp [List.range_succ, nmC]; done)); (focus (simp (disch := omega) [zbc, gE, tP, DtInst.cells, DtCmd.cells, DtId.cells, zbd, zbi, and_assoc, zba, zbb, zbd]; done)); simp (disch := omega) [zbc, gE, tP, DtInst.cells, DtCmd.cells, DtId.cells, zbd, zbi, and_assoc, zba, zbb]) | (refine ⟨fun _ => ?_, fun _ => ?_⟩) | (refine ⟨by omega, ?_⟩) | (simp (disch := omega) [zbc, gE, tP, DtInst.cells, DtCmd.cells, DtId.cells, zbd, zbi, and_assoc, zba, zbb]) | (intro _)
         all_goals (refine hK _ ?_; clear hK K)
         all_goals
          refine zbr rfl (fun hc3 => ?_) (fun hc3 => ?_)
          ·try simp [zba, zbb, zbf, zbe, zbm, zbp] at hc3
           all_goals
            refine zdt rfl rfl fun K hK => ?_
            simp (disch := omega) [zbc, gE, tP, DtInst.cells, DtCmd.cells, DtId.cells, zbd, zbi, and_assoc, zba, zbb]
            repeat' first | (exfalso; omega) | (refine ⟨fun _ => ?_, fun _ => ?_⟩) | (refine ⟨by omega, ?_⟩) | (simp (disch := omega) [zbc, gE, tP, DtInst.cells, DtCmd.cells, DtId.cells, zbd, zbi, and_assoc, zba, zbb]) | (intro _)
            all_goals (refine hK _ ?_; clear hK K)
            all_goals
             refine zbx ?_
             refine zdt rfl rfl fun K hK => ?_
             simp (disch := omega) [zbc, gE, tP, DtInst.cells, DtCmd.cells, DtId.cells, zbd, zbi, and_assoc, zba, zbb]
             repeat' first | (refine ⟨by omega, ?_⟩) | (intro _)
             refine hK _ ?_; clear hK K
             first | have hsx := hws.1 ⟨by assumption, by assumption⟩ | have hsx := hws.2 (fun hh => by first | exact hh.2 (by assumption) | exact absurd hh.1 (by assumption))
             refine ⟨_, LeS.kx [(501, 496)] [(0, .sl 16 (l.map DtInst.cells)), (3, .arr 501 0 (waT l (i + 1)).length), (10, .sl 16 (l.map DtInst.cells)), (11, (.g (.int .i64 ((l.length : Nat))))), (12, (.g (.int .i64 (((i + 1) : Nat)))))] [(501, .win 2 ((waT l (i + 1)).map DtId.cells))] (by simp [KpR, renV2, renV, zbl, zbz, zbj, zbu, DtId.cells, zf4, zbi]; try (first | (rw [hsx]; done) | (rw [hsx]; simp; done))) (by simp [KpOX, renO, plO, cvO, renV, pl1, zbj, zbu, zbl, DtId.cells, zf4, zbi]; try (first | (rw [hsx]; done) | (rw [hsx]; simp [DtId.cells]; done))) (by rfl) (by simp) (by simp) (by rfl) (by simp [formsX, List.range_succ, zbj, zbu]), _, ?_, i + 1, rfl, ?_, rfl⟩
             ·omega
             ·omega
          ·try simp [zba, zbb, zbf, zbe, zbm, zbp] at hc3
           all_goals
            refine zbs ?_
            refine zbx ?_
            refine zdt rfl rfl fun K hK => ?_
            simp (disch := omega) [zbc, gE, tP, DtInst.cells, DtCmd.cells, DtId.cells, zbd, zbi, and_assoc, zba, zbb]
            repeat' first | (exfalso; omega) | (refine ⟨fun _ => ?_, fun _ => ?_⟩) | (refine ⟨by omega, ?_⟩) | (simp (disch := omega) [zbc, gE, tP, DtInst.cells, DtCmd.cells, DtId.cells, zbd, zbi, and_assoc, zba, zbb]) | (intro _)
            all_goals (refine hK _ ?_; clear hK K)
            all_goals
             first | have hsx := hws.1 ⟨by assumption, by assumption⟩ | have hsx := hws.2 (fun hh => by first | exact hh.2 (by assumption) | exact absurd hh.1 (by assumption))
             refine ⟨_, LeS.kx [(501, 501)] [(0, .sl 16 (l.map DtInst.cells)), (3, .arr 501 0 (waT l (i + 1)).length), (10, .sl 16 (l.map DtInst.cells)), (11, (.g (.int .i64 ((l.length : Nat))))), (12, (.g (.int .i64 (((i + 1) : Nat)))))] [(501, .win 2 ((waT l (i + 1)).map DtId.cells))] (by simp [KpR, renV2, renV, zbl, zbz, zbj, zbu, DtId.cells, zf4, zbi]; try (first | (rw [hsx]; done) | (rw [hsx]; simp; done))) (by simp [KpOX, renO, plO, cvO, renV, pl1, zbj, zbu, zbl, DtId.cells, zf4, zbi]; try (first | (rw [hsx]; done) | (rw [hsx]; simp [DtId.cells]; done))) (by rfl) (by simp) (by simp) (by rfl) (by simp [formsX, List.range_succ, zbj, zbu]), _, ?_, i + 1, rfl, ?_, rfl⟩
             ·omega
             ·omega
      ·try simp [zba, zbb, zbf, zbe, zbm, zbp] at hc2
       all_goals
        refine zce ?_
        refine zbx ?_
        refine AW_x rfl rfl fun K hK => ?_
        simp (disch := omega) [zbc, gE, tP, DtInst.cells, DtCmd.cells, DtId.cells, zbd, zbi, and_assoc, zba, zbb]
        repeat' first | (exfalso; omega) | (refine ⟨fun _ => ?_, fun _ => ?_⟩) | (refine ⟨by omega, ?_⟩) | (simp (disch := omega) [zbc, gE, tP, DtInst.cells, DtCmd.cells, DtId.cells, zbd, zbi, and_assoc, zba, zbb]) | (intro _)
        all_goals (refine hK _ ?_; clear hK K)
        all_goals
         refine zbt (zdf [501] [] (by simp [List.range_succ, zbj, zbu, zbl]) (by simp) ?_)
         simp (disch := omega) [zbc, gE, tP, DtInst.cells, DtCmd.cells, DtId.cells, zbd, zbi, and_assoc, zba, zbb, hpb]
         all_goals first | (exfalso; exact absurd hp (by assumption)) | (rw [zw6 l i (by omega)]; exact ⟨rfl, rfl⟩) | trace_state
 ·have hpb := zcu hp
  have hpf : InstsP l = False := propext ⟨hp, False.elim⟩
  refine zcd Try.func8 (by rfl) (by rfl) (by rw [Try.ntmps8]; exact Nat.le_of_ble_eq_true rfl) rfl (by simp) rfl rfl ?_
  rw [Try.ntmps8]
  refine zh3   ?_
  refine AW_k [(0, _)] ⟨rfl, trivial⟩ ?_
  refine AW_x rfl rfl fun K hK => ?_
  simp (disch := omega) [zbc, gE, tP, DtInst.cells, DtCmd.cells, DtId.cells, zbd, zbi, and_assoc, zba, zbb]
  repeat' first | (refine ⟨by omega, ?_⟩) | (intro _)
  refine hK _ ?_; clear hK K
  refine zbo ?_
  refine AW_x rfl rfl fun K hK => ?_
  simp (disch := omega) [zbc, gE, tP, DtInst.cells, DtCmd.cells, DtId.cells, zbd, zbi, and_assoc, zba, zbb]
  repeat' first | (exfalso; omega) | (refine zdu (zbg zb9 zbn) (zc2 _ (by assumption)) rfl ?_; simp (disch := omega) [zbc, gE, tP, DtInst.cells, DtCmd.cells, DtId.cells, zbd, zbi, and_assoc, zba, zbb]) | (refine zdv (zc2 _ (by assumption)) (by rfl) ?_ ?_; (focus (simp (disch := omega) [zbc, gE, tP, DtInst.cells, DtCmd.cells, DtId.cells, zbd, zbi, and_assoc, zba, zbb, zbd]; done)); simp (disch := omega) [zbc, gE, tP, DtInst.cells, DtCmd.cells, DtId.cells, zbd, zbi, and_assoc, zba, zbb]) | (refine ⟨by omega, ?_⟩) | (simp (disch := omega) [zbc, gE, tP, DtInst.cells, DtCmd.cells, DtId.cells, zbd, zbi, and_assoc, zba, zbb]) | (intro _)
  refine hK _ ?_; clear hK K
  refine zbr rfl (fun hc4 => ?_) (fun hc4 => ?_)
  ·try simp [zba, zbb, zbf, zbe, zbm, zbp, hpf] at hc4
   all_goals
    refine AW_x rfl rfl fun K hK => ?_
    simp (disch := omega) [zbc, gE, tP, DtInst.cells, DtCmd.cells, DtId.cells, zbd, zbi, and_assoc, zba, zbb]
    repeat' first | (exfalso; omega) | (refine ⟨fun _ => ?_, fun _ => ?_⟩) | (refine ⟨by omega, ?_⟩) | (simp (disch := omega) [zbc, gE, tP, DtInst.cells, DtCmd.cells, DtId.cells, zbd, zbi, and_assoc, zba, zbb]) | (intro _)
    all_goals (refine hK _ ?_; clear hK K)
    all_goals
     refine zbt (zdf [500] [(500, 2)] (by simp [List.range_succ, zbj, zbu, zbl]) (by simp) ?_)
     simp (disch := omega) [zbc, gE, tP, DtInst.cells, DtCmd.cells, DtId.cells, zbd, zbi, and_assoc, zba, zbb, hpb]
     all_goals first | (exfalso; exact absurd (by assumption) hp) | trace_state
  ·try simp [zba, zbb, zbf, zbe, zbm, zbp, hpf] at hc4
   all_goals
    refine zbs ?_
    refine zbx ?_
    refine AW_x rfl rfl fun K hK => ?_
    simp (disch := omega) [zbc, gE, tP, DtInst.cells, DtCmd.cells, DtId.cells, zbd, zbi, and_assoc, zba, zbb]
    repeat' first | (exfalso; omega) | (refine ⟨fun _ => ?_, fun _ => ?_⟩) | (refine ⟨by omega, ?_⟩) | (simp (disch := omega) [zbc, gE, tP, DtInst.cells, DtCmd.cells, DtId.cells, zbd, zbi, and_assoc, zba, zbb]) | (intro _)
    all_goals (refine hK _ ?_; clear hK K)
    all_goals
     refine zbo ?_
     refine AW_x rfl rfl fun K hK => ?_
     simp (disch := omega) [zbc, gE, tP, DtInst.cells, DtCmd.cells, DtId.cells, zbd, zbi, and_assoc, zba, zbb]
     repeat' first | (refine ⟨by omega, ?_⟩) | (simp (disch := omega) [zbc, gE, tP, DtInst.cells, DtCmd.cells, DtId.cells, zbd, zbi, and_assoc, zba, zbb]) | (intro _)
     refine hK _ ?_; clear hK K
     refine zbw ?_
     done
end Go.Proofs.Ytfbmhgiokfpgiaa.Vs
