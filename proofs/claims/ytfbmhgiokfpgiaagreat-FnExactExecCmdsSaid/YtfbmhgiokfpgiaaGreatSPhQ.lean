import Derived.Test.YtfbmhgiokfpgiaaGreatSPgQ
open Go Go.Proofs Go.Proofs.YtfbmhgiokfpgiaaGreat.Vs
namespace Go.Proofs.YtfbmhgiokfpgiaaGreat.Vs
set_option linter.all false
set_option linter.unusedSimpArgs false
set_option linter.unusedVariables false
set_option maxRecDepth 100000
set_option maxHeartbeats 4000000
/-! the order in which all is done -/
noncomputable def partsR (l : List DtInst) : List (List DtId) := bif decB (InstsP l) then partsL l else []
theorem zhu {l : List DtInst} (h : InstsP l) : partsR l = partsL l := by unfold partsR; rw [zcu h]; rfl
theorem zhv {l : List DtInst} (h : ¬ InstsP l) : partsR l = [] := by unfold partsR; rw [zc4 h]; rfl
theorem zfx (l : List DtInst) : (partsR l).length ≤ 18 ∧ (∀ p ∈ partsR l, p.length ≤ 18) ∧ (partsR l).flatten.length ≤ 324 := by
 by_cases h : InstsP l
 ·rw [zhu h]; exact zli h (zjt h)
 ·rw [zhv h]; simp
theorem zr7 (l : List DtInst) (i : Nat) : ((partsR l).take i).flatten.length ≤ 324 := by
 have h := (zfx l).2.2
 have e := List.take_append_drop i (partsR l)
 rw [← e, List.flatten_append, List.length_append] at h
 omega
theorem takeF_s (ps : List (List DtId)) (i : Nat) (h : i < ps.length) : (ps.take (i + 1)).flatten = (ps.take i).flatten ++ ps[i] := by
 rw [List.take_succ_eq_append_getElem h, List.flatten_append]; simp
theorem takeF_e (ps : List (List DtId)) (i : Nat) (h : ps.length ≤ i) : (ps.take i).flatten = ps.flatten := by rw [List.take_of_length_le h]
theorem zhf (ps : List (List DtId)) : (ps.take 0).flatten = [] := by simp
theorem zxn (l : List DtInst) (hs : szS DtInst.sz l ≤ 1048576) (hp : ¬ InstsP l) : PCall Tryz.prog 32 [.sl 16 (l.map DtInst.cells)] (.sl 1 (([] : List (List DtId)).map cP)) := by
 have hpb := zc4 hp
 have hpf : InstsP l = False := propext ⟨hp, False.elim⟩
 refine zdz Tryz.func32 (by rfl) (by rfl) (by rw [Tryz.ntmps32]; exact Nat.le_of_ble_eq_true rfl) ?_
 rw [Tryz.ntmps32]
 refine zfb ?_
 refine AW_k [(0, _)] ⟨rfl, trivial⟩ ?_
 refine AW_x rfl rfl fun K hK => ?_
 simp (disch := omega) [zbd, gE, tP, DtInst.cells, DtCmd.cells, DtId.cells, zba, zbe, and_assoc, zbc, zbb, zbk, zbm, zbw, zbo, cP, -List.length_flatten, -List.map_flatten, hpb]
 repeat' first | (refine ⟨by omega, ?_⟩) | (intro _)
 refine hK _ ?_; clear hK K
 refine zbr ?_
 refine AW_x rfl rfl fun K hK => ?_
 simp (disch := omega) [zbd, gE, tP, DtInst.cells, DtCmd.cells, DtId.cells, zba, zbe, and_assoc, zbc, zbb, zbk, zbm, zbw, zbo, cP, -List.length_flatten, -List.map_flatten, hpb]
 repeat' first | (exfalso; omega) | (refine zde (zbh zce zbs) (zdq _ (by assumption)) rfl ?_; simp (disch := omega) [zbd, gE, tP, DtInst.cells, DtCmd.cells, DtId.cells, zba, zbe, and_assoc, zbc, zbb, zbk, zbm, zbw, zbo, cP, -List.length_flatten, -List.map_flatten, hpb]) | (refine zdf (zdq _ (by assumption)) (by rfl) ?_ ?_; (focus (simp (disch := omega) [zbd, gE, tP, DtInst.cells, DtCmd.cells, DtId.cells, zba, zbe, and_assoc, zbc, zbb, zbk, zbm, zbw, zbo, cP, -List.length_flatten, -List.map_flatten, hpb, zba]; done)); simp (disch := omega) [zbd, gE, tP, DtInst.cells, DtCmd.cells, DtId.cells, zba, zbe, and_assoc, zbc, zbb, zbk, zbm, zbw, zbo, cP, -List.length_flatten, -List.map_flatten, hpb]) | (refine ⟨by omega, ?_⟩) | (simp (disch := omega) [zbd, gE, tP, DtInst.cells, DtCmd.cells, DtId.cells, zba, zbe, and_assoc, zbc, zbb, zbk, zbm, zbw, zbo, cP, -List.length_flatten, -List.map_flatten, hpb]) | (intro _)
 refine hK _ ?_; clear hK K
 refine zbu rfl (fun hc1 => ?_) (fun hc1 => ?_)
 ·try simp [zbc, zbb, zbg, zbf, zbq, zbt, hpf] at hc1
  all_goals
   refine AW_x rfl rfl fun K hK => ?_
   simp (disch := omega) [zbd, gE, tP, DtInst.cells, DtCmd.cells, DtId.cells, zba, zbe, and_assoc, zbc, zbb, zbk, zbm, zbw, zbo, cP, -List.length_flatten, -List.map_flatten, hpb]
   repeat' first | (exfalso; omega) | (refine ⟨fun _ => ?_, fun _ => ?_⟩) | (refine ⟨by omega, ?_⟩) | (simp (disch := omega) [zbd, gE, tP, DtInst.cells, DtCmd.cells, DtId.cells, zba, zbe, and_assoc, zbc, zbb, zbk, zbm, zbw, zbo, cP, -List.length_flatten, -List.map_flatten, hpb]) | (intro _)
   all_goals (refine hK _ ?_; clear hK K)
   all_goals
    refine zby (zh1 ?_)
    simp (disch := omega) [zbd, gE, tP, DtInst.cells, DtCmd.cells, DtId.cells, zba, zbe, and_assoc, zbc, zbb, zbk, zbm, zbw, zbo, cP, -List.length_flatten, -List.map_flatten, hpb]
    all_goals first | (simp; done) | trace_state
 ·try simp [zbc, zbb, zbg, zbf, zbq, zbt, hpf] at hc1
theorem zxo (l : List DtInst) (hs : szS DtInst.sz l ≤ 1048576) (hp : ¬ InstsP l) : PCall Tryz.prog 27 [.sl 16 (l.map DtInst.cells)] (.sl 1 (([] : List (List DtId)).map cP)) := by
 have hpb := zc4 hp
 have hpf : InstsP l = False := propext ⟨hp, False.elim⟩
 refine zdz Tryz.func27 (by rfl) (by rfl) (by rw [Tryz.ntmps27]; exact Nat.le_of_ble_eq_true rfl) ?_
 rw [Tryz.ntmps27]
 refine zfb ?_
 refine AW_k [(0, _)] ⟨rfl, trivial⟩ ?_
 refine AW_x rfl rfl fun K hK => ?_
 simp (disch := omega) [zbd, gE, tP, DtInst.cells, DtCmd.cells, DtId.cells, zba, zbe, and_assoc, zbc, zbb, zbk, zbm, zbw, zbo, cP, -List.length_flatten, -List.map_flatten, hpb]
 repeat' first | (exfalso; omega) | (refine ⟨fun _ => ?_, fun _ => ?_⟩) | (refine ⟨by omega, ?_⟩) | (simp (disch := omega) [zbd, gE, tP, DtInst.cells, DtCmd.cells, DtId.cells, zba, zbe, and_assoc, zbc, zbb, zbk, zbm, zbw, zbo, cP, -List.length_flatten, -List.map_flatten, hpb]) | (intro _)
 all_goals (refine hK _ ?_; clear hK K)
 all_goals
  refine AW_x rfl rfl fun K hK => ?_
  simp (disch := omega) [zbd, gE, tP, DtInst.cells, DtCmd.cells, DtId.cells, zba, zbe, and_assoc, zbc, zbb, zbk, zbm, zbw, zbo, cP, -List.length_flatten, -List.map_flatten, hpb]
  repeat' first | (refine ⟨by omega, ?_⟩) | (simp (disch := omega) [zbd, gE, tP, DtInst.cells, DtCmd.cells, DtId.cells, zba, zbe, and_assoc, zbc, zbb, zbk, zbm, zbw, zbo, cP, -List.length_flatten, -List.map_flatten, hpb]) | (intro _)
  refine hK _ ?_; clear hK K
  refine AW_x rfl rfl fun K hK => ?_
  simp (disch := omega) [zbd, gE, tP, DtInst.cells, DtCmd.cells, DtId.cells, zba, zbe, and_assoc, zbc, zbb, zbk, zbm, zbw, zbo, cP, -List.length_flatten, -List.map_flatten, hpb]
  repeat' first | (refine ⟨by omega, ?_⟩) | (simp (disch := omega) [zbd, gE, tP, DtInst.cells, DtCmd.cells, DtId.cells, zba, zbe, and_assoc, zbc, zbb, zbk, zbm, zbw, zbo, cP, -List.length_flatten, -List.map_flatten, hpb]) | (intro _)
  refine hK _ ?_; clear hK K
  refine zbr ?_
  refine zb0 ?_
  refine zcf (fun mM sS => ∃ (out : List (List DtId)), mM = 0 * out.length ∧ (out = []) ∧ sS = { env := lkE [(0, .sl 16 (l.map DtInst.cells)), (3, .arr 501 0 out.length), (4, .arr 502 0 out.flatten.length)], ob := lk [(501, .win 1 (out.map cP)), (502, .win 2 (out.flatten.map DtId.cells))] }) ?_ ?_
  ·refine ⟨_, LeS.kw [(501, 144), (502, 160)] [(0, .sl 16 (l.map DtInst.cells)), (3, .arr 501 0 ([]).length), (4, .arr 502 0 ([]).flatten.length)] [(501, .win 1 (([]).map cP)), (502, .win 2 (([]).flatten.map DtId.cells))] (by simp [KpR, renV2, renV, zbl, zb5, zbi, zbp, DtId.cells, zbe, cP, zda, zbo]; try rfl) (by simp [KpOW, wnO, renO, plO, cvO, renV, pl1, zbi, zbp, zbl, DtId.cells, zbe, cP, zda, zbo]; try rfl) (by rfl) (by simp) (by simp) (by rfl) (by simp [formsX, List.range_succ, zbi, zbp]), _, [], rfl, ?_, rfl⟩
   ·rfl
  ·rintro mM sS ⟨out, rfl, ho, rfl⟩
   refine zbr ?_
   refine AW_x rfl rfl fun K hK => ?_
   simp (disch := omega) [zbd, gE, tP, DtInst.cells, DtCmd.cells, DtId.cells, zba, zbe, and_assoc, zbc, zbb, zbk, zbm, zbw, zbo, cP, -List.length_flatten, -List.map_flatten, hpb]
   repeat' first | (exfalso; omega) | (refine zde (zbh zce zbs) (zgy _ (by assumption)) rfl ?_; simp (disch := omega) [zbd, gE, tP, DtInst.cells, DtCmd.cells, DtId.cells, zba, zbe, and_assoc, zbc, zbb, zbk, zbm, zbw, zbo, cP, -List.length_flatten, -List.map_flatten, hpb]) | (refine zdf (zgy _ (by assumption)) (by rfl) ?_ ?_; (focus (simp (disch := omega) [zbd, gE, tP, DtInst.cells, DtCmd.cells, DtId.cells, zba, zbe, and_assoc, zbc, zbb, zbk, zbm, zbw, zbo, cP, -List.length_flatten, -List.map_flatten, hpb, zba]; done)); simp (disch := omega) [zbd, gE, tP, DtInst.cells, DtCmd.cells, DtId.cells, zba, zbe, and_assoc, zbc, zbb, zbk, zbm, zbw, zbo, cP, -List.length_flatten, -List.map_flatten, hpb]) | (refine ⟨by omega, ?_⟩) | (simp (disch := omega) [zbd, gE, tP, DtInst.cells, DtCmd.cells, DtId.cells, zba, zbe, and_assoc, zbc, zbb, zbk, zbm, zbw, zbo, cP, -List.length_flatten, -List.map_flatten, hpb]) | (intro _)
   refine hK _ ?_; clear hK K
   refine zbu rfl (fun hc2 => ?_) (fun hc2 => ?_)
   ·try simp [zbc, zbb, zbg, zbf, zbq, zbt, hpf] at hc2
    all_goals
     refine zbv ?_
     refine zb4 ?_
     refine zb0 ?_
     refine AW_x rfl rfl fun K hK => ?_
     simp (disch := omega) [zbd, gE, tP, DtInst.cells, DtCmd.cells, DtId.cells, zba, zbe, and_assoc, zbc, zbb, zbk, zbm, zbw, zbo, cP, -List.length_flatten, -List.map_flatten, hpb]
     repeat' first | (exfalso; omega) | (refine ⟨fun _ => ?_, fun _ => ?_⟩) | (refine ⟨by omega, ?_⟩) | (simp (disch := omega) [zbd, gE, tP, DtInst.cells, DtCmd.cells, DtId.cells, zba, zbe, and_assoc, zbc, zbb, zbk, zbm, zbw, zbo, cP, -List.length_flatten, -List.map_flatten, hpb]) | (intro _)
     all_goals (refine hK _ ?_; clear hK K)
     all_goals
      refine zbr ?_
      refine AW_x rfl rfl fun K hK => ?_
      simp (disch := omega) [zbd, gE, tP, DtInst.cells, DtCmd.cells, DtId.cells, zba, zbe, and_assoc, zbc, zbb, zbk, zbm, zbw, zbo, cP, -List.length_flatten, -List.map_flatten, hpb]
      repeat' first | (refine ⟨by omega, ?_⟩) | (intro _)
      refine hK _ ?_; clear hK K
      refine zb0 ?_
      done
   ·try simp [zbc, zbb, zbg, zbf, zbq, zbt, hpf] at hc2
    all_goals
     refine zch ?_
     refine zb4 ?_
     refine AW_x rfl rfl fun K hK => ?_
     simp (disch := omega) [zbd, gE, tP, DtInst.cells, DtCmd.cells, DtId.cells, zba, zbe, and_assoc, zbc, zbb, zbk, zbm, zbw, zbo, cP, -List.length_flatten, -List.map_flatten, hpb]
     repeat' first | (exfalso; omega) | (refine ⟨fun _ => ?_, fun _ => ?_⟩) | (refine ⟨by omega, ?_⟩) | (simp (disch := omega) [zbd, gE, tP, DtInst.cells, DtCmd.cells, DtId.cells, zba, zbe, and_assoc, zbc, zbb, zbk, zbm, zbw, zbo, cP, -List.length_flatten, -List.map_flatten, hpb]) | (intro _)
     all_goals (refine hK _ ?_; clear hK K)
     all_goals
      refine zby (zh1 ?_)
      simp (disch := omega) [zbd, gE, tP, DtInst.cells, DtCmd.cells, DtId.cells, zba, zbe, and_assoc, zbc, zbb, zbk, zbm, zbw, zbo, cP, -List.length_flatten, -List.map_flatten, hpb]
      all_goals first | (subst ho; simp; done) | trace_state
theorem zn3 (l : List DtInst) (hs : szS DtInst.sz l ≤ 1048576) (hn : l.length ≤ 1048576) (hm : ∀ x ∈ l, InstSm x) : PCall Tryz.prog 32 [.sl 16 (l.map DtInst.cells)] (.sl 1 ((partsR l).map cP)) := by
 by_cases h : InstsP l
 ·rw [zhu h]; exact implParts l hs hn hm h
 ·rw [zhv h]; exact zxn l hs h
theorem zn4 (l : List DtInst) (hs : szS DtInst.sz l ≤ 1048576) (hn : l.length ≤ 1048576) : PCall Tryz.prog 27 [.sl 16 (l.map DtInst.cells)] (.sl 1 ((partsR l).map cP)) := by
 by_cases h : InstsP l
 ·rw [zhu h]; exact specParts l hs hn h
 ·rw [zhv h]; exact zxo l hs h
theorem implOrder (l : List DtInst) (hs : szS DtInst.sz l ≤ 1048576) (hn : l.length ≤ 1048576) (hm : ∀ x ∈ l, InstSm x) : PCall Tryz.prog 17 [.sl 16 (l.map DtInst.cells)] (.sl 2 ((partsR l).flatten.map DtId.cells)) := by
 have hpr := (zfx l).1
 refine zdz Tryz.func17 (by rfl) (by rfl) (by rw [Tryz.ntmps17]; exact Nat.le_of_ble_eq_true rfl) ?_
 rw [Tryz.ntmps17]
 refine zfb ?_
 refine AW_k [(0, _)] ⟨rfl, trivial⟩ ?_
 refine AW_x rfl rfl fun K hK => ?_
 simp (disch := omega) [zbd, gE, tP, DtInst.cells, DtCmd.cells, DtId.cells, zba, zbe, and_assoc, zbc, zbb, zbk, zbm, zbw, zbo, cP, -List.length_flatten, -List.map_flatten]
 repeat' first | (refine ⟨by omega, ?_⟩) | (intro _)
 refine hK _ ?_; clear hK K
 refine AW_x rfl rfl fun K hK => ?_
 simp (disch := omega) [zbd, gE, tP, DtInst.cells, DtCmd.cells, DtId.cells, zba, zbe, and_assoc, zbc, zbb, zbk, zbm, zbw, zbo, cP, -List.length_flatten, -List.map_flatten]
 repeat' first | (refine ⟨by omega, ?_⟩) | (simp (disch := omega) [zbd, gE, tP, DtInst.cells, DtCmd.cells, DtId.cells, zba, zbe, and_assoc, zbc, zbb, zbk, zbm, zbw, zbo, cP, -List.length_flatten, -List.map_flatten]) | (intro _)
 refine hK _ ?_; clear hK K
 refine zbr ?_
 refine AW_x rfl rfl fun K hK => ?_
 simp (disch := omega) [zbd, gE, tP, DtInst.cells, DtCmd.cells, DtId.cells, zba, zbe, and_assoc, zbc, zbb, zbk, zbm, zbw, zbo, cP, -List.length_flatten, -List.map_flatten]
 repeat' first | (exfalso; omega) | (refine zde (zbh zce zbs) (zn3 l hs hn hm) rfl ?_; simp (disch := omega) [zbd, gE, tP, DtInst.cells, DtCmd.cells, DtId.cells, zba, zbe, and_assoc, zbc, zbb, zbk, zbm, zbw, zbo, cP, -List.length_flatten, -List.map_flatten]) | (refine zdf (zn3 l hs hn hm) (by rfl) ?_ ?_; (focus (simp (disch := omega) [zbd, gE, tP, DtInst.cells, DtCmd.cells, DtId.cells, zba, zbe, and_assoc, zbc, zbb, zbk, zbm, zbw, zbo, cP, -List.length_flatten, -List.map_flatten, zba]; done)); simp (disch := omega) [zbd, gE, tP, DtInst.cells, DtCmd.cells, DtId.cells, zba, zbe, and_assoc, zbc, zbb, zbk, zbm, zbw, zbo, cP, -List.length_flatten, -List.map_flatten]) | (refine ⟨by omega, ?_⟩) | (simp (disch := omega) [zbd, gE, tP, DtInst.cells, DtCmd.cells, DtId.cells, zba, zbe, and_assoc, zbc, zbb, zbk, zbm, zbw, zbo, cP, -List.length_flatten, -List.map_flatten]) | (intro _)
 refine hK _ ?_; clear hK K
 refine zb0 ?_
 refine zcf (fun mM sS => ∃ (i : Nat), mM = (partsR l).length - i ∧ (i ≤ (partsR l).length) ∧ sS = { env := lkE [(3, .arr 501 0 ((partsR l).take i).flatten.length), (8, .sl 1 ((partsR l).map cP)), (9, (.g (.int .i64 (((partsR l).length : Nat))))), (10, (.g (.int .i64 ((i : Nat)))))], ob := lk [(501, .win 2 (((partsR l).take i).flatten.map DtId.cells))] }) ?_ ?_
 ·refine ⟨_, LeS.kx [(501, 112)] [(3, .arr 501 0 ((partsR l).take (0)).flatten.length), (8, .sl 1 ((partsR l).map cP)), (9, (.g (.int .i64 (((partsR l).length : Nat))))), (10, (.g (.int .i64 (((0) : Nat)))))] [(501, .win 2 (((partsR l).take (0)).flatten.map DtId.cells))] (by simp [KpR, renV2, renV, zbl, zb5, zbi, zbp, DtId.cells, zbe, zhf, -List.length_flatten, -List.map_flatten]; try (first | rfl | (rw [hts]; simp; done))) (by simp [KpOX, renO, plO, cvO, renV, pl1, zbi, zbp, zbl, DtId.cells, zbe, zhf, -List.length_flatten, -List.map_flatten]; try (first | rfl | (rw [hts]; simp; done))) (by rfl) (by simp) (by simp) (by rfl) (by simp [formsX, List.range_succ, zbi, zbp]), _, 0, rfl, ?_, rfl⟩
  ·simp
 ·rintro mM sS ⟨i, rfl, hi, rfl⟩
  have htk := zr7 l i
  refine AW_x rfl rfl fun K hK => ?_
  simp (disch := omega) [zbd, gE, tP, DtInst.cells, DtCmd.cells, DtId.cells, zba, zbe, and_assoc, zbc, zbb, zbk, zbm, zbw, zbo, cP, -List.length_flatten, -List.map_flatten]
  repeat' first | (refine ⟨by omega, ?_⟩) | (intro _)
  refine hK _ ?_; clear hK K
  refine zbr ?_
  refine zbu rfl (fun hc3 => ?_) (fun hc3 => ?_)
  ·try simp [zbc, zbb, zbg, zbf, zbq, zbt] at hc3
   all_goals
    have hts := takeF_s (partsR l) i (by omega)
    have hp18 := (zfx l).2.1 (partsR l)[i] (List.getElem_mem _)
    refine zbv ?_
    refine zb4 ?_
    refine zbr ?_
    refine zb0 ?_
    refine AW_x rfl rfl fun K hK => ?_
    simp (disch := omega) [zbd, gE, tP, DtInst.cells, DtCmd.cells, DtId.cells, zba, zbe, and_assoc, zbc, zbb, zbk, zbm, zbw, zbo, cP, -List.length_flatten, -List.map_flatten]
    repeat' first | (exfalso; omega) | (refine ⟨fun _ => ?_, fun _ => ?_⟩) | (refine ⟨by omega, ?_⟩) | (simp (disch := omega) [zbd, gE, tP, DtInst.cells, DtCmd.cells, DtId.cells, zba, zbe, and_assoc, zbc, zbb, zbk, zbm, zbw, zbo, cP, -List.length_flatten, -List.map_flatten]) | (intro _)
    all_goals (refine hK _ ?_; clear hK K)
    all_goals
     refine zdd rfl rfl fun K hK => ?_
     simp (disch := omega) [zbd, gE, tP, DtInst.cells, DtCmd.cells, DtId.cells, zba, zbe, and_assoc, zbc, zbb, zbk, zbm, zbw, zbo, cP, -List.length_flatten, -List.map_flatten]
     repeat' first | (refine ⟨by omega, ?_⟩) | (simp (disch := omega) [zbd, gE, tP, DtInst.cells, DtCmd.cells, DtId.cells, zba, zbe, and_assoc, zbc, zbb, zbk, zbm, zbw, zbo, cP, -List.length_flatten, -List.map_flatten]) | (intro _)
     refine hK _ ?_; clear hK K
     refine zb4 ?_
     refine zdd rfl rfl fun K hK => ?_
     simp (disch := omega) [zbd, gE, tP, DtInst.cells, DtCmd.cells, DtId.cells, zba, zbe, and_assoc, zbc, zbb, zbk, zbm, zbw, zbo, cP, -List.length_flatten, -List.map_flatten]
     repeat' first | (refine ⟨by omega, ?_⟩) | (intro _)
     refine hK _ ?_; clear hK K
     refine ⟨_, LeS.kx [(501, 272)] [(3, .arr 501 0 ((partsR l).take (i + 1)).flatten.length), (8, .sl 1 ((partsR l).map cP)), (9, (.g (.int .i64 (((partsR l).length : Nat))))), (10, (.g (.int .i64 (((i + 1) : Nat)))))] [(501, .win 2 (((partsR l).take (i + 1)).flatten.map DtId.cells))] (by simp [KpR, renV2, renV, zbl, zb5, zbi, zbp, DtId.cells, zbe, zhf, -List.length_flatten, -List.map_flatten]; try (first | rfl | (rw [hts]; simp; done))) (by simp [KpOX, renO, plO, cvO, renV, pl1, zbi, zbp, zbl, DtId.cells, zbe, zhf, -List.length_flatten, -List.map_flatten]; try (first | rfl | (rw [hts]; simp; done))) (by rfl) (by simp) (by simp) (by rfl) (by simp [formsX, List.range_succ, zbi, zbp]), _, ?_, i + 1, rfl, ?_, rfl⟩
     ·omega
     ·omega
  ·try simp [zbc, zbb, zbg, zbf, zbq, zbt] at hc3
   all_goals
    refine zch ?_
    refine zb4 ?_
    refine AW_x rfl rfl fun K hK => ?_
    simp (disch := omega) [zbd, gE, tP, DtInst.cells, DtCmd.cells, DtId.cells, zba, zbe, and_assoc, zbc, zbb, zbk, zbm, zbw, zbo, cP, -List.length_flatten, -List.map_flatten]
    repeat' first | (exfalso; omega) | (refine ⟨fun _ => ?_, fun _ => ?_⟩) | (refine ⟨by omega, ?_⟩) | (simp (disch := omega) [zbd, gE, tP, DtInst.cells, DtCmd.cells, DtId.cells, zba, zbe, and_assoc, zbc, zbb, zbk, zbm, zbw, zbo, cP, -List.length_flatten, -List.map_flatten]) | (intro _)
    all_goals (refine hK _ ?_; clear hK K)
    all_goals
     refine zby (zh1 ?_)
     simp (disch := omega) [zbd, gE, tP, DtInst.cells, DtCmd.cells, DtId.cells, zba, zbe, and_assoc, zbc, zbb, zbk, zbm, zbw, zbo, cP, -List.length_flatten, -List.map_flatten]
     all_goals first | (rw [takeF_e _ i (by omega)]; exact ⟨zlc _ (fun _ => rfl) _, rfl⟩) | trace_state
theorem specOrder (l : List DtInst) (hs : szS DtInst.sz l ≤ 1048576) (hn : l.length ≤ 1048576) : PCall Tryz.prog 14 [.sl 16 (l.map DtInst.cells)] (.sl 2 ((partsR l).flatten.map DtId.cells)) := by
 have hpr := (zfx l).1
 refine zdz Tryz.func14 (by rfl) (by rfl) (by rw [Tryz.ntmps14]; exact Nat.le_of_ble_eq_true rfl) ?_
 rw [Tryz.ntmps14]
 refine zfb ?_
 refine AW_k [(0, _)] ⟨rfl, trivial⟩ ?_
 refine AW_x rfl rfl fun K hK => ?_
 simp (disch := omega) [zbd, gE, tP, DtInst.cells, DtCmd.cells, DtId.cells, zba, zbe, and_assoc, zbc, zbb, zbk, zbm, zbw, zbo, cP, -List.length_flatten, -List.map_flatten]
 repeat' first | (refine ⟨by omega, ?_⟩) | (intro _)
 refine hK _ ?_; clear hK K
 refine AW_x rfl rfl fun K hK => ?_
 simp (disch := omega) [zbd, gE, tP, DtInst.cells, DtCmd.cells, DtId.cells, zba, zbe, and_assoc, zbc, zbb, zbk, zbm, zbw, zbo, cP, -List.length_flatten, -List.map_flatten]
 repeat' first | (refine ⟨by omega, ?_⟩) | (simp (disch := omega) [zbd, gE, tP, DtInst.cells, DtCmd.cells, DtId.cells, zba, zbe, and_assoc, zbc, zbb, zbk, zbm, zbw, zbo, cP, -List.length_flatten, -List.map_flatten]) | (intro _)
 refine hK _ ?_; clear hK K
 refine AW_x rfl rfl fun K hK => ?_
 simp (disch := omega) [zbd, gE, tP, DtInst.cells, DtCmd.cells, DtId.cells, zba, zbe, and_assoc, zbc, zbb, zbk, zbm, zbw, zbo, cP, -List.length_flatten, -List.map_flatten]
 repeat' first | (exfalso; omega) | (refine zde (zbh zce zbs) (zn4 l hs hn) rfl ?_; simp (disch := omega) [zbd, gE, tP, DtInst.cells, DtCmd.cells, DtId.cells, zba, zbe, and_assoc, zbc, zbb, zbk, zbm, zbw, zbo, cP, -List.length_flatten, -List.map_flatten]) | (refine zdf (zn4 l hs hn) (by rfl) ?_ ?_; (focus (simp (disch := omega) [zbd, gE, tP, DtInst.cells, DtCmd.cells, DtId.cells, zba, zbe, and_assoc, zbc, zbb, zbk, zbm, zbw, zbo, cP, -List.length_flatten, -List.map_flatten, zba]; done)); simp (disch := omega) [zbd, gE, tP, DtInst.cells, DtCmd.cells, DtId.cells, zba, zbe, and_assoc, zbc, zbb, zbk, zbm, zbw, zbo, cP, -List.length_flatten, -List.map_flatten]) | (refine ⟨by omega, ?_⟩) | (simp (disch := omega) [zbd, gE, tP, DtInst.cells, DtCmd.cells, DtId.cells, zba, zbe, and_assoc, zbc, zbb, zbk, zbm, zbw, zbo, cP, -List.length_flatten, -List.map_flatten]) | (intro _)
 refine hK _ ?_; clear hK K
 refine zbr ?_
 refine AW_x rfl rfl fun K hK => ?_
 simp (disch := omega) [zbd, gE, tP, DtInst.cells, DtCmd.cells, DtId.cells, zba, zbe, and_assoc, zbc, zbb, zbk, zbm, zbw, zbo, cP, -List.length_flatten, -List.map_flatten]
 repeat' first | (refine ⟨by omega, ?_⟩) | (intro _)
 refine hK _ ?_; clear hK K
 refine zb0 ?_
 refine zcf (fun mM sS => ∃ (i : Nat), mM = (partsR l).length - i ∧ (i ≤ (partsR l).length) ∧ sS = { env := lkE [(3, .arr 501 0 ((partsR l).take i).flatten.length), (4, .sl 1 ((partsR l).map cP)), (5, (.g (.int .i64 ((i : Nat)))))], ob := lk [(501, .win 2 (((partsR l).take i).flatten.map DtId.cells))] }) ?_ ?_
 ·refine ⟨_, LeS.kx [(501, 112)] [(3, .arr 501 0 ((partsR l).take (0)).flatten.length), (4, .sl 1 ((partsR l).map cP)), (5, (.g (.int .i64 (((0) : Nat)))))] [(501, .win 2 (((partsR l).take (0)).flatten.map DtId.cells))] (by simp [KpR, renV2, renV, zbl, zb5, zbi, zbp, DtId.cells, zbe, zhf, -List.length_flatten, -List.map_flatten]; try (first | rfl | (rw [hts]; simp; done))) (by simp [KpOX, renO, plO, cvO, renV, pl1, zbi, zbp, zbl, DtId.cells, zbe, zhf, -List.length_flatten, -List.map_flatten]; try (first | rfl | (rw [hts]; simp; done))) (by rfl) (by simp) (by simp) (by rfl) (by simp [formsX, List.range_succ, zbi, zbp]), _, 0, rfl, ?_, rfl⟩
  ·simp
 ·rintro mM sS ⟨i, rfl, hi, rfl⟩
  have htk := zr7 l i
  refine zbr ?_
  refine AW_x rfl rfl fun K hK => ?_
  simp (disch := omega) [zbd, gE, tP, DtInst.cells, DtCmd.cells, DtId.cells, zba, zbe, and_assoc, zbc, zbb, zbk, zbm, zbw, zbo, cP, -List.length_flatten, -List.map_flatten]
  repeat' first | (refine ⟨by omega, ?_⟩) | (simp (disch := omega) [zbd, gE, tP, DtInst.cells, DtCmd.cells, DtId.cells, zba, zbe, and_assoc, zbc, zbb, zbk, zbm, zbw, zbo, cP, -List.length_flatten, -List.map_flatten]) | (intro _)
  refine hK _ ?_; clear hK K
  refine zbu rfl (fun hc4 => ?_) (fun hc4 => ?_)
  ·try simp [zbc, zbb, zbg, zbf, zbq, zbt] at hc4
   all_goals
    have hts := takeF_s (partsR l) i (by omega)
    have hp18 := (zfx l).2.1 (partsR l)[i] (List.getElem_mem _)
    refine zbv ?_
    refine zb4 ?_
    refine zbr ?_
    refine zb0 ?_
    refine zdd rfl rfl fun K hK => ?_
    simp (disch := omega) [zbd, gE, tP, DtInst.cells, DtCmd.cells, DtId.cells, zba, zbe, and_assoc, zbc, zbb, zbk, zbm, zbw, zbo, cP, -List.length_flatten, -List.map_flatten]
    repeat' first | (exfalso; omega) | (refine ⟨fun _ => ?_, fun _ => ?_⟩) | (refine ⟨by omega, ?_⟩) | (simp (disch := omega) [zbd, gE, tP, DtInst.cells, DtCmd.cells, DtId.cells, zba, zbe, and_assoc, zbc, zbb, zbk, zbm, zbw, zbo, cP, -List.length_flatten, -List.map_flatten]) | (intro _)
    all_goals (refine hK _ ?_; clear hK K)
    all_goals
     refine zb4 ?_
     refine zdd rfl rfl fun K hK => ?_
     simp (disch := omega) [zbd, gE, tP, DtInst.cells, DtCmd.cells, DtId.cells, zba, zbe, and_assoc, zbc, zbb, zbk, zbm, zbw, zbo, cP, -List.length_flatten, -List.map_flatten]
     repeat' first | (refine ⟨by omega, ?_⟩) | (intro _)
     refine hK _ ?_; clear hK K
     refine ⟨_, LeS.kx [(501, 336)] [(3, .arr 501 0 ((partsR l).take (i + 1)).flatten.length), (4, .sl 1 ((partsR l).map cP)), (5, (.g (.int .i64 (((i + 1) : Nat)))))] [(501, .win 2 (((partsR l).take (i + 1)).flatten.map DtId.cells))] (by simp [KpR, renV2, renV, zbl, zb5, zbi, zbp, DtId.cells, zbe, zhf, -List.length_flatten, -List.map_flatten]; try (first | rfl | (rw [hts]; simp; done))) (by simp [KpOX, renO, plO, cvO, renV, pl1, zbi, zbp, zbl, DtId.cells, zbe, zhf, -List.length_flatten, -List.map_flatten]; try (first | rfl | (rw [hts]; simp; done))) (by rfl) (by simp) (by simp) (by rfl) (by simp [formsX, List.range_succ, zbi, zbp]), _, ?_, i + 1, rfl, ?_, rfl⟩
     ·omega
     ·omega
  ·try simp [zbc, zbb, zbg, zbf, zbq, zbt] at hc4
   all_goals
    refine zch ?_
    refine zb4 ?_
    refine AW_x rfl rfl fun K hK => ?_
    simp (disch := omega) [zbd, gE, tP, DtInst.cells, DtCmd.cells, DtId.cells, zba, zbe, and_assoc, zbc, zbb, zbk, zbm, zbw, zbo, cP, -List.length_flatten, -List.map_flatten]
    repeat' first | (exfalso; omega) | (refine ⟨fun _ => ?_, fun _ => ?_⟩) | (refine ⟨by omega, ?_⟩) | (simp (disch := omega) [zbd, gE, tP, DtInst.cells, DtCmd.cells, DtId.cells, zba, zbe, and_assoc, zbc, zbb, zbk, zbm, zbw, zbo, cP, -List.length_flatten, -List.map_flatten]) | (intro _)
    all_goals (refine hK _ ?_; clear hK K)
    all_goals
     refine zby (zh1 ?_)
     simp (disch := omega) [zbd, gE, tP, DtInst.cells, DtCmd.cells, DtId.cells, zba, zbe, and_assoc, zbc, zbb, zbk, zbm, zbw, zbo, cP, -List.length_flatten, -List.map_flatten]
     all_goals first | (rw [takeF_e _ i (by omega)]; exact ⟨zlc _ (fun _ => rfl) _, rfl⟩) | trace_state
noncomputable def ordR (l : List DtInst) : List DtId := (partsR l).flatten
theorem zwf (l : List DtInst) : (ordR l).length ≤ 324 := (zfx l).2.2
theorem zwg (l : List DtInst) (hs : szS DtInst.sz l ≤ 1048576) (hn : l.length ≤ 1048576) (hm : ∀ x ∈ l, InstSm x) : PCall Tryz.prog 17 [.sl 16 (l.map DtInst.cells)] (.sl 2 ((ordR l).map DtId.cells)) := implOrder l hs hn hm
theorem zwh (l : List DtInst) (hs : szS DtInst.sz l ≤ 1048576) (hn : l.length ≤ 1048576) : PCall Tryz.prog 14 [.sl 16 (l.map DtInst.cells)] (.sl 2 ((ordR l).map DtId.cells)) := specOrder l hs hn
end Go.Proofs.YtfbmhgiokfpgiaaGreat.Vs
