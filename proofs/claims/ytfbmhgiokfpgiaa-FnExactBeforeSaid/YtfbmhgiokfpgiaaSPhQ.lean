import Derived.Test.YtfbmhgiokfpgiaaSPgQ
open Go Go.Proofs Go.Proofs.Ytfbmhgiokfpgiaa.Vs
namespace Go.Proofs.Ytfbmhgiokfpgiaa.Vs
set_option linter.all false
set_option linter.unusedSimpArgs false
set_option linter.unusedVariables false
set_option maxRecDepth 100000
set_option maxHeartbeats 4000000
/-! the order in which all is done -/
noncomputable def partsR (l : List DtInst) : List (List DtId) := bif decB (InstsP l) then partsL l else []
theorem zpp {l : List DtInst} (h : InstsP l) : partsR l = partsL l := by unfold partsR; rw [zco h]; rfl
theorem zpq {l : List DtInst} (h : ¬ InstsP l) : partsR l = [] := by unfold partsR; rw [zcx h]; rfl
theorem zfk (l : List DtInst) : (partsR l).length ≤ 18 ∧ (∀ p ∈ partsR l, p.length ≤ 18) ∧ (partsR l).flatten.length ≤ 324 := by
 by_cases h : InstsP l
 ·rw [zpp h]; exact zks h (partsL_ok h)
 ·rw [zpq h]; simp
theorem zrh (l : List DtInst) (i : Nat) : ((partsR l).take i).flatten.length ≤ 324 := by
 have h := (zfk l).2.2
 have e := List.take_append_drop i (partsR l)
 rw [← e, List.flatten_append, List.length_append] at h
 omega
theorem takeF_s (ps : List (List DtId)) (i : Nat) (h : i < ps.length) : (ps.take (i + 1)).flatten = (ps.take i).flatten ++ ps[i] := by
 rw [List.take_succ_eq_append_getElem h, List.flatten_append]; simp
theorem takeF_e (ps : List (List DtId)) (i : Nat) (h : ps.length ≤ i) : (ps.take i).flatten = ps.flatten := by rw [List.take_of_length_le h]
theorem zgy (ps : List (List DtId)) : (ps.take 0).flatten = [] := by simp
theorem zwj (l : List DtInst) (hs : szS DtInst.sz l ≤ 1048576) (hp : ¬ InstsP l) : PCall Try.prog 45 [.sl 16 (l.map DtInst.cells)] (.sl 1 (([] : List (List DtId)).map cP)) := by
 have hpb := zcx hp
 have hpf : InstsP l = False := propext ⟨hp, False.elim⟩
 refine zdp Try.func45 (by rfl) (by rfl) (by rw [Try.ntmps45]; exact Nat.le_of_ble_eq_true rfl) ?_
 rw [Try.ntmps45]
 refine zgt ?_
 refine AW_k [(0, _)] ⟨rfl, trivial⟩ ?_
 refine AW_x rfl rfl fun K hK => ?_
 simp (disch := omega) [zbd, gE, tP, DtInst.cells, DtCmd.cells, DtId.cells, zbc, zbh, and_assoc, zbb, zba, zbj, zbl, zbs, zbo, cP, -List.length_flatten, -List.map_flatten, hpb]
 repeat' first | (refine ⟨by omega, ?_⟩) | (intro _)
 refine hK _ ?_; clear hK K
 refine zbt ?_
 refine AW_x rfl rfl fun K hK => ?_
 simp (disch := omega) [zbd, gE, tP, DtInst.cells, DtCmd.cells, DtId.cells, zbc, zbh, and_assoc, zbb, zba, zbj, zbl, zbs, zbo, cP, -List.length_flatten, -List.map_flatten, hpb]
 repeat' first | (exfalso; omega) | (refine zd1 (zbg zca zbr) (zdg _ (by assumption)) rfl ?_; simp (disch := omega) [zbd, gE, tP, DtInst.cells, DtCmd.cells, DtId.cells, zbc, zbh, and_assoc, zbb, zba, zbj, zbl, zbs, zbo, cP, -List.length_flatten, -List.map_flatten, hpb]) | (refine zd2 (zdg _ (by assumption)) (by rfl) ?_ ?_; (focus (simp (disch := omega) [zbd, gE, tP, DtInst.cells, DtCmd.cells, DtId.cells, zbc, zbh, and_assoc, zbb, zba, zbj, zbl, zbs, zbo, cP, -List.length_flatten, -List.map_flatten, hpb, zbc]; done)); simp (disch := omega) [zbd, gE, tP, DtInst.cells, DtCmd.cells, DtId.cells, zbc, zbh, and_assoc, zbb, zba, zbj, zbl, zbs, zbo, cP, -List.length_flatten, -List.map_flatten, hpb]) | (refine ⟨by omega, ?_⟩) | (simp (disch := omega) [zbd, gE, tP, DtInst.cells, DtCmd.cells, DtId.cells, zbc, zbh, and_assoc, zbb, zba, zbj, zbl, zbs, zbo, cP, -List.length_flatten, -List.map_flatten, hpb]) | (intro _)
 refine hK _ ?_; clear hK K
 refine zbv rfl (fun hc1 => ?_) (fun hc1 => ?_)
 ·try simp [zbb, zba, zbf, zbe, zbp, zbq, hpf] at hc1
  all_goals
   refine AW_x rfl rfl fun K hK => ?_
   simp (disch := omega) [zbd, gE, tP, DtInst.cells, DtCmd.cells, DtId.cells, zbc, zbh, and_assoc, zbb, zba, zbj, zbl, zbs, zbo, cP, -List.length_flatten, -List.map_flatten, hpb]
   repeat' first | (exfalso; omega) | (refine ⟨fun _ => ?_, fun _ => ?_⟩) | (refine ⟨by omega, ?_⟩) | (simp (disch := omega) [zbd, gE, tP, DtInst.cells, DtCmd.cells, DtId.cells, zbc, zbh, and_assoc, zbb, zba, zbj, zbl, zbs, zbo, cP, -List.length_flatten, -List.map_flatten, hpb]) | (intro _)
   all_goals (refine hK _ ?_; clear hK K)
   all_goals
    refine zbz (zhi ?_)
    simp (disch := omega) [zbd, gE, tP, DtInst.cells, DtCmd.cells, DtId.cells, zbc, zbh, and_assoc, zbb, zba, zbj, zbl, zbs, zbo, cP, -List.length_flatten, -List.map_flatten, hpb]
    all_goals first | (simp; done) | trace_state
 ·try simp [zbb, zba, zbf, zbe, zbp, zbq, hpf] at hc1
theorem zwk (l : List DtInst) (hs : szS DtInst.sz l ≤ 1048576) (hp : ¬ InstsP l) : PCall Try.prog 44 [.sl 16 (l.map DtInst.cells)] (.sl 1 (([] : List (List DtId)).map cP)) := by
 have hpb := zcx hp
 have hpf : InstsP l = False := propext ⟨hp, False.elim⟩
 refine zdp Try.func44 (by rfl) (by rfl) (by rw [Try.ntmps44]; exact Nat.le_of_ble_eq_true rfl) ?_
 rw [Try.ntmps44]
 refine zgt ?_
 refine AW_k [(0, _)] ⟨rfl, trivial⟩ ?_
 refine AW_x rfl rfl fun K hK => ?_
 simp (disch := omega) [zbd, gE, tP, DtInst.cells, DtCmd.cells, DtId.cells, zbc, zbh, and_assoc, zbb, zba, zbj, zbl, zbs, zbo, cP, -List.length_flatten, -List.map_flatten, hpb]
 repeat' first | (exfalso; omega) | (refine ⟨fun _ => ?_, fun _ => ?_⟩) | (refine ⟨by omega, ?_⟩) | (simp (disch := omega) [zbd, gE, tP, DtInst.cells, DtCmd.cells, DtId.cells, zbc, zbh, and_assoc, zbb, zba, zbj, zbl, zbs, zbo, cP, -List.length_flatten, -List.map_flatten, hpb]) | (intro _)
 all_goals (refine hK _ ?_; clear hK K)
 all_goals
  refine AW_x rfl rfl fun K hK => ?_
  simp (disch := omega) [zbd, gE, tP, DtInst.cells, DtCmd.cells, DtId.cells, zbc, zbh, and_assoc, zbb, zba, zbj, zbl, zbs, zbo, cP, -List.length_flatten, -List.map_flatten, hpb]
  repeat' first | (refine ⟨by omega, ?_⟩) | (simp (disch := omega) [zbd, gE, tP, DtInst.cells, DtCmd.cells, DtId.cells, zbc, zbh, and_assoc, zbb, zba, zbj, zbl, zbs, zbo, cP, -List.length_flatten, -List.map_flatten, hpb]) | (intro _)
  refine hK _ ?_; clear hK K
  refine AW_x rfl rfl fun K hK => ?_
  simp (disch := omega) [zbd, gE, tP, DtInst.cells, DtCmd.cells, DtId.cells, zbc, zbh, and_assoc, zbb, zba, zbj, zbl, zbs, zbo, cP, -List.length_flatten, -List.map_flatten, hpb]
  repeat' first | (refine ⟨by omega, ?_⟩) | (simp (disch := omega) [zbd, gE, tP, DtInst.cells, DtCmd.cells, DtId.cells, zbc, zbh, and_assoc, zbb, zba, zbj, zbl, zbs, zbo, cP, -List.length_flatten, -List.map_flatten, hpb]) | (intro _)
  refine hK _ ?_; clear hK K
  refine zbt ?_
  refine zb0 ?_
  refine zcc (fun mM sS => ∃ (out : List (List DtId)), mM = 0 * out.length ∧ (out = []) ∧ sS = { env := lkE [(0, .sl 16 (l.map DtInst.cells)), (3, .arr 501 0 out.length), (4, .arr 502 0 out.flatten.length)], ob := lk [(501, .win 1 (out.map cP)), (502, .win 2 (out.flatten.map DtId.cells))] }) ?_ ?_
  ·refine ⟨_, LeS.kw [(501, 144), (502, 160)] [(0, .sl 16 (l.map DtInst.cells)), (3, .arr 501 0 ([]).length), (4, .arr 502 0 ([]).flatten.length)] [(501, .win 1 (([]).map cP)), (502, .win 2 (([]).flatten.map DtId.cells))] (by simp [KpR, renV2, renV, zbn, zb4, zbk, zbx, DtId.cells, zbh, cP, zc4, zbo]; try rfl) (by simp [KpOW, wnO, renO, plO, cvO, renV, pl1, zbk, zbx, zbn, DtId.cells, zbh, cP, zc4, zbo]; try rfl) (by rfl) (by simp) (by simp) (by rfl) (by simp [formsX, List.range_succ, zbk, zbx]), _, [], rfl, ?_, rfl⟩
   ·rfl
  ·rintro mM sS ⟨out, rfl, ho, rfl⟩
   refine zbt ?_
   refine AW_x rfl rfl fun K hK => ?_
   simp (disch := omega) [zbd, gE, tP, DtInst.cells, DtCmd.cells, DtId.cells, zbc, zbh, and_assoc, zbb, zba, zbj, zbl, zbs, zbo, cP, -List.length_flatten, -List.map_flatten, hpb]
   repeat' first | (exfalso; omega) | (refine zd1 (zbg zca zbr) (zgj _ (by assumption)) rfl ?_; simp (disch := omega) [zbd, gE, tP, DtInst.cells, DtCmd.cells, DtId.cells, zbc, zbh, and_assoc, zbb, zba, zbj, zbl, zbs, zbo, cP, -List.length_flatten, -List.map_flatten, hpb]) | (refine zd2 (zgj _ (by assumption)) (by rfl) ?_ ?_; (focus (simp (disch := omega) [zbd, gE, tP, DtInst.cells, DtCmd.cells, DtId.cells, zbc, zbh, and_assoc, zbb, zba, zbj, zbl, zbs, zbo, cP, -List.length_flatten, -List.map_flatten, hpb, zbc]; done)); simp (disch := omega) [zbd, gE, tP, DtInst.cells, DtCmd.cells, DtId.cells, zbc, zbh, and_assoc, zbb, zba, zbj, zbl, zbs, zbo, cP, -List.length_flatten, -List.map_flatten, hpb]) | (refine ⟨by omega, ?_⟩) | (simp (disch := omega) [zbd, gE, tP, DtInst.cells, DtCmd.cells, DtId.cells, zbc, zbh, and_assoc, zbb, zba, zbj, zbl, zbs, zbo, cP, -List.length_flatten, -List.map_flatten, hpb]) | (intro _)
   refine hK _ ?_; clear hK K
   refine zbv rfl (fun hc2 => ?_) (fun hc2 => ?_)
   ·try simp [zbb, zba, zbf, zbe, zbp, zbq, hpf] at hc2
    all_goals
     refine zbw ?_
     refine zb3 ?_
     refine zb0 ?_
     refine AW_x rfl rfl fun K hK => ?_
     simp (disch := omega) [zbd, gE, tP, DtInst.cells, DtCmd.cells, DtId.cells, zbc, zbh, and_assoc, zbb, zba, zbj, zbl, zbs, zbo, cP, -List.length_flatten, -List.map_flatten, hpb]
     repeat' first | (exfalso; omega) | (refine ⟨fun _ => ?_, fun _ => ?_⟩) | (refine ⟨by omega, ?_⟩) | (simp (disch := omega) [zbd, gE, tP, DtInst.cells, DtCmd.cells, DtId.cells, zbc, zbh, and_assoc, zbb, zba, zbj, zbl, zbs, zbo, cP, -List.length_flatten, -List.map_flatten, hpb]) | (intro _)
     all_goals (refine hK _ ?_; clear hK K)
     all_goals
      refine zbt ?_
      refine AW_x rfl rfl fun K hK => ?_
      simp (disch := omega) [zbd, gE, tP, DtInst.cells, DtCmd.cells, DtId.cells, zbc, zbh, and_assoc, zbb, zba, zbj, zbl, zbs, zbo, cP, -List.length_flatten, -List.map_flatten, hpb]
      repeat' first | (refine ⟨by omega, ?_⟩) | (intro _)
      refine hK _ ?_; clear hK K
      refine zb0 ?_
      done
   ·try simp [zbb, zba, zbf, zbe, zbp, zbq, hpf] at hc2
    all_goals
     refine zce ?_
     refine zb3 ?_
     refine AW_x rfl rfl fun K hK => ?_
     simp (disch := omega) [zbd, gE, tP, DtInst.cells, DtCmd.cells, DtId.cells, zbc, zbh, and_assoc, zbb, zba, zbj, zbl, zbs, zbo, cP, -List.length_flatten, -List.map_flatten, hpb]
     repeat' first | (exfalso; omega) | (refine ⟨fun _ => ?_, fun _ => ?_⟩) | (refine ⟨by omega, ?_⟩) | (simp (disch := omega) [zbd, gE, tP, DtInst.cells, DtCmd.cells, DtId.cells, zbc, zbh, and_assoc, zbb, zba, zbj, zbl, zbs, zbo, cP, -List.length_flatten, -List.map_flatten, hpb]) | (intro _)
     all_goals (refine hK _ ?_; clear hK K)
     all_goals
      refine zbz (zhi ?_)
      simp (disch := omega) [zbd, gE, tP, DtInst.cells, DtCmd.cells, DtId.cells, zbc, zbh, and_assoc, zbb, zba, zbj, zbl, zbs, zbo, cP, -List.length_flatten, -List.map_flatten, hpb]
      all_goals first | (subst ho; simp; done) | trace_state
theorem zna (l : List DtInst) (hs : szS DtInst.sz l ≤ 1048576) (hn : l.length ≤ 1048576) (hm : ∀ x ∈ l, InstSm x) : PCall Try.prog 45 [.sl 16 (l.map DtInst.cells)] (.sl 1 ((partsR l).map cP)) := by
 by_cases h : InstsP l
 ·rw [zpp h]; exact implParts l hs hn hm h
 ·rw [zpq h]; exact zwj l hs h
theorem znb (l : List DtInst) (hs : szS DtInst.sz l ≤ 1048576) (hn : l.length ≤ 1048576) : PCall Try.prog 44 [.sl 16 (l.map DtInst.cells)] (.sl 1 ((partsR l).map cP)) := by
 by_cases h : InstsP l
 ·rw [zpp h]; exact specParts l hs hn h
 ·rw [zpq h]; exact zwk l hs h
theorem implOrder (l : List DtInst) (hs : szS DtInst.sz l ≤ 1048576) (hn : l.length ≤ 1048576) (hm : ∀ x ∈ l, InstSm x) : PCall Try.prog 29 [.sl 16 (l.map DtInst.cells)] (.sl 2 ((partsR l).flatten.map DtId.cells)) := by
 have hpr := (zfk l).1
 refine zdp Try.func29 (by rfl) (by rfl) (by rw [Try.ntmps29]; exact Nat.le_of_ble_eq_true rfl) ?_
 rw [Try.ntmps29]
 refine zgt ?_
 refine AW_k [(0, _)] ⟨rfl, trivial⟩ ?_
 refine AW_x rfl rfl fun K hK => ?_
 simp (disch := omega) [zbd, gE, tP, DtInst.cells, DtCmd.cells, DtId.cells, zbc, zbh, and_assoc, zbb, zba, zbj, zbl, zbs, zbo, cP, -List.length_flatten, -List.map_flatten]
 repeat' first | (refine ⟨by omega, ?_⟩) | (intro _)
 refine hK _ ?_; clear hK K
 refine AW_x rfl rfl fun K hK => ?_
 simp (disch := omega) [zbd, gE, tP, DtInst.cells, DtCmd.cells, DtId.cells, zbc, zbh, and_assoc, zbb, zba, zbj, zbl, zbs, zbo, cP, -List.length_flatten, -List.map_flatten]
 repeat' first | (refine ⟨by omega, ?_⟩) | (simp (disch := omega) [zbd, gE, tP, DtInst.cells, DtCmd.cells, DtId.cells, zbc, zbh, and_assoc, zbb, zba, zbj, zbl, zbs, zbo, cP, -List.length_flatten, -List.map_flatten]) | (intro _)
 refine hK _ ?_; clear hK K
 refine zbt ?_
 refine AW_x rfl rfl fun K hK => ?_
 simp (disch := omega) [zbd, gE, tP, DtInst.cells, DtCmd.cells, DtId.cells, zbc, zbh, and_assoc, zbb, zba, zbj, zbl, zbs, zbo, cP, -List.length_flatten, -List.map_flatten]
 repeat' first | (exfalso; omega) | (refine zd1 (zbg zca zbr) (zna l hs hn hm) rfl ?_; simp (disch := omega) [zbd, gE, tP, DtInst.cells, DtCmd.cells, DtId.cells, zbc, zbh, and_assoc, zbb, zba, zbj, zbl, zbs, zbo, cP, -List.length_flatten, -List.map_flatten]) | (refine zd2 (zna l hs hn hm) (by rfl) ?_ ?_; (focus (simp (disch := omega) [zbd, gE, tP, DtInst.cells, DtCmd.cells, DtId.cells, zbc, zbh, and_assoc, zbb, zba, zbj, zbl, zbs, zbo, cP, -List.length_flatten, -List.map_flatten, zbc]; done)); simp (disch := omega) [zbd, gE, tP, DtInst.cells, DtCmd.cells, DtId.cells, zbc, zbh, and_assoc, zbb, zba, zbj, zbl, zbs, zbo, cP, -List.length_flatten, -List.map_flatten]) | (refine ⟨by omega, ?_⟩) | (simp (disch := omega) [zbd, gE, tP, DtInst.cells, DtCmd.cells, DtId.cells, zbc, zbh, and_assoc, zbb, zba, zbj, zbl, zbs, zbo, cP, -List.length_flatten, -List.map_flatten]) | (intro _)
 refine hK _ ?_; clear hK K
 refine zb0 ?_
 refine zcc (fun mM sS => ∃ (i : Nat), mM = (partsR l).length - i ∧ (i ≤ (partsR l).length) ∧ sS = { env := lkE [(3, .arr 501 0 ((partsR l).take i).flatten.length), (8, .sl 1 ((partsR l).map cP)), (9, (.g (.int .i64 (((partsR l).length : Nat))))), (10, (.g (.int .i64 ((i : Nat)))))], ob := lk [(501, .win 2 (((partsR l).take i).flatten.map DtId.cells))] }) ?_ ?_
 ·refine ⟨_, LeS.kx [(501, 112)] [(3, .arr 501 0 ((partsR l).take (0)).flatten.length), (8, .sl 1 ((partsR l).map cP)), (9, (.g (.int .i64 (((partsR l).length : Nat))))), (10, (.g (.int .i64 (((0) : Nat)))))] [(501, .win 2 (((partsR l).take (0)).flatten.map DtId.cells))] (by simp [KpR, renV2, renV, zbn, zb4, zbk, zbx, DtId.cells, zbh, zgy, -List.length_flatten, -List.map_flatten]; try (first | rfl | (rw [hts]; simp; done))) (by simp [KpOX, renO, plO, cvO, renV, pl1, zbk, zbx, zbn, DtId.cells, zbh, zgy, -List.length_flatten, -List.map_flatten]; try (first | rfl | (rw [hts]; simp; done))) (by rfl) (by simp) (by simp) (by rfl) (by simp [formsX, List.range_succ, zbk, zbx]), _, 0, rfl, ?_, rfl⟩
  ·simp
 ·rintro mM sS ⟨i, rfl, hi, rfl⟩
  have htk := zrh l i
  refine AW_x rfl rfl fun K hK => ?_
  simp (disch := omega) [zbd, gE, tP, DtInst.cells, DtCmd.cells, DtId.cells, zbc, zbh, and_assoc, zbb, zba, zbj, zbl, zbs, zbo, cP, -List.length_flatten, -List.map_flatten]
  repeat' first | (refine ⟨by omega, ?_⟩) | (intro _)
  refine hK _ ?_; clear hK K
  refine zbt ?_
  refine zbv rfl (fun hc3 => ?_) (fun hc3 => ?_)
  ·try simp [zbb, zba, zbf, zbe, zbp, zbq] at hc3
   all_goals
    have hts := takeF_s (partsR l) i (by omega)
    have hp18 := (zfk l).2.1 (partsR l)[i] (List.getElem_mem _)
    refine zbw ?_
    refine zb3 ?_
    refine zbt ?_
    refine zb0 ?_
    refine AW_x rfl rfl fun K hK => ?_
    simp (disch := omega) [zbd, gE, tP, DtInst.cells, DtCmd.cells, DtId.cells, zbc, zbh, and_assoc, zbb, zba, zbj, zbl, zbs, zbo, cP, -List.length_flatten, -List.map_flatten]
    repeat' first | (exfalso; omega) | (refine ⟨fun _ => ?_, fun _ => ?_⟩) | (refine ⟨by omega, ?_⟩) | (simp (disch := omega) [zbd, gE, tP, DtInst.cells, DtCmd.cells, DtId.cells, zbc, zbh, and_assoc, zbb, zba, zbj, zbl, zbs, zbo, cP, -List.length_flatten, -List.map_flatten]) | (intro _)
    all_goals (refine hK _ ?_; clear hK K)
    all_goals
     refine zdx rfl rfl fun K hK => ?_
     simp (disch := omega) [zbd, gE, tP, DtInst.cells, DtCmd.cells, DtId.cells, zbc, zbh, and_assoc, zbb, zba, zbj, zbl, zbs, zbo, cP, -List.length_flatten, -List.map_flatten]
     repeat' first | (refine ⟨by omega, ?_⟩) | (simp (disch := omega) [zbd, gE, tP, DtInst.cells, DtCmd.cells, DtId.cells, zbc, zbh, and_assoc, zbb, zba, zbj, zbl, zbs, zbo, cP, -List.length_flatten, -List.map_flatten]) | (intro _)
     refine hK _ ?_; clear hK K
     refine zb3 ?_
     refine zdx rfl rfl fun K hK => ?_
     simp (disch := omega) [zbd, gE, tP, DtInst.cells, DtCmd.cells, DtId.cells, zbc, zbh, and_assoc, zbb, zba, zbj, zbl, zbs, zbo, cP, -List.length_flatten, -List.map_flatten]
     repeat' first | (refine ⟨by omega, ?_⟩) | (intro _)
     refine hK _ ?_; clear hK K
     refine ⟨_, LeS.kx [(501, 272)] [(3, .arr 501 0 ((partsR l).take (i + 1)).flatten.length), (8, .sl 1 ((partsR l).map cP)), (9, (.g (.int .i64 (((partsR l).length : Nat))))), (10, (.g (.int .i64 (((i + 1) : Nat)))))] [(501, .win 2 (((partsR l).take (i + 1)).flatten.map DtId.cells))] (by simp [KpR, renV2, renV, zbn, zb4, zbk, zbx, DtId.cells, zbh, zgy, -List.length_flatten, -List.map_flatten]; try (first | rfl | (rw [hts]; simp; done))) (by simp [KpOX, renO, plO, cvO, renV, pl1, zbk, zbx, zbn, DtId.cells, zbh, zgy, -List.length_flatten, -List.map_flatten]; try (first | rfl | (rw [hts]; simp; done))) (by rfl) (by simp) (by simp) (by rfl) (by simp [formsX, List.range_succ, zbk, zbx]), _, ?_, i + 1, rfl, ?_, rfl⟩
     ·omega
     ·omega
  ·try simp [zbb, zba, zbf, zbe, zbp, zbq] at hc3
   all_goals
    refine zce ?_
    refine zb3 ?_
    refine AW_x rfl rfl fun K hK => ?_
    simp (disch := omega) [zbd, gE, tP, DtInst.cells, DtCmd.cells, DtId.cells, zbc, zbh, and_assoc, zbb, zba, zbj, zbl, zbs, zbo, cP, -List.length_flatten, -List.map_flatten]
    repeat' first | (exfalso; omega) | (refine ⟨fun _ => ?_, fun _ => ?_⟩) | (refine ⟨by omega, ?_⟩) | (simp (disch := omega) [zbd, gE, tP, DtInst.cells, DtCmd.cells, DtId.cells, zbc, zbh, and_assoc, zbb, zba, zbj, zbl, zbs, zbo, cP, -List.length_flatten, -List.map_flatten]) | (intro _)
    all_goals (refine hK _ ?_; clear hK K)
    all_goals
     refine zbz (zhi ?_)
     simp (disch := omega) [zbd, gE, tP, DtInst.cells, DtCmd.cells, DtId.cells, zbc, zbh, and_assoc, zbb, zba, zbj, zbl, zbs, zbo, cP, -List.length_flatten, -List.map_flatten]
     all_goals first | (rw [takeF_e _ i (by omega)]; exact ⟨zkp _ (fun _ => rfl) _, rfl⟩) | trace_state
theorem specOrder (l : List DtInst) (hs : szS DtInst.sz l ≤ 1048576) (hn : l.length ≤ 1048576) : PCall Try.prog 27 [.sl 16 (l.map DtInst.cells)] (.sl 2 ((partsR l).flatten.map DtId.cells)) := by
 have hpr := (zfk l).1
 refine zdp Try.func27 (by rfl) (by rfl) (by rw [Try.ntmps27]; exact Nat.le_of_ble_eq_true rfl) ?_
 rw [Try.ntmps27]
 refine zgt ?_
 refine AW_k [(0, _)] ⟨rfl, trivial⟩ ?_
 refine AW_x rfl rfl fun K hK => ?_
 simp (disch := omega) [zbd, gE, tP, DtInst.cells, DtCmd.cells, DtId.cells, zbc, zbh, and_assoc, zbb, zba, zbj, zbl, zbs, zbo, cP, -List.length_flatten, -List.map_flatten]
 repeat' first | (refine ⟨by omega, ?_⟩) | (intro _)
 refine hK _ ?_; clear hK K
 refine AW_x rfl rfl fun K hK => ?_
 simp (disch := omega) [zbd, gE, tP, DtInst.cells, DtCmd.cells, DtId.cells, zbc, zbh, and_assoc, zbb, zba, zbj, zbl, zbs, zbo, cP, -List.length_flatten, -List.map_flatten]
 repeat' first | (refine ⟨by omega, ?_⟩) | (simp (disch := omega) [zbd, gE, tP, DtInst.cells, DtCmd.cells, DtId.cells, zbc, zbh, and_assoc, zbb, zba, zbj, zbl, zbs, zbo, cP, -List.length_flatten, -List.map_flatten]) | (intro _)
 refine hK _ ?_; clear hK K
 refine AW_x rfl rfl fun K hK => ?_
 simp (disch := omega) [zbd, gE, tP, DtInst.cells, DtCmd.cells, DtId.cells, zbc, zbh, and_assoc, zbb, zba, zbj, zbl, zbs, zbo, cP, -List.length_flatten, -List.map_flatten]
 repeat' first | (exfalso; omega) | (refine zd1 (zbg zca zbr) (znb l hs hn) rfl ?_; simp (disch := omega) [zbd, gE, tP, DtInst.cells, DtCmd.cells, DtId.cells, zbc, zbh, and_assoc, zbb, zba, zbj, zbl, zbs, zbo, cP, -List.length_flatten, -List.map_flatten]) | (refine zd2 (znb l hs hn) (by rfl) ?_ ?_; (focus (simp (disch := omega) [zbd, gE, tP, DtInst.cells, DtCmd.cells, DtId.cells, zbc, zbh, and_assoc, zbb, zba, zbj, zbl, zbs, zbo, cP, -List.length_flatten, -List.map_flatten, zbc]; done)); simp (disch := omega) [zbd, gE, tP, DtInst.cells, DtCmd.cells, DtId.cells, zbc, zbh, and_assoc, zbb, zba, zbj, zbl, zbs, zbo, cP, -List.length_flatten, -List.map_flatten]) | (refine ⟨by omega, ?_⟩) | (simp (disch := omega) [zbd, gE, tP, DtInst.cells, DtCmd.cells, DtId.cells, zbc, zbh, and_assoc, zbb, zba, zbj, zbl, zbs, zbo, cP, -List.length_flatten, -List.map_flatten]) | (intro _)
 refine hK _ ?_; clear hK K
 refine zbt ?_
 refine AW_x rfl rfl fun K hK => ?_
 simp (disch := omega) [zbd, gE, tP, DtInst.cells, DtCmd.cells, DtId.cells, zbc, zbh, and_assoc, zbb, zba, zbj, zbl, zbs, zbo, cP, -List.length_flatten, -List.map_flatten]
 repeat' first | (refine ⟨by omega, ?_⟩) | (intro _)
 refine hK _ ?_; clear hK K
 refine zb0 ?_
 refine zcc (fun mM sS => ∃ (i : Nat), mM = (partsR l).length - i ∧ (i ≤ (partsR l).length) ∧ sS = { env := lkE [(3, .arr 501 0 ((partsR l).take i).flatten.length), (4, .sl 1 ((partsR l).map cP)), (5, (.g (.int .i64 ((i : Nat)))))], ob := lk [(501, .win 2 (((partsR l).take i).flatten.map DtId.cells))] }) ?_ ?_
 ·refine ⟨_, LeS.kx [(501, 112)] [(3, .arr 501 0 ((partsR l).take (0)).flatten.length), (4, .sl 1 ((partsR l).map cP)), (5, (.g (.int .i64 (((0) : Nat)))))] [(501, .win 2 (((partsR l).take (0)).flatten.map DtId.cells))] (by simp [KpR, renV2, renV, zbn, zb4, zbk, zbx, DtId.cells, zbh, zgy, -List.length_flatten, -List.map_flatten]; try (first | rfl | (rw [hts]; simp; done))) (by simp [KpOX, renO, plO, cvO, renV, pl1, zbk, zbx, zbn, DtId.cells, zbh, zgy, -List.length_flatten, -List.map_flatten]; try (first | rfl | (rw [hts]; simp; done))) (by rfl) (by simp) (by simp) (by rfl) (by simp [formsX, List.range_succ, zbk, zbx]), _, 0, rfl, ?_, rfl⟩
  ·simp
 ·rintro mM sS ⟨i, rfl, hi, rfl⟩
  have htk := zrh l i
  refine zbt ?_
  refine AW_x rfl rfl fun K hK => ?_
  simp (disch := omega) [zbd, gE, tP, DtInst.cells, DtCmd.cells, DtId.cells, zbc, zbh, and_assoc, zbb, zba, zbj, zbl, zbs, zbo, cP, -List.length_flatten, -List.map_flatten]
  repeat' first | (refine ⟨by omega, ?_⟩) | (simp (disch := omega) [zbd, gE, tP, DtInst.cells, DtCmd.cells, DtId.cells, zbc, zbh, and_assoc, zbb, zba, zbj, zbl, zbs, zbo, cP, -List.length_flatten, -List.map_flatten]) | (intro _)
  refine hK _ ?_; clear hK K
  refine zbv rfl (fun hc4 => ?_) (fun hc4 => ?_)
  ·try simp [zbb, zba, zbf, zbe, zbp, zbq] at hc4
   all_goals
    have hts := takeF_s (partsR l) i (by omega)
    have hp18 := (zfk l).2.1 (partsR l)[i] (List.getElem_mem _)
    refine zbw ?_
    refine zb3 ?_
    refine zbt ?_
    refine zb0 ?_
    refine zdx rfl rfl fun K hK => ?_
    simp (disch := omega) [zbd, gE, tP, DtInst.cells, DtCmd.cells, DtId.cells, zbc, zbh, and_assoc, zbb, zba, zbj, zbl, zbs, zbo, cP, -List.length_flatten, -List.map_flatten]
    repeat' first | (exfalso; omega) | (refine ⟨fun _ => ?_, fun _ => ?_⟩) | (refine ⟨by omega, ?_⟩) | (simp (disch := omega) [zbd, gE, tP, DtInst.cells, DtCmd.cells, DtId.cells, zbc, zbh, and_assoc, zbb, zba, zbj, zbl, zbs, zbo, cP, -List.length_flatten, -List.map_flatten]) | (intro _)
    all_goals (refine hK _ ?_; clear hK K)
    all_goals
     refine zb3 ?_
     refine zdx rfl rfl fun K hK => ?_
     simp (disch := omega) [zbd, gE, tP, DtInst.cells, DtCmd.cells, DtId.cells, zbc, zbh, and_assoc, zbb, zba, zbj, zbl, zbs, zbo, cP, -List.length_flatten, -List.map_flatten]
     repeat' first | (refine ⟨by omega, ?_⟩) | (intro _)
     refine hK _ ?_; clear hK K
     refine ⟨_, LeS.kx [(501, 336)] [(3, .arr 501 0 ((partsR l).take (i + 1)).flatten.length), (4, .sl 1 ((partsR l).map cP)), (5, (.g (.int .i64 (((i + 1) : Nat)))))] [(501, .win 2 (((partsR l).take (i + 1)).flatten.map DtId.cells))] (by simp [KpR, renV2, renV, zbn, zb4, zbk, zbx, DtId.cells, zbh, zgy, -List.length_flatten, -List.map_flatten]; try (first | rfl | (rw [hts]; simp; done))) (by simp [KpOX, renO, plO, cvO, renV, pl1, zbk, zbx, zbn, DtId.cells, zbh, zgy, -List.length_flatten, -List.map_flatten]; try (first | rfl | (rw [hts]; simp; done))) (by rfl) (by simp) (by simp) (by rfl) (by simp [formsX, List.range_succ, zbk, zbx]), _, ?_, i + 1, rfl, ?_, rfl⟩
     ·omega
     ·omega
  ·try simp [zbb, zba, zbf, zbe, zbp, zbq] at hc4
   all_goals
    refine zce ?_
    refine zb3 ?_
    refine AW_x rfl rfl fun K hK => ?_
    simp (disch := omega) [zbd, gE, tP, DtInst.cells, DtCmd.cells, DtId.cells, zbc, zbh, and_assoc, zbb, zba, zbj, zbl, zbs, zbo, cP, -List.length_flatten, -List.map_flatten]
    repeat' first | (exfalso; omega) | (refine ⟨fun _ => ?_, fun _ => ?_⟩) | (refine ⟨by omega, ?_⟩) | (simp (disch := omega) [zbd, gE, tP, DtInst.cells, DtCmd.cells, DtId.cells, zbc, zbh, and_assoc, zbb, zba, zbj, zbl, zbs, zbo, cP, -List.length_flatten, -List.map_flatten]) | (intro _)
    all_goals (refine hK _ ?_; clear hK K)
    all_goals
     refine zbz (zhi ?_)
     simp (disch := omega) [zbd, gE, tP, DtInst.cells, DtCmd.cells, DtId.cells, zbc, zbh, and_assoc, zbb, zba, zbj, zbl, zbs, zbo, cP, -List.length_flatten, -List.map_flatten]
     all_goals first | (rw [takeF_e _ i (by omega)]; exact ⟨zkp _ (fun _ => rfl) _, rfl⟩) | trace_state
noncomputable def ordR (l : List DtInst) : List DtId := (partsR l).flatten
theorem zvg (l : List DtInst) : (ordR l).length ≤ 324 := (zfk l).2.2
theorem implOrdR (l : List DtInst) (hs : szS DtInst.sz l ≤ 1048576) (hn : l.length ≤ 1048576) (hm : ∀ x ∈ l, InstSm x) : PCall Try.prog 29 [.sl 16 (l.map DtInst.cells)] (.sl 2 ((ordR l).map DtId.cells)) := implOrder l hs hn hm
theorem specOrdR (l : List DtInst) (hs : szS DtInst.sz l ≤ 1048576) (hn : l.length ≤ 1048576) : PCall Try.prog 27 [.sl 16 (l.map DtInst.cells)] (.sl 2 ((ordR l).map DtId.cells)) := specOrder l hs hn
theorem l13At (l : List DtId) (x : DtId) (hn : l.length ≤ 1048576) : PCall Try.prog 28 [.sl 2 (l.map DtId.cells), .agg (DtId.cells x)] (.g (.int .i64 (idxZ (fun y => eqB x y) l))) := by
 refine zbu Try.func28 (by rfl) (by rfl) (by rw [Try.ntmps28]; exact Nat.le_of_ble_eq_true rfl) rfl (by decide) ?_
 rw [Try.ntmps28]
 refine AW_k [(0, _), (1, _)] ⟨rfl, rfl, trivial⟩ ?_
 refine AW_r rfl rfl fun K hK => ?_
 simp (disch := omega) [zbd, gE, tP, DtId.cells, zby]
 repeat' first | (refine ⟨by omega, ?_⟩) | (intro _)
 refine hK _ ?_; clear hK K
 refine zbt ?_
 refine AW_r rfl rfl fun K hK => ?_
 simp (disch := omega) [zbd, gE, tP, DtId.cells, zby]
 repeat' first | (refine ⟨by omega, ?_⟩) | (intro _)
 refine hK _ ?_; clear hK K
 refine zb0 ?_
 refine zcc (fun mM sS => ∃ (i : Nat), mM = l.length - i ∧ (i ≤ l.length ∧ ∀ (j : Nat) y, j < i → l[j]? = some y → eqB x y = false) ∧ sS = { env := lkE [(0, .sl 2 (l.map DtId.cells)), (3, .ptr 64 0), (5, (.g (.int .i64 ((i : Nat)))))], ob := lk [(64, .cells (DtId.cells x))] }) ?_ ?_
 ·refine ⟨_, LeS.ko [(0, .sl 2 (l.map DtId.cells)), (3, .ptr 64 0), (5, (.g (.int .i64 (((0) : Nat)))))] [(64, .cells (DtId.cells x))] (by simp [KpE, zbn, zb4, zbk, DtId.cells]; try rfl) (by simp [KpO, zbn, zbk, zbx, zcf, DtId.cells]; try rfl) (by rfl) (by simp) (by rfl), _, 0, rfl, ?_, rfl⟩
  ·simp
 ·rintro mM sS ⟨i, rfl, ⟨hi, hpre⟩, rfl⟩
  refine zbt ?_
  refine AW_r rfl rfl fun K hK => ?_
  simp (disch := omega) [zbd, gE, tP, DtId.cells, zby]
  repeat' first | (refine ⟨by omega, ?_⟩) | (intro _)
  refine hK _ ?_; clear hK K
  refine zbv rfl (fun hc5 => ?_) (fun hc5 => ?_)
  ·try simp [zbb, zba, zbf, zbe, zbp, zbq] at hc5
   all_goals
    have hg : l[i]? = some l[i] := List.getElem?_eq_getElem (by omega)
    refine zbw ?_
    refine zb3 ?_
    refine zbt ?_
    refine zb0 ?_
    refine AW_q rfl mix (by kernel_rfl) rfl fun K hK => ?_
    simp (disch := omega) [zbd, gE, tP, DtId.cells, zby]
    repeat' first | (exfalso; omega) | (refine ⟨fun _ => ?_, fun _ => ?_⟩) | (refine ⟨by omega, ?_⟩) | (intro _)
    all_goals (refine hK _ ?_; clear hK K)
    all_goals
     refine zbv rfl (fun hc6 => ?_) (fun hc6 => ?_)
     ·try simp [zbb, zba, zbf, zbe, zbp, zbq] at hc6
      all_goals
       refine AW_r rfl rfl fun K hK => ?_
       simp (disch := omega) [zbd, gE, tP, DtId.cells, zby]
       repeat' first | (exfalso; omega) | (refine ⟨fun _ => ?_, fun _ => ?_⟩) | (refine ⟨by omega, ?_⟩) | (intro _)
       all_goals (refine hK _ ?_; clear hK K)
       all_goals
        refine zbz (zcb ?_)
        simp (disch := omega) [zbd, gE, tP, DtId.cells, zby]
        all_goals first | (exact zdb (by assumption) (by simp_all [zbf, zft]) hpre) | (exact zdl (fun j x h => hpre j x (by omega))) | trace_state
     ·try simp [zbb, zba, zbf, zbe, zbp, zbq] at hc6
      all_goals
       refine zbw ?_
       refine zb3 ?_
       refine zdf rfl rfl fun K hK => ?_
       simp (disch := omega) [zbd, gE, tP, DtId.cells, zby]
       repeat' first | (exfalso; omega) | (refine ⟨fun _ => ?_, fun _ => ?_⟩) | (refine ⟨by omega, ?_⟩) | (intro _)
       all_goals (refine hK _ ?_; clear hK K)
       all_goals
        refine ⟨_, LeS.ko [(0, .sl 2 (l.map DtId.cells)), (3, .ptr 64 0), (5, (.g (.int .i64 (((i + 1) : Nat)))))] [(64, .cells (DtId.cells x))] (by simp [KpE, zbn, zb4, zbk, DtId.cells]; try rfl) (by simp [KpO, zbn, zbk, zbx, zcf, DtId.cells]; try rfl) (by rfl) (by simp) (by rfl), _, ?_, i + 1, rfl, ?_, rfl⟩
        ·omega
        ·refine ⟨by omega, ?_⟩; grind [zbe, zft]
  ·try simp [zbb, zba, zbf, zbe, zbp, zbq] at hc5
   all_goals
    refine zce ?_
    refine zb3 ?_
    refine AW_r rfl rfl fun K hK => ?_
    simp (disch := omega) [zbd, gE, tP, DtId.cells, zby]
    repeat' first | (exfalso; omega) | (refine ⟨fun _ => ?_, fun _ => ?_⟩) | (refine ⟨by omega, ?_⟩) | (intro _)
    all_goals (refine hK _ ?_; clear hK K)
    all_goals
     refine zbz (zcb ?_)
     simp (disch := omega) [zbd, gE, tP, DtId.cells, zby]
     all_goals first | (exact zdb (by assumption) (by simp_all [zbf, zft]) hpre) | (exact zdl (fun j x h => hpre j x (by omega))) | trace_state
noncomputable def befR (l : List DtInst) (a b : DtId) : Bool := decide (0 ≤ idxZ (fun y => eqB a y) (ordR l)) && decide (idxZ (fun y => eqB a y) (ordR l) < idxZ (fun y => eqB b y) (ordR l))
theorem znc (l : List DtInst) (a b : DtId) (hs : szS DtInst.sz l ≤ 1048576) (hn : l.length ≤ 1048576) : PCall Try.prog 14 [.sl 16 (l.map DtInst.cells), .agg (DtId.cells a), .agg (DtId.cells b)] (.g (.bool (befR l a b))) := by
 have hpr := zvg l
 refine zbu Try.func14 (by rfl) (by rfl) (by rw [Try.ntmps14]; exact Nat.le_of_ble_eq_true rfl) rfl (by decide) ?_
 rw [Try.ntmps14]
 refine AW_k [(0, _), (1, _), (2, _)] ⟨rfl, rfl, rfl, trivial⟩ ?_
 refine AW_r rfl rfl fun K hK => ?_
 simp (disch := omega) [zbd, gE, tP, DtInst.cells, DtCmd.cells, DtId.cells]
 repeat' first | (refine ⟨by omega, ?_⟩) | (intro _)
 refine hK _ ?_; clear hK K
 refine AW_r rfl rfl fun K hK => ?_
 simp (disch := omega) [zbd, gE, tP, DtInst.cells, DtCmd.cells, DtId.cells]
 repeat' first | (exfalso; omega) | (refine zck (zbg zca zbr) (specOrdR l hs hn) rfl ?_; simp (disch := omega) [zbd, gE, tP, DtInst.cells, DtCmd.cells, DtId.cells]) | (refine ⟨by omega, ?_⟩) | (intro _)
 refine hK _ ?_; clear hK K
 refine AW_r rfl rfl fun K hK => ?_
 simp (disch := omega) [zbd, gE, tP, DtInst.cells, DtCmd.cells, DtId.cells]
 repeat' first | (exfalso; omega) | (refine zck (zbg zca (zbg (zb6 rfl) zbr)) (l13At _ _ (by omega)) rfl ?_; simp (disch := omega) [zbd, gE, tP, DtInst.cells, DtCmd.cells, DtId.cells]) | (refine ⟨by omega, ?_⟩) | (intro _)
 refine hK _ ?_; clear hK K
 refine AW_r rfl rfl fun K hK => ?_
 simp (disch := omega) [zbd, gE, tP, DtInst.cells, DtCmd.cells, DtId.cells]
 repeat' first | (exfalso; omega) | (refine zck (zbg zca (zbg (zb6 rfl) zbr)) (l13At _ _ (by omega)) rfl ?_; simp (disch := omega) [zbd, gE, tP, DtInst.cells, DtCmd.cells, DtId.cells]) | (refine ⟨by omega, ?_⟩) | (intro _)
 refine hK _ ?_; clear hK K
 refine AW_r rfl rfl fun K hK => ?_
 simp (disch := omega) [zbd, gE, tP, DtInst.cells, DtCmd.cells, DtId.cells]
 repeat' first | (exfalso; omega) | (refine ⟨fun _ => ?_, fun _ => ?_⟩) | (refine ⟨by omega, ?_⟩) | (intro _)
 all_goals (refine hK _ ?_; clear hK K)
 all_goals
  refine zbz (zcb ?_)
  simp (disch := omega) [zbd, gE, tP, DtInst.cells, DtCmd.cells, DtId.cells]
  all_goals (unfold befR; first | (rw [Bool.eq_iff_iff]; simp; done) | (rw [Bool.eq_iff_iff]; simp; omega) | trace_state)
theorem znd (l : List DtInst) (a b : DtId) (hs : szS DtInst.sz l ≤ 1048576) (hn : l.length ≤ 1048576) (hm : ∀ x ∈ l, InstSm x) : PCall Try.prog 16 [.sl 16 (l.map DtInst.cells), .agg (DtId.cells a), .agg (DtId.cells b)] (.g (.bool (befR l a b))) := by
 have hpr := zvg l
 refine zbu Try.func16 (by rfl) (by rfl) (by rw [Try.ntmps16]; exact Nat.le_of_ble_eq_true rfl) rfl (by decide) ?_
 rw [Try.ntmps16]
 refine AW_k [(0, _), (1, _), (2, _)] ⟨rfl, rfl, rfl, trivial⟩ ?_
 refine AW_r rfl rfl fun K hK => ?_
 simp (disch := omega) [zbd, gE, tP, DtInst.cells, DtCmd.cells, DtId.cells]
 repeat' first | (refine ⟨by omega, ?_⟩) | (intro _)
 refine hK _ ?_; clear hK K
 refine AW_r rfl rfl fun K hK => ?_
 simp (disch := omega) [zbd, gE, tP, DtInst.cells, DtCmd.cells, DtId.cells]
 repeat' first | (exfalso; omega) | (refine zck (zbg zca zbr) (implOrdR l hs hn hm) rfl ?_; simp (disch := omega) [zbd, gE, tP, DtInst.cells, DtCmd.cells, DtId.cells]) | (refine ⟨by omega, ?_⟩) | (intro _)
 refine hK _ ?_; clear hK K
 refine AW_q rfl mix (by kernel_rfl) rfl fun K hK => ?_
 simp (disch := omega) [zbd, gE, tP, DtInst.cells, DtCmd.cells, DtId.cells]
 repeat' first | (exfalso; omega) | (refine zck (zbg zca (zbg (zb6 rfl) zbr)) (zzx _ _ (by omega)) rfl ?_; simp (disch := omega) [zbd, gE, tP, DtInst.cells, DtCmd.cells, DtId.cells]) | (refine ⟨by omega, ?_⟩) | (intro _)
 refine hK _ ?_; clear hK K
 refine AW_r rfl rfl fun K hK => ?_
 simp (disch := omega) [zbd, gE, tP, DtInst.cells, DtCmd.cells, DtId.cells]
 repeat' first | (exfalso; omega) | (refine ⟨fun _ => ?_, fun _ => ?_⟩) | (refine ⟨by omega, ?_⟩) | (intro _)
 all_goals (refine hK _ ?_; clear hK K)
 all_goals
  refine zbz (zcb ?_)
  simp (disch := omega) [zbd, gE, tP, DtInst.cells, DtCmd.cells, DtId.cells]
  all_goals (unfold befR; first | (rw [Bool.eq_iff_iff]; simp; done) | (rw [Bool.eq_iff_iff]; simp; omega) | trace_state)
end Go.Proofs.Ytfbmhgiokfpgiaa.Vs
