import Derived.Test.YtfbmhgiokfpgiaaSPeQ
open Go Go.Proofs Go.Proofs.Ytfbmhgiokfpgiaa.Vs
namespace Go.Proofs.Ytfbmhgiokfpgiaa.Vs
set_option linter.all false
set_option linter.unusedSimpArgs false
set_option linter.unusedVariables false
set_option maxRecDepth 100000
set_option maxHeartbeats 4000000
/-! all parts, as the reference makes them -/
theorem zct (l : List (List DtId)) : scR (l.map (List.map DtId.cells)).flatten = true := by rw [← List.map_flatten]; exact zbh _
theorem zbo (l : List (List DtId)) : immR (l.map cP) = true := zkp _ (fun _ => rfl) l
structure SpI (l : List DtInst) (out out2 : List (List DtId)) (fd : Bool) (i : Nat) : Prop where
 le : i ≤ l.length
 no : fd = false → out2 = out ∧ ∀ (j : Nat) x, j < i → l[j]? = some x → ¬ CandP l out.flatten x.fId
 yes : fd = true → ∃ p, nextP l out = some p ∧ out2 = out ++ [p]
theorem spI_0 (l : List DtInst) (out : List (List DtId)) : SpI l out out false 0 := ⟨by omega, fun _ => ⟨rfl, fun j x h => by omega⟩, fun h => by cases h⟩
theorem zpn {l : List DtInst} {out out2 : List (List DtId)} {fd : Bool} {i : Nat} (h : SpI l out out2 fd i) (hi : i < l.length) (hf : fd = false) (hc : ¬ CandP l out2.flatten l[i].fId) : SpI l out out2 fd (i + 1) := by
 rw [(h.no hf).1] at hc
 refine ⟨by omega, fun _ => ⟨(h.no hf).1, fun j x hj hx => ?_⟩, fun h2 => by rw [hf] at h2; cases h2⟩
 by_cases e : j = i
 ·subst e; rw [List.getElem?_eq_getElem hi] at hx; cases hx; exact hc
 ·exact (h.no hf).2 j x (by omega) hx
theorem zta {l : List DtInst} (hp : InstsP l) {out out2 : List (List DtId)} {fd : Bool} {i : Nat} (h : SpI l out out2 fd i) (hi : i < l.length) (hf : fd = false) (ho : OutOk l out) (hc : CandP l out2.flatten l[i].fId) : SpI l out (out2 ++ [partL l l[i].fId]) true (i + 1) := by
 rw [(h.no hf).1] at hc
 exact ⟨by omega, fun h => (by cases h), fun _ => ⟨_, nextP_hit hp ho hi (h.no hf).2 hc, by rw [(h.no hf).1]⟩⟩
theorem spI_len {l : List DtInst} (hp : InstsP l) {out out2 : List (List DtId)} {fd : Bool} {i : Nat} (hi : PInv l out) (h : SpI l out out2 fd i) : OutOk l out2 := by
 cases fd with
 | false => rw [(h.no rfl).1]; exact hi.1
 | true => obtain ⟨p, h1, rfl⟩ := h.yes rfl; exact (pinv_s hp hi h1).1.1
theorem specParts (l : List DtInst) (hs : szS DtInst.sz l ≤ 1048576) (hn : l.length ≤ 1048576) (hp : InstsP l) : PCall Try.prog 44 [.sl 16 (l.map DtInst.cells)] (.sl 1 ((partsL l).map cP)) := by
 have hpb := zco hp
 refine zdp Try.func44 (by rfl) (by rfl) (by rw [Try.ntmps44]; exact Nat.le_of_ble_eq_true rfl) ?_
 rw [Try.ntmps44]
 refine zgt ?_
 refine AW_k [(0, _)] ⟨rfl, trivial⟩ ?_
 refine AW_x rfl rfl fun K hK => ?_
 simp (disch := omega) [zbd, gE, tP, DtInst.cells, DtCmd.cells, DtId.cells, zbc, zbh, and_assoc, zbb, zba, zby, zbj, zbl, zbs, zbo, cP, -List.length_flatten, -List.map_flatten]
 repeat' first | (refine ⟨by omega, ?_⟩) | (intro _)
 refine hK _ ?_; clear hK K
 refine AW_x rfl rfl fun K hK => ?_
 simp (disch := omega) [zbd, gE, tP, DtInst.cells, DtCmd.cells, DtId.cells, zbc, zbh, and_assoc, zbb, zba, zby, zbj, zbl, zbs, zbo, cP, -List.length_flatten, -List.map_flatten]
 repeat' first | (refine ⟨by omega, ?_⟩) | (simp (disch := omega) [zbd, gE, tP, DtInst.cells, DtCmd.cells, DtId.cells, zbc, zbh, and_assoc, zbb, zba, zby, zbj, zbl, zbs, zbo, cP, -List.length_flatten, -List.map_flatten]) | (intro _)
 refine hK _ ?_; clear hK K
 refine AW_x rfl rfl fun K hK => ?_
 simp (disch := omega) [zbd, gE, tP, DtInst.cells, DtCmd.cells, DtId.cells, zbc, zbh, and_assoc, zbb, zba, zby, zbj, zbl, zbs, zbo, cP, -List.length_flatten, -List.map_flatten]
 repeat' first | (refine ⟨by omega, ?_⟩) | (simp (disch := omega) [zbd, gE, tP, DtInst.cells, DtCmd.cells, DtId.cells, zbc, zbh, and_assoc, zbb, zba, zby, zbj, zbl, zbs, zbo, cP, -List.length_flatten, -List.map_flatten]) | (intro _)
 refine hK _ ?_; clear hK K
 refine zbt ?_
 refine zb0 ?_
 refine zcc (fun mM sS => ∃ (out : List (List DtId)), mM = (leftR l out).length ∧ (PInv l out) ∧ sS = { env := lkE [(0, .sl 16 (l.map DtInst.cells)), (3, .arr 501 0 out.length), (4, .arr 502 0 out.flatten.length)], ob := lk [(501, .win 1 (out.map cP)), (502, .win 2 (out.flatten.map DtId.cells))] }) ?_ ?_
 ·refine ⟨_, LeS.kw [(501, 144), (502, 160)] [(0, .sl 16 (l.map DtInst.cells)), (3, .arr 501 0 ([]).length), (4, .arr 502 0 ([]).flatten.length)] [(501, .win 1 (([]).map cP)), (502, .win 2 (([]).flatten.map DtId.cells))] (by simp [KpR, renV2, renV, zbn, zb4, zbk, zbx, DtId.cells, zbh, cP, zc4, zbo, zcl, zci, zcm, zcv, zct]; try rfl) (by simp [KpOW, wnO, renO, plO, cvO, renV, pl1, zbk, zbx, zbn, DtId.cells, zbh, cP, zc4, zbo, zcl, zci, zcm, zcv, zct]; try rfl) (by rfl) (by simp) (by simp) (by rfl) (by simp [formsX, List.range_succ, zbk, zbx]), _, [], rfl, ?_, rfl⟩
  ·exact pinv_0 l
 ·rintro mM sS ⟨out, rfl, ho, rfl⟩
  have ⟨hl1, hl2, hl3⟩ := zks hp ho.1
  refine zbt ?_
  refine AW_x rfl rfl fun K hK => ?_
  simp (disch := omega) [zbd, gE, tP, DtInst.cells, DtCmd.cells, DtId.cells, zbc, zbh, and_assoc, zbb, zba, zby, zbj, zbl, zbs, zbo, cP, -List.length_flatten, -List.map_flatten]
  repeat' first | (exfalso; omega) | (refine zd1 (zbg zca zbr) (zgj _ (by assumption)) rfl ?_; simp (disch := omega) [zbd, gE, tP, DtInst.cells, DtCmd.cells, DtId.cells, zbc, zbh, and_assoc, zbb, zba, zby, zbj, zbl, zbs, zbo, cP, -List.length_flatten, -List.map_flatten]) | (refine zd2 (zgj _ (by assumption)) (by rfl) ?_ ?_; (focus (simp (disch := omega) [zbd, gE, tP, DtInst.cells, DtCmd.cells, DtId.cells, zbc, zbh, and_assoc, zbb, zba, zby, zbj, zbl, zbs, zbo, cP, -List.length_flatten, -List.map_flatten, zbc]; done)); simp (disch := omega) [zbd, gE, tP, DtInst.cells, DtCmd.cells, DtId.cells, zbc, zbh, and_assoc, zbb, zba, zby, zbj, zbl, zbs, zbo, cP, -List.length_flatten, -List.map_flatten]) | (refine ⟨by omega, ?_⟩) | (simp (disch := omega) [zbd, gE, tP, DtInst.cells, DtCmd.cells, DtId.cells, zbc, zbh, and_assoc, zbb, zba, zby, zbj, zbl, zbs, zbo, cP, -List.length_flatten, -List.map_flatten]) | (intro _)
  refine hK _ ?_; clear hK K
  refine zbv rfl (fun hc1 => ?_) (fun hc1 => ?_)
  ·try simp [zbb, zba, zbf, zbe, zbp, zbq] at hc1
   all_goals
    refine zbw ?_
    refine zb3 ?_
    refine zb0 ?_
    refine AW_x rfl rfl fun K hK => ?_
    simp (disch := omega) [zbd, gE, tP, DtInst.cells, DtCmd.cells, DtId.cells, zbc, zbh, and_assoc, zbb, zba, zby, zbj, zbl, zbs, zbo, cP, -List.length_flatten, -List.map_flatten]
    repeat' first | (exfalso; omega) | (refine ⟨fun _ => ?_, fun _ => ?_⟩) | (refine ⟨by omega, ?_⟩) | (simp (disch := omega) [zbd, gE, tP, DtInst.cells, DtCmd.cells, DtId.cells, zbc, zbh, and_assoc, zbb, zba, zby, zbj, zbl, zbs, zbo, cP, -List.length_flatten, -List.map_flatten]) | (intro _)
    all_goals (refine hK _ ?_; clear hK K)
    all_goals
     refine zbt ?_
     refine AW_x rfl rfl fun K hK => ?_
     simp (disch := omega) [zbd, gE, tP, DtInst.cells, DtCmd.cells, DtId.cells, zbc, zbh, and_assoc, zbb, zba, zby, zbj, zbl, zbs, zbo, cP, -List.length_flatten, -List.map_flatten]
     repeat' first | (refine ⟨by omega, ?_⟩) | (intro _)
     refine hK _ ?_; clear hK K
     refine zb0 ?_
     refine zcc (fun mM sS => ∃ (i : Nat) (fd : Bool) (out2 : List (List DtId)), mM = l.length - i ∧ (SpI l out out2 fd i) ∧ sS = { env := lkE [(0, .sl 16 (l.map DtInst.cells)), (3, .arr 501 0 out2.length), (4, .arr 502 0 out2.flatten.length), (5, (.g (.bool (fd)))), (6, (.g (.int .i64 ((i : Nat)))))], ob := lk [(501, .win 1 (out2.map cP)), (502, .win 2 (out2.flatten.map DtId.cells))] }) ?_ ?_
     ·refine ⟨_, LeS.kw [(501, 501), (502, 502)] [(0, .sl 16 (l.map DtInst.cells)), (3, .arr 501 0 (out).length), (4, .arr 502 0 (out).flatten.length), (5, (.g (.bool ((false))))), (6, (.g (.int .i64 (((0) : Nat)))))] [(501, .win 1 ((out).map cP)), (502, .win 2 ((out).flatten.map DtId.cells))] (by simp [KpR, renV2, renV, zbn, zb4, zbk, zbx, DtId.cells, zbh, cP, zc4, zbo, zcl, zci, zcm, zcv, zct]; try rfl) (by simp [KpOW, wnO, renO, plO, cvO, renV, pl1, zbk, zbx, zbn, DtId.cells, zbh, cP, zc4, zbo, zcl, zci, zcm, zcv, zct]; try rfl) (by rfl) (by simp) (by simp) (by rfl) (by simp [formsX, List.range_succ, zbk, zbx]), _, 0, false, out, rfl, ?_, rfl⟩
      ·exact spI_0 l out
     ·rintro mM sS ⟨i, fd, out2, rfl, hi, rfl⟩
      have hio := spI_len hp ho hi
      have ⟨hm1, hm2, hm3⟩ := zks hp hio
      refine zbt ?_
      refine AW_x rfl rfl fun K hK => ?_
      simp (disch := omega) [zbd, gE, tP, DtInst.cells, DtCmd.cells, DtId.cells, zbc, zbh, and_assoc, zbb, zba, zby, zbj, zbl, zbs, zbo, cP, -List.length_flatten, -List.map_flatten]
      repeat' first | (exfalso; omega) | (refine ⟨fun _ => ?_, fun _ => ?_⟩) | (refine ⟨by omega, ?_⟩) | (simp (disch := omega) [zbd, gE, tP, DtInst.cells, DtCmd.cells, DtId.cells, zbc, zbh, and_assoc, zbb, zba, zby, zbj, zbl, zbs, zbo, cP, -List.length_flatten, -List.map_flatten]) | (intro _)
      all_goals (refine hK _ ?_; clear hK K)
      all_goals
       refine zbv rfl (fun hc2 => ?_) (fun hc2 => ?_)
       ·try simp [zbb, zba, zbf, zbe, zbp, zbq] at hc2
        all_goals
         have hpl := zgw hp (id := l[i].fId) (zd3 hp (List.getElem_mem _)).1
         refine zbw ?_
         refine zb3 ?_
         refine zbt ?_
         refine zb0 ?_
         refine zbt ?_
         refine AW_x rfl rfl fun K hK => ?_
         simp (disch := omega) [zbd, gE, tP, DtInst.cells, DtCmd.cells, DtId.cells, zbc, zbh, and_assoc, zbb, zba, zby, zbj, zbl, zbs, zbo, cP, -List.length_flatten, -List.map_flatten]
         repeat' first | (exfalso; omega) | (refine zd1 (zbg zca (zbg (zb6 rfl) zbr)) (zwe out2.flatten l[i].fId (by omega)) rfl ?_; simp (disch := omega) [zbd, gE, tP, DtInst.cells, DtCmd.cells, DtId.cells, zbc, zbh, and_assoc, zbb, zba, zby, zbj, zbl, zbs, zbo, cP, -List.length_flatten, -List.map_flatten]) | (refine zd2 (zwe out2.flatten l[i].fId (by omega)) (by rfl) ?_ ?_; (focus (simp (disch := omega) [zbd, gE, tP, DtInst.cells, DtCmd.cells, DtId.cells, zbc, zbh, and_assoc, zbb, zba, zby, zbj, zbl, zbs, zbo, cP, -List.length_flatten, -List.map_flatten, zbc]; done)); simp (disch := omega) [zbd, gE, tP, DtInst.cells, DtCmd.cells, DtId.cells, zbc, zbh, and_assoc, zbb, zba, zby, zbj, zbl, zbs, zbo, cP, -List.length_flatten, -List.map_flatten]) | (refine zd1 (zbg zca (zbg (zb6 rfl) zbr)) (zt8 l l[i].fId hn hp) rfl ?_; simp (disch := omega) [zbd, gE, tP, DtInst.cells, DtCmd.cells, DtId.cells, zbc, zbh, and_assoc, zbb, zba, zby, zbj, zbl, zbs, zbo, cP, -List.length_flatten, -List.map_flatten]) | (refine zd2 (zt8 l l[i].fId hn hp) (by rfl) ?_ ?_; (focus (simp (disch := omega) [zbd, gE, tP, DtInst.cells, DtCmd.cells, DtId.cells, zbc, zbh, and_assoc, zbb, zba, zby, zbj, zbl, zbs, zbo, cP, -List.length_flatten, -List.map_flatten, zbc]; done)); simp (disch := omega) [zbd, gE, tP, DtInst.cells, DtCmd.cells, DtId.cells, zbc, zbh, and_assoc, zbb, zba, zby, zbj, zbl, zbs, zbo, cP, -List.length_flatten, -List.map_flatten]) | (refine ⟨fun _ => ?_, fun _ => ?_⟩) | (refine ⟨by omega, ?_⟩) | (simp (disch := omega) [zbd, gE, tP, DtInst.cells, DtCmd.cells, DtId.cells, zbc, zbh, and_assoc, zbb, zba, zby, zbj, zbl, zbs, zbo, cP, -List.length_flatten, -List.map_flatten]) | (intro _)
         all_goals (refine hK _ ?_; clear hK K)
         all_goals
          refine zbv rfl (fun hc3 => ?_) (fun hc3 => ?_)
          ·try simp [zbb, zba, zbf, zbe, zbp, zbq] at hc3
           all_goals
            refine zce ?_
            refine zb3 ?_
            refine zdx rfl rfl fun K hK => ?_
            simp (disch := omega) [zbd, gE, tP, DtInst.cells, DtCmd.cells, DtId.cells, zbc, zbh, and_assoc, zbb, zba, zby, zbj, zbl, zbs, zbo, cP, -List.length_flatten, -List.map_flatten]
            repeat' first | (exfalso; omega) | (refine ⟨fun _ => ?_, fun _ => ?_⟩) | (refine ⟨by omega, ?_⟩) | (simp (disch := omega) [zbd, gE, tP, DtInst.cells, DtCmd.cells, DtId.cells, zbc, zbh, and_assoc, zbb, zba, zby, zbj, zbl, zbs, zbo, cP, -List.length_flatten, -List.map_flatten]) | (intro _)
            all_goals (refine hK _ ?_; clear hK K)
            all_goals
             refine ⟨_, LeS.kw [(501, 501), (502, 502)] [(0, .sl 16 (l.map DtInst.cells)), (3, .arr 501 0 (out2).length), (4, .arr 502 0 (out2).flatten.length), (5, (.g (.bool ((fd))))), (6, (.g (.int .i64 (((i + 1) : Nat)))))] [(501, .win 1 ((out2).map cP)), (502, .win 2 ((out2).flatten.map DtId.cells))] (by simp [KpR, renV2, renV, zbn, zb4, zbk, zbx, DtId.cells, zbh, cP, zc4, zbo, zcl, zci, zcm, zcv, zct]; try rfl) (by simp [KpOW, wnO, renO, plO, cvO, renV, pl1, zbk, zbx, zbn, DtId.cells, zbh, cP, zc4, zbo, zcl, zci, zcm, zcv, zct]; try rfl) (by rfl) (by simp) (by simp) (by rfl) (by simp [formsX, List.range_succ, zbk, zbx]), _, ?_, i + 1, fd, out2, rfl, ?_, rfl⟩
             ·omega
             ·first | exact zpn hi (by omega) (by assumption) (fun hc => by unfold CandP at hc; rw [List.mem_flatten] at hc; grind) | exact zta hp hi (by omega) (by assumption) ho.1 (by unfold CandP; rw [List.mem_flatten]; grind) | trace_state
          ·try simp [zbb, zba, zbf, zbe, zbp, zbq] at hc3
           all_goals
            refine zbw ?_
            refine zb3 ?_
            refine AW_x rfl rfl fun K hK => ?_
            simp (disch := omega) [zbd, gE, tP, DtInst.cells, DtCmd.cells, DtId.cells, zbc, zbh, and_assoc, zbb, zba, zby, zbj, zbl, zbs, zbo, cP, -List.length_flatten, -List.map_flatten]
            repeat' first | (exfalso; omega) | (refine zd1 (zbg zca (zbg (zb6 rfl) zbr)) (zvf l l[i].fId hn hp (by assumption)) rfl ?_; simp (disch := omega) [zbd, gE, tP, DtInst.cells, DtCmd.cells, DtId.cells, zbc, zbh, and_assoc, zbb, zba, zby, zbj, zbl, zbs, zbo, cP, -List.length_flatten, -List.map_flatten]) | (refine zd2 (zvf l l[i].fId hn hp (by assumption)) (by rfl) ?_ ?_; (focus (simp (disch := omega) [zbd, gE, tP, DtInst.cells, DtCmd.cells, DtId.cells, zbc, zbh, and_assoc, zbb, zba, zby, zbj, zbl, zbs, zbo, cP, -List.length_flatten, -List.map_flatten, zbc]; done)); simp (disch := omega) [zbd, gE, tP, DtInst.cells, DtCmd.cells, DtId.cells, zbc, zbh, and_assoc, zbb, zba, zby, zbj, zbl, zbs, zbo, cP, -List.length_flatten, -List.map_flatten]) | (refine ⟨fun _ => ?_, fun _ => ?_⟩) | (refine ⟨by omega, ?_⟩) | (simp (disch := omega) [zbd, gE, tP, DtInst.cells, DtCmd.cells, DtId.cells, zbc, zbh, and_assoc, zbb, zba, zby, zbj, zbl, zbs, zbo, cP, -List.length_flatten, -List.map_flatten]) | (intro _)
            all_goals (refine hK _ ?_; clear hK K)
            all_goals
             refine AW_x rfl rfl fun K hK => ?_
             simp (disch := omega) [zbd, gE, tP, DtInst.cells, DtCmd.cells, DtId.cells, zbc, zbh, and_assoc, zbb, zba, zby, zbj, zbl, zbs, zbo, cP, -List.length_flatten, -List.map_flatten]
             repeat' first | (exfalso; omega) | (refine zd1 (zbg zca (zbg zca (zbg zca zbr))) (l12May l (partL l l[i].fId) out2.flatten hn hp (by omega) (by omega)) rfl ?_; simp (disch := omega) [zbd, gE, tP, DtInst.cells, DtCmd.cells, DtId.cells, zbc, zbh, and_assoc, zbb, zba, zby, zbj, zbl, zbs, zbo, cP, -List.length_flatten, -List.map_flatten]) | (refine zd2 (l12May l (partL l l[i].fId) out2.flatten hn hp (by omega) (by omega)) (by rfl) ?_ ?_; (focus (simp (disch := omega) [zbd, gE, tP, DtInst.cells, DtCmd.cells, DtId.cells, zbc, zbh, and_assoc, zbb, zba, zby, zbj, zbl, zbs, zbo, cP, -List.length_flatten, -List.map_flatten, zbc]; done)); simp (disch := omega) [zbd, gE, tP, DtInst.cells, DtCmd.cells, DtId.cells, zbc, zbh, and_assoc, zbb, zba, zby, zbj, zbl, zbs, zbo, cP, -List.length_flatten, -List.map_flatten]) | (refine ⟨by omega, ?_⟩) | (simp (disch := omega) [zbd, gE, tP, DtInst.cells, DtCmd.cells, DtId.cells, zbc, zbh, and_assoc, zbb, zba, zby, zbj, zbl, zbs, zbo, cP, -List.length_flatten, -List.map_flatten]) | (intro _)
             refine hK _ ?_; clear hK K
             refine zbv rfl (fun hc4 => ?_) (fun hc4 => ?_)
             ·try simp [zbb, zba, zbf, zbe, zbp, zbq] at hc4
              all_goals
               refine AW_x rfl rfl fun K hK => ?_
               simp (disch := omega) [zbd, gE, tP, DtInst.cells, DtCmd.cells, DtId.cells, zbc, zbh, and_assoc, zbb, zba, zby, zbj, zbl, zbs, zbo, cP, -List.length_flatten, -List.map_flatten]
               repeat' first | (exfalso; omega) | (refine ⟨fun _ => ?_, fun _ => ?_⟩) | (refine ⟨by omega, ?_⟩) | (simp (disch := omega) [zbd, gE, tP, DtInst.cells, DtCmd.cells, DtId.cells, zbc, zbh, and_assoc, zbb, zba, zby, zbj, zbl, zbs, zbo, cP, -List.length_flatten, -List.map_flatten]) | (intro _)
               all_goals (refine hK _ ?_; clear hK K)
               all_goals
                refine AW_x rfl rfl fun K hK => ?_
                simp (disch := omega) [zbd, gE, tP, DtInst.cells, DtCmd.cells, DtId.cells, zbc, zbh, and_assoc, zbb, zba, zby, zbj, zbl, zbs, zbo, cP, -List.length_flatten, -List.map_flatten]
                repeat' first | (refine ⟨by omega, ?_⟩) | (simp (disch := omega) [zbd, gE, tP, DtInst.cells, DtCmd.cells, DtId.cells, zbc, zbh, and_assoc, zbb, zba, zby, zbj, zbl, zbs, zbo, cP, -List.length_flatten, -List.map_flatten]) | (intro _)
                refine hK _ ?_; clear hK K
                refine zdx rfl rfl fun K hK => ?_
                simp (disch := omega) [zbd, gE, tP, DtInst.cells, DtCmd.cells, DtId.cells, zbc, zbh, and_assoc, zbb, zba, zby, zbj, zbl, zbs, zbo, cP, -List.length_flatten, -List.map_flatten]
                repeat' first | (refine ⟨by omega, ?_⟩) | (intro _)
                refine hK _ ?_; clear hK K
                refine zb3 ?_
                refine zdx rfl rfl fun K hK => ?_
                simp (disch := omega) [zbd, gE, tP, DtInst.cells, DtCmd.cells, DtId.cells, zbc, zbh, and_assoc, zbb, zba, zby, zbj, zbl, zbs, zbo, cP, -List.length_flatten, -List.map_flatten]
                repeat' first | (refine ⟨by omega, ?_⟩) | (intro _)
                refine hK _ ?_; clear hK K
                refine ⟨_, LeS.kw [(501, 864), (502, 912)] [(0, .sl 16 (l.map DtInst.cells)), (3, .arr 501 0 (out2 ++ [partL l l[i].fId]).length), (4, .arr 502 0 (out2 ++ [partL l l[i].fId]).flatten.length), (5, (.g (.bool ((true))))), (6, (.g (.int .i64 (((i + 1) : Nat)))))] [(501, .win 1 ((out2 ++ [partL l l[i].fId]).map cP)), (502, .win 2 ((out2 ++ [partL l l[i].fId]).flatten.map DtId.cells))] (by simp [KpR, renV2, renV, zbn, zb4, zbk, zbx, DtId.cells, zbh, cP, zc4, zbo, zcl, zci, zcm, zcv, zct]; try rfl) (by simp [KpOW, wnO, renO, plO, cvO, renV, pl1, zbk, zbx, zbn, DtId.cells, zbh, cP, zc4, zbo, zcl, zci, zcm, zcv, zct]; try rfl) (by rfl) (by simp) (by simp) (by rfl) (by simp [formsX, List.range_succ, zbk, zbx]), _, ?_, i + 1, true, out2 ++ [partL l l[i].fId], rfl, ?_, rfl⟩
                ·omega
                ·first | exact zpn hi (by omega) (by assumption) (fun hc => by unfold CandP at hc; rw [List.mem_flatten] at hc; grind) | exact zta hp hi (by omega) (by assumption) ho.1 (by unfold CandP; rw [List.mem_flatten]; grind) | trace_state
             ·try simp [zbb, zba, zbf, zbe, zbp, zbq] at hc4
              all_goals
               refine zbw ?_
               refine zb3 ?_
               refine zdx rfl rfl fun K hK => ?_
               simp (disch := omega) [zbd, gE, tP, DtInst.cells, DtCmd.cells, DtId.cells, zbc, zbh, and_assoc, zbb, zba, zby, zbj, zbl, zbs, zbo, cP, -List.length_flatten, -List.map_flatten]
               repeat' first | (exfalso; omega) | (refine ⟨fun _ => ?_, fun _ => ?_⟩) | (refine ⟨by omega, ?_⟩) | (simp (disch := omega) [zbd, gE, tP, DtInst.cells, DtCmd.cells, DtId.cells, zbc, zbh, and_assoc, zbb, zba, zby, zbj, zbl, zbs, zbo, cP, -List.length_flatten, -List.map_flatten]) | (intro _)
               all_goals (refine hK _ ?_; clear hK K)
               all_goals
                refine ⟨_, LeS.kw [(501, 501), (502, 502)] [(0, .sl 16 (l.map DtInst.cells)), (3, .arr 501 0 (out2).length), (4, .arr 502 0 (out2).flatten.length), (5, (.g (.bool ((fd))))), (6, (.g (.int .i64 (((i + 1) : Nat)))))] [(501, .win 1 ((out2).map cP)), (502, .win 2 ((out2).flatten.map DtId.cells))] (by simp [KpR, renV2, renV, zbn, zb4, zbk, zbx, DtId.cells, zbh, cP, zc4, zbo, zcl, zci, zcm, zcv, zct]; try rfl) (by simp [KpOW, wnO, renO, plO, cvO, renV, pl1, zbk, zbx, zbn, DtId.cells, zbh, cP, zc4, zbo, zcl, zci, zcm, zcv, zct]; try rfl) (by rfl) (by simp) (by simp) (by rfl) (by simp [formsX, List.range_succ, zbk, zbx]), _, ?_, i + 1, fd, out2, rfl, ?_, rfl⟩
                ·omega
                ·first | exact zpn hi (by omega) (by assumption) (fun hc => by unfold CandP at hc; rw [List.mem_flatten] at hc; grind) | exact zta hp hi (by omega) (by assumption) ho.1 (by unfold CandP; rw [List.mem_flatten]; grind) | trace_state
       ·try simp [zbb, zba, zbf, zbe, zbp, zbq] at hc2
        all_goals
         have hle := hi.le
         refine zce ?_
         refine zb3 ?_
         refine AW_x rfl rfl fun K hK => ?_
         simp (disch := omega) [zbd, gE, tP, DtInst.cells, DtCmd.cells, DtId.cells, zbc, zbh, and_assoc, zbb, zba, zby, zbj, zbl, zbs, zbo, cP, -List.length_flatten, -List.map_flatten]
         repeat' first | (exfalso; omega) | (refine ⟨fun _ => ?_, fun _ => ?_⟩) | (refine ⟨by omega, ?_⟩) | (simp (disch := omega) [zbd, gE, tP, DtInst.cells, DtCmd.cells, DtId.cells, zbc, zbh, and_assoc, zbb, zba, zby, zbj, zbl, zbs, zbo, cP, -List.length_flatten, -List.map_flatten]) | (intro _)
         all_goals (refine hK _ ?_; clear hK K)
         all_goals
          refine zbv rfl (fun hc5 => ?_) (fun hc5 => ?_)
          ·try simp [zbb, zba, zbf, zbe, zbp, zbq] at hc5
           all_goals
            refine AW_x rfl rfl fun K hK => ?_
            simp (disch := omega) [zbd, gE, tP, DtInst.cells, DtCmd.cells, DtId.cells, zbc, zbh, and_assoc, zbb, zba, zby, zbj, zbl, zbs, zbo, cP, -List.length_flatten, -List.map_flatten]
            repeat' first | (exfalso; omega) | (refine ⟨fun _ => ?_, fun _ => ?_⟩) | (refine ⟨by omega, ?_⟩) | (simp (disch := omega) [zbd, gE, tP, DtInst.cells, DtCmd.cells, DtId.cells, zbc, zbh, and_assoc, zbb, zba, zby, zbj, zbl, zbs, zbo, cP, -List.length_flatten, -List.map_flatten]) | (intro _)
            all_goals (refine hK _ ?_; clear hK K)
            all_goals
             refine zbz (zhi ?_)
             simp (disch := omega) [zbd, gE, tP, DtInst.cells, DtCmd.cells, DtId.cells, zbc, zbh, and_assoc, zbb, zba, zby, zbj, zbl, zbs, zbo, cP, -List.length_flatten, -List.map_flatten, hpb]
             all_goals first | (exfalso; simp_all; done) | (have hfd : fd = false := (by assumption); have hno := hi.no hfd; have hil : i = l.length := (by have := hi.le; rcases hc2 with h | h <;> first | omega | simp_all); rw [zj3 ho (zm6 hp ho.1 (by rw [← hil]; exact hno.2)), hno.1]) | trace_state
          ·try simp [zbb, zba, zbf, zbe, zbp, zbq] at hc5
           all_goals
            refine zbw ?_
            obtain ⟨p, hn1, hn2⟩ := hi.yes (by simp_all)
            have hpi := pinv_s hp ho hn1
            rw [← hn2] at hpi
            refine ⟨_, LeS.kw [(501, 501), (502, 502)] [(0, .sl 16 (l.map DtInst.cells)), (3, .arr 501 0 (out2).length), (4, .arr 502 0 (out2).flatten.length)] [(501, .win 1 ((out2).map cP)), (502, .win 2 ((out2).flatten.map DtId.cells))] (by simp [KpR, renV2, renV, zbn, zb4, zbk, zbx, DtId.cells, zbh, cP, zc4, zbo, zcl, zci, zcm, zcv, zct]; try rfl) (by simp [KpOW, wnO, renO, plO, cvO, renV, pl1, zbk, zbx, zbn, DtId.cells, zbh, cP, zc4, zbo, zcl, zci, zcm, zcv, zct]; try rfl) (by rfl) (by simp) (by simp) (by rfl) (by simp [formsX, List.range_succ, zbk, zbx]), _, ?_, out2, rfl, ?_, rfl⟩
            ·omega
            ·exact hpi.1
  ·try simp [zbb, zba, zbf, zbe, zbp, zbq] at hc1
   all_goals
    refine zce ?_
    refine zb3 ?_
    refine AW_x rfl rfl fun K hK => ?_
    simp (disch := omega) [zbd, gE, tP, DtInst.cells, DtCmd.cells, DtId.cells, zbc, zbh, and_assoc, zbb, zba, zby, zbj, zbl, zbs, zbo, cP, -List.length_flatten, -List.map_flatten]
    repeat' first | (exfalso; omega) | (refine ⟨fun _ => ?_, fun _ => ?_⟩) | (refine ⟨by omega, ?_⟩) | (simp (disch := omega) [zbd, gE, tP, DtInst.cells, DtCmd.cells, DtId.cells, zbc, zbh, and_assoc, zbb, zba, zby, zbj, zbl, zbs, zbo, cP, -List.length_flatten, -List.map_flatten]) | (intro _)
    all_goals (refine hK _ ?_; clear hK K)
    all_goals
     refine zbz (zhi ?_)
     simp (disch := omega) [zbd, gE, tP, DtInst.cells, DtCmd.cells, DtId.cells, zbc, zbh, and_assoc, zbb, zba, zby, zbj, zbl, zbs, zbo, cP, -List.length_flatten, -List.map_flatten, hpb]
     all_goals first | (exfalso; simp_all; done) | (have hfd : fd = false := (by assumption); have hno := hi.no hfd; have hil : i = l.length := (by have := hi.le; rcases hc2 with h | h <;> first | omega | simp_all); rw [zj3 ho (zm6 hp ho.1 (by rw [← hil]; exact hno.2)), hno.1]) | trace_state
end Go.Proofs.Ytfbmhgiokfpgiaa.Vs
