import Derived.Test.YtfbmhgiokfpgiaaGreatSPeQ
open Go Go.Proofs Go.Proofs.YtfbmhgiokfpgiaaGreat.Vs
namespace Go.Proofs.YtfbmhgiokfpgiaaGreat.Vs
set_option linter.all false
set_option linter.unusedSimpArgs false
set_option linter.unusedVariables false
set_option maxRecDepth 100000
set_option maxHeartbeats 4000000
/-! all parts, as the reference makes them -/
theorem zc0 (l : List (List DtId)) : scR (l.map (List.map DtId.cells)).flatten = true := by rw [← List.map_flatten]; exact zbe _
theorem zbo (l : List (List DtId)) : immR (l.map cP) = true := zlc _ (fun _ => rfl) l
structure SpI (l : List DtInst) (out out2 : List (List DtId)) (fd : Bool) (i : Nat) : Prop where
 le : i ≤ l.length
 no : fd = false → out2 = out ∧ ∀ (j : Nat) x, j < i → l[j]? = some x → ¬ CandP l out.flatten x.fId
 yes : fd = true → ∃ p, nextP l out = some p ∧ out2 = out ++ [p]
theorem spI_0 (l : List DtInst) (out : List (List DtId)) : SpI l out out false 0 := ⟨by omega, fun _ => ⟨rfl, fun j x h => by omega⟩, fun h => by cases h⟩
theorem zqh {l : List DtInst} {out out2 : List (List DtId)} {fd : Bool} {i : Nat} (h : SpI l out out2 fd i) (hi : i < l.length) (hf : fd = false) (hc : ¬ CandP l out2.flatten l[i].fId) : SpI l out out2 fd (i + 1) := by
 rw [(h.no hf).1] at hc
 refine ⟨by omega, fun _ => ⟨(h.no hf).1, fun j x hj hx => ?_⟩, fun h2 => by rw [hf] at h2; cases h2⟩
 by_cases e : j = i
 ·subst e; rw [List.getElem?_eq_getElem hi] at hx; cases hx; exact hc
 ·exact (h.no hf).2 j x (by omega) hx
theorem zt4 {l : List DtInst} (hp : InstsP l) {out out2 : List (List DtId)} {fd : Bool} {i : Nat} (h : SpI l out out2 fd i) (hi : i < l.length) (hf : fd = false) (ho : OutOk l out) (hc : CandP l out2.flatten l[i].fId) : SpI l out (out2 ++ [partL l l[i].fId]) true (i + 1) := by
 rw [(h.no hf).1] at hc
 exact ⟨by omega, fun h => (by cases h), fun _ => ⟨_, nextP_hit hp ho hi (h.no hf).2 hc, by rw [(h.no hf).1]⟩⟩
theorem spI_len {l : List DtInst} (hp : InstsP l) {out out2 : List (List DtId)} {fd : Bool} {i : Nat} (hi : PInv l out) (h : SpI l out out2 fd i) : OutOk l out2 := by
 cases fd with
 | false => rw [(h.no rfl).1]; exact hi.1
 | true => obtain ⟨p, h1, rfl⟩ := h.yes rfl; exact (pinv_s hp hi h1).1.1
theorem specParts (l : List DtInst) (hs : szS DtInst.sz l ≤ 1048576) (hn : l.length ≤ 1048576) (hp : InstsP l) : PCall Tryz.prog 27 [.sl 16 (l.map DtInst.cells)] (.sl 1 ((partsL l).map cP)) := by
 have hpb := zcu hp
 refine zdz Tryz.func27 (by rfl) (by rfl) (by rw [Tryz.ntmps27]; exact Nat.le_of_ble_eq_true rfl) ?_
 rw [Tryz.ntmps27]
 refine zfb ?_
 refine AW_k [(0, _)] ⟨rfl, trivial⟩ ?_
 refine AW_x rfl rfl fun K hK => ?_
 simp (disch := omega) [zbd, gE, tP, DtInst.cells, DtCmd.cells, DtId.cells, zba, zbe, and_assoc, zbc, zbb, zbx, zbk, zbm, zbw, zbo, cP, -List.length_flatten, -List.map_flatten]
 repeat' first | (refine ⟨by omega, ?_⟩) | (intro _)
 refine hK _ ?_; clear hK K
 refine AW_x rfl rfl fun K hK => ?_
 simp (disch := omega) [zbd, gE, tP, DtInst.cells, DtCmd.cells, DtId.cells, zba, zbe, and_assoc, zbc, zbb, zbx, zbk, zbm, zbw, zbo, cP, -List.length_flatten, -List.map_flatten]
 repeat' first | (refine ⟨by omega, ?_⟩) | (simp (disch := omega) [zbd, gE, tP, DtInst.cells, DtCmd.cells, DtId.cells, zba, zbe, and_assoc, zbc, zbb, zbx, zbk, zbm, zbw, zbo, cP, -List.length_flatten, -List.map_flatten]) | (intro _)
 refine hK _ ?_; clear hK K
 refine AW_x rfl rfl fun K hK => ?_
 simp (disch := omega) [zbd, gE, tP, DtInst.cells, DtCmd.cells, DtId.cells, zba, zbe, and_assoc, zbc, zbb, zbx, zbk, zbm, zbw, zbo, cP, -List.length_flatten, -List.map_flatten]
 repeat' first | (refine ⟨by omega, ?_⟩) | (simp (disch := omega) [zbd, gE, tP, DtInst.cells, DtCmd.cells, DtId.cells, zba, zbe, and_assoc, zbc, zbb, zbx, zbk, zbm, zbw, zbo, cP, -List.length_flatten, -List.map_flatten]) | (intro _)
 refine hK _ ?_; clear hK K
 refine zbr ?_
 refine zb0 ?_
 refine zcf (fun mM sS => ∃ (out : List (List DtId)), mM = (leftR l out).length ∧ (PInv l out) ∧ sS = { env := lkE [(0, .sl 16 (l.map DtInst.cells)), (3, .arr 501 0 out.length), (4, .arr 502 0 out.flatten.length)], ob := lk [(501, .win 1 (out.map cP)), (502, .win 2 (out.flatten.map DtId.cells))] }) ?_ ?_
 ·refine ⟨_, LeS.kw [(501, 144), (502, 160)] [(0, .sl 16 (l.map DtInst.cells)), (3, .arr 501 0 ([]).length), (4, .arr 502 0 ([]).flatten.length)] [(501, .win 1 (([]).map cP)), (502, .win 2 (([]).flatten.map DtId.cells))] (by simp [KpR, renV2, renV, zbl, zb5, zbi, zbp, DtId.cells, zbe, cP, zda, zbo, zcq, zcm, zcr, zc2, zc0]; try rfl) (by simp [KpOW, wnO, renO, plO, cvO, renV, pl1, zbi, zbp, zbl, DtId.cells, zbe, cP, zda, zbo, zcq, zcm, zcr, zc2, zc0]; try rfl) (by rfl) (by simp) (by simp) (by rfl) (by simp [formsX, List.range_succ, zbi, zbp]), _, [], rfl, ?_, rfl⟩
  ·exact pinv_0 l
 ·rintro mM sS ⟨out, rfl, ho, rfl⟩
  have ⟨hl1, hl2, hl3⟩ := zli hp ho.1
  refine zbr ?_
  refine AW_x rfl rfl fun K hK => ?_
  simp (disch := omega) [zbd, gE, tP, DtInst.cells, DtCmd.cells, DtId.cells, zba, zbe, and_assoc, zbc, zbb, zbx, zbk, zbm, zbw, zbo, cP, -List.length_flatten, -List.map_flatten]
  repeat' first | (exfalso; omega) | (refine zde (zbh zce zbs) (zgy _ (by assumption)) rfl ?_; simp (disch := omega) [zbd, gE, tP, DtInst.cells, DtCmd.cells, DtId.cells, zba, zbe, and_assoc, zbc, zbb, zbx, zbk, zbm, zbw, zbo, cP, -List.length_flatten, -List.map_flatten]) | (refine zdf (zgy _ (by assumption)) (by rfl) ?_ ?_; (focus (simp (disch := omega) [zbd, gE, tP, DtInst.cells, DtCmd.cells, DtId.cells, zba, zbe, and_assoc, zbc, zbb, zbx, zbk, zbm, zbw, zbo, cP, -List.length_flatten, -List.map_flatten, zba]; done)); simp (disch := omega) [zbd, gE, tP, DtInst.cells, DtCmd.cells, DtId.cells, zba, zbe, and_assoc, zbc, zbb, zbx, zbk, zbm, zbw, zbo, cP, -List.length_flatten, -List.map_flatten]) | (refine ⟨by omega, ?_⟩) | (simp (disch := omega) [zbd, gE, tP, DtInst.cells, DtCmd.cells, DtId.cells, zba, zbe, and_assoc, zbc, zbb, zbx, zbk, zbm, zbw, zbo, cP, -List.length_flatten, -List.map_flatten]) | (intro _)
  refine hK _ ?_; clear hK K
  refine zbu rfl (fun hc1 => ?_) (fun hc1 => ?_)
  ·try simp [zbc, zbb, zbg, zbf, zbq, zbt] at hc1
   all_goals
    refine zbv ?_
    refine zb4 ?_
    refine zb0 ?_
    refine AW_x rfl rfl fun K hK => ?_
    simp (disch := omega) [zbd, gE, tP, DtInst.cells, DtCmd.cells, DtId.cells, zba, zbe, and_assoc, zbc, zbb, zbx, zbk, zbm, zbw, zbo, cP, -List.length_flatten, -List.map_flatten]
    repeat' first | (exfalso; omega) | (refine ⟨fun _ => ?_, fun _ => ?_⟩) | (refine ⟨by omega, ?_⟩) | (simp (disch := omega) [zbd, gE, tP, DtInst.cells, DtCmd.cells, DtId.cells, zba, zbe, and_assoc, zbc, zbb, zbx, zbk, zbm, zbw, zbo, cP, -List.length_flatten, -List.map_flatten]) | (intro _)
    all_goals (refine hK _ ?_; clear hK K)
    all_goals
     refine zbr ?_
     refine AW_x rfl rfl fun K hK => ?_
     simp (disch := omega) [zbd, gE, tP, DtInst.cells, DtCmd.cells, DtId.cells, zba, zbe, and_assoc, zbc, zbb, zbx, zbk, zbm, zbw, zbo, cP, -List.length_flatten, -List.map_flatten]
     repeat' first | (refine ⟨by omega, ?_⟩) | (intro _)
     refine hK _ ?_; clear hK K
     refine zb0 ?_
     refine zcf (fun mM sS => ∃ (i : Nat) (fd : Bool) (out2 : List (List DtId)), mM = l.length - i ∧ (SpI l out out2 fd i) ∧ sS = { env := lkE [(0, .sl 16 (l.map DtInst.cells)), (3, .arr 501 0 out2.length), (4, .arr 502 0 out2.flatten.length), (5, (.g (.bool (fd)))), (6, (.g (.int .i64 ((i : Nat)))))], ob := lk [(501, .win 1 (out2.map cP)), (502, .win 2 (out2.flatten.map DtId.cells))] }) ?_ ?_
     ·refine ⟨_, LeS.kw [(501, 501), (502, 502)] [(0, .sl 16 (l.map DtInst.cells)), (3, .arr 501 0 (out).length), (4, .arr 502 0 (out).flatten.length), (5, (.g (.bool ((false))))), (6, (.g (.int .i64 (((0) : Nat)))))] [(501, .win 1 ((out).map cP)), (502, .win 2 ((out).flatten.map DtId.cells))] (by simp [KpR, renV2, renV, zbl, zb5, zbi, zbp, DtId.cells, zbe, cP, zda, zbo, zcq, zcm, zcr, zc2, zc0]; try rfl) (by simp [KpOW, wnO, renO, plO, cvO, renV, pl1, zbi, zbp, zbl, DtId.cells, zbe, cP, zda, zbo, zcq, zcm, zcr, zc2, zc0]; try rfl) (by rfl) (by simp) (by simp) (by rfl) (by simp [formsX, List.range_succ, zbi, zbp]), _, 0, false, out, rfl, ?_, rfl⟩
      ·exact spI_0 l out
     ·rintro mM sS ⟨i, fd, out2, rfl, hi, rfl⟩
      have hio := spI_len hp ho hi
      have ⟨hm1, hm2, hm3⟩ := zli hp hio
      refine zbr ?_
      refine AW_x rfl rfl fun K hK => ?_
      simp (disch := omega) [zbd, gE, tP, DtInst.cells, DtCmd.cells, DtId.cells, zba, zbe, and_assoc, zbc, zbb, zbx, zbk, zbm, zbw, zbo, cP, -List.length_flatten, -List.map_flatten]
      repeat' first | (exfalso; omega) | (refine ⟨fun _ => ?_, fun _ => ?_⟩) | (refine ⟨by omega, ?_⟩) | (simp (disch := omega) [zbd, gE, tP, DtInst.cells, DtCmd.cells, DtId.cells, zba, zbe, and_assoc, zbc, zbb, zbx, zbk, zbm, zbw, zbo, cP, -List.length_flatten, -List.map_flatten]) | (intro _)
      all_goals (refine hK _ ?_; clear hK K)
      all_goals
       refine zbu rfl (fun hc2 => ?_) (fun hc2 => ?_)
       ·try simp [zbc, zbb, zbg, zbf, zbq, zbt] at hc2
        all_goals
         have hpl := zhc hp (id := l[i].fId) (zfc hp (List.getElem_mem _)).1
         refine zbv ?_
         refine zb4 ?_
         refine zbr ?_
         refine zb0 ?_
         refine zbr ?_
         refine AW_x rfl rfl fun K hK => ?_
         simp (disch := omega) [zbd, gE, tP, DtInst.cells, DtCmd.cells, DtId.cells, zba, zbe, and_assoc, zbc, zbb, zbx, zbk, zbm, zbw, zbo, cP, -List.length_flatten, -List.map_flatten]
         repeat' first | (exfalso; omega) | (refine zde (zbh zce (zbh (zcb rfl) zbs)) (zxh out2.flatten l[i].fId (by omega)) rfl ?_; simp (disch := omega) [zbd, gE, tP, DtInst.cells, DtCmd.cells, DtId.cells, zba, zbe, and_assoc, zbc, zbb, zbx, zbk, zbm, zbw, zbo, cP, -List.length_flatten, -List.map_flatten]) | (refine zdf (zxh out2.flatten l[i].fId (by omega)) (by rfl) ?_ ?_; (focus (simp (disch := omega) [zbd, gE, tP, DtInst.cells, DtCmd.cells, DtId.cells, zba, zbe, and_assoc, zbc, zbb, zbx, zbk, zbm, zbw, zbo, cP, -List.length_flatten, -List.map_flatten, zba]; done)); simp (disch := omega) [zbd, gE, tP, DtInst.cells, DtCmd.cells, DtId.cells, zba, zbe, and_assoc, zbc, zbb, zbx, zbk, zbm, zbw, zbo, cP, -List.length_flatten, -List.map_flatten]) | (refine zde (zbh zce (zbh (zcb rfl) zbs)) (zv4 l l[i].fId hn hp) rfl ?_; simp (disch := omega) [zbd, gE, tP, DtInst.cells, DtCmd.cells, DtId.cells, zba, zbe, and_assoc, zbc, zbb, zbx, zbk, zbm, zbw, zbo, cP, -List.length_flatten, -List.map_flatten]) | (refine zdf (zv4 l l[i].fId hn hp) (by rfl) ?_ ?_; (focus (simp (disch := omega) [zbd, gE, tP, DtInst.cells, DtCmd.cells, DtId.cells, zba, zbe, and_assoc, zbc, zbb, zbx, zbk, zbm, zbw, zbo, cP, -List.length_flatten, -List.map_flatten, zba]; done)); simp (disch := omega) [zbd, gE, tP, DtInst.cells, DtCmd.cells, DtId.cells, zba, zbe, and_assoc, zbc, zbb, zbx, zbk, zbm, zbw, zbo, cP, -List.length_flatten, -List.map_flatten]) | (refine ⟨fun _ => ?_, fun _ => ?_⟩) | (refine ⟨by omega, ?_⟩) | (simp (disch := omega) [zbd, gE, tP, DtInst.cells, DtCmd.cells, DtId.cells, zba, zbe, and_assoc, zbc, zbb, zbx, zbk, zbm, zbw, zbo, cP, -List.length_flatten, -List.map_flatten]) | (intro _)
         all_goals (refine hK _ ?_; clear hK K)
         all_goals
          refine zbu rfl (fun hc3 => ?_) (fun hc3 => ?_)
          ·try simp [zbc, zbb, zbg, zbf, zbq, zbt] at hc3
           all_goals
            refine zch ?_
            refine zb4 ?_
            refine zdd rfl rfl fun K hK => ?_
            simp (disch := omega) [zbd, gE, tP, DtInst.cells, DtCmd.cells, DtId.cells, zba, zbe, and_assoc, zbc, zbb, zbx, zbk, zbm, zbw, zbo, cP, -List.length_flatten, -List.map_flatten]
            repeat' first | (exfalso; omega) | (refine ⟨fun _ => ?_, fun _ => ?_⟩) | (refine ⟨by omega, ?_⟩) | (simp (disch := omega) [zbd, gE, tP, DtInst.cells, DtCmd.cells, DtId.cells, zba, zbe, and_assoc, zbc, zbb, zbx, zbk, zbm, zbw, zbo, cP, -List.length_flatten, -List.map_flatten]) | (intro _)
            all_goals (refine hK _ ?_; clear hK K)
            all_goals
             refine ⟨_, LeS.kw [(501, 501), (502, 502)] [(0, .sl 16 (l.map DtInst.cells)), (3, .arr 501 0 (out2).length), (4, .arr 502 0 (out2).flatten.length), (5, (.g (.bool ((fd))))), (6, (.g (.int .i64 (((i + 1) : Nat)))))] [(501, .win 1 ((out2).map cP)), (502, .win 2 ((out2).flatten.map DtId.cells))] (by simp [KpR, renV2, renV, zbl, zb5, zbi, zbp, DtId.cells, zbe, cP, zda, zbo, zcq, zcm, zcr, zc2, zc0]; try rfl) (by simp [KpOW, wnO, renO, plO, cvO, renV, pl1, zbi, zbp, zbl, DtId.cells, zbe, cP, zda, zbo, zcq, zcm, zcr, zc2, zc0]; try rfl) (by rfl) (by simp) (by simp) (by rfl) (by simp [formsX, List.range_succ, zbi, zbp]), _, ?_, i + 1, fd, out2, rfl, ?_, rfl⟩
             ·omega
             ·first | exact zqh hi (by omega) (by assumption) (fun hc => by unfold CandP at hc; rw [List.mem_flatten] at hc; grind) | exact zt4 hp hi (by omega) (by assumption) ho.1 (by unfold CandP; rw [List.mem_flatten]; grind) | trace_state
          ·try simp [zbc, zbb, zbg, zbf, zbq, zbt] at hc3
           all_goals
            refine zbv ?_
            refine zb4 ?_
            refine AW_x rfl rfl fun K hK => ?_
            simp (disch := omega) [zbd, gE, tP, DtInst.cells, DtCmd.cells, DtId.cells, zba, zbe, and_assoc, zbc, zbb, zbx, zbk, zbm, zbw, zbo, cP, -List.length_flatten, -List.map_flatten]
            repeat' first | (exfalso; omega) | (refine zde (zbh zce (zbh (zcb rfl) zbs)) (zwe l l[i].fId hn hp (by assumption)) rfl ?_; simp (disch := omega) [zbd, gE, tP, DtInst.cells, DtCmd.cells, DtId.cells, zba, zbe, and_assoc, zbc, zbb, zbx, zbk, zbm, zbw, zbo, cP, -List.length_flatten, -List.map_flatten]) | (refine zdf (zwe l l[i].fId hn hp (by assumption)) (by rfl) ?_ ?_; (focus (simp (disch := omega) [zbd, gE, tP, DtInst.cells, DtCmd.cells, DtId.cells, zba, zbe, and_assoc, zbc, zbb, zbx, zbk, zbm, zbw, zbo, cP, -List.length_flatten, -List.map_flatten, zba]; done)); simp (disch := omega) [zbd, gE, tP, DtInst.cells, DtCmd.cells, DtId.cells, zba, zbe, and_assoc, zbc, zbb, zbx, zbk, zbm, zbw, zbo, cP, -List.length_flatten, -List.map_flatten]) | (refine ⟨fun _ => ?_, fun _ => ?_⟩) | (refine ⟨by omega, ?_⟩) | (simp (disch := omega) [zbd, gE, tP, DtInst.cells, DtCmd.cells, DtId.cells, zba, zbe, and_assoc, zbc, zbb, zbx, zbk, zbm, zbw, zbo, cP, -List.length_flatten, -List.map_flatten]) | (intro _)
            all_goals (refine hK _ ?_; clear hK K)
            all_goals
             refine AW_x rfl rfl fun K hK => ?_
             simp (disch := omega) [zbd, gE, tP, DtInst.cells, DtCmd.cells, DtId.cells, zba, zbe, and_assoc, zbc, zbb, zbx, zbk, zbm, zbw, zbo, cP, -List.length_flatten, -List.map_flatten]
             repeat' first | (exfalso; omega) | (refine zde (zbh zce (zbh zce (zbh zce zbs))) (l12May l (partL l l[i].fId) out2.flatten hn hp (by omega) (by omega)) rfl ?_; simp (disch := omega) [zbd, gE, tP, DtInst.cells, DtCmd.cells, DtId.cells, zba, zbe, and_assoc, zbc, zbb, zbx, zbk, zbm, zbw, zbo, cP, -List.length_flatten, -List.map_flatten]) | (refine zdf (l12May l (partL l l[i].fId) out2.flatten hn hp (by omega) (by omega)) (by rfl) ?_ ?_; (focus (simp (disch := omega) [zbd, gE, tP, DtInst.cells, DtCmd.cells, DtId.cells, zba, zbe, and_assoc, zbc, zbb, zbx, zbk, zbm, zbw, zbo, cP, -List.length_flatten, -List.map_flatten, zba]; done)); simp (disch := omega) [zbd, gE, tP, DtInst.cells, DtCmd.cells, DtId.cells, zba, zbe, and_assoc, zbc, zbb, zbx, zbk, zbm, zbw, zbo, cP, -List.length_flatten, -List.map_flatten]) | (refine ⟨by omega, ?_⟩) | (simp (disch := omega) [zbd, gE, tP, DtInst.cells, DtCmd.cells, DtId.cells, zba, zbe, and_assoc, zbc, zbb, zbx, zbk, zbm, zbw, zbo, cP, -List.length_flatten, -List.map_flatten]) | (intro _)
             refine hK _ ?_; clear hK K
             refine zbu rfl (fun hc4 => ?_) (fun hc4 => ?_)
             ·try simp [zbc, zbb, zbg, zbf, zbq, zbt] at hc4
              all_goals
               refine AW_x rfl rfl fun K hK => ?_
               simp (disch := omega) [zbd, gE, tP, DtInst.cells, DtCmd.cells, DtId.cells, zba, zbe, and_assoc, zbc, zbb, zbx, zbk, zbm, zbw, zbo, cP, -List.length_flatten, -List.map_flatten]
               repeat' first | (exfalso; omega) | (refine ⟨fun _ => ?_, fun _ => ?_⟩) | (refine ⟨by omega, ?_⟩) | (simp (disch := omega) [zbd, gE, tP, DtInst.cells, DtCmd.cells, DtId.cells, zba, zbe, and_assoc, zbc, zbb, zbx, zbk, zbm, zbw, zbo, cP, -List.length_flatten, -List.map_flatten]) | (intro _)
               all_goals (refine hK _ ?_; clear hK K)
               all_goals
                refine AW_x rfl rfl fun K hK => ?_
                simp (disch := omega) [zbd, gE, tP, DtInst.cells, DtCmd.cells, DtId.cells, zba, zbe, and_assoc, zbc, zbb, zbx, zbk, zbm, zbw, zbo, cP, -List.length_flatten, -List.map_flatten]
                repeat' first | (refine ⟨by omega, ?_⟩) | (simp (disch := omega) [zbd, gE, tP, DtInst.cells, DtCmd.cells, DtId.cells, zba, zbe, and_assoc, zbc, zbb, zbx, zbk, zbm, zbw, zbo, cP, -List.length_flatten, -List.map_flatten]) | (intro _)
                refine hK _ ?_; clear hK K
                refine zdd rfl rfl fun K hK => ?_
                simp (disch := omega) [zbd, gE, tP, DtInst.cells, DtCmd.cells, DtId.cells, zba, zbe, and_assoc, zbc, zbb, zbx, zbk, zbm, zbw, zbo, cP, -List.length_flatten, -List.map_flatten]
                repeat' first | (refine ⟨by omega, ?_⟩) | (intro _)
                refine hK _ ?_; clear hK K
                refine zb4 ?_
                refine zdd rfl rfl fun K hK => ?_
                simp (disch := omega) [zbd, gE, tP, DtInst.cells, DtCmd.cells, DtId.cells, zba, zbe, and_assoc, zbc, zbb, zbx, zbk, zbm, zbw, zbo, cP, -List.length_flatten, -List.map_flatten]
                repeat' first | (refine ⟨by omega, ?_⟩) | (intro _)
                refine hK _ ?_; clear hK K
                refine ⟨_, LeS.kw [(501, 864), (502, 912)] [(0, .sl 16 (l.map DtInst.cells)), (3, .arr 501 0 (out2 ++ [partL l l[i].fId]).length), (4, .arr 502 0 (out2 ++ [partL l l[i].fId]).flatten.length), (5, (.g (.bool ((true))))), (6, (.g (.int .i64 (((i + 1) : Nat)))))] [(501, .win 1 ((out2 ++ [partL l l[i].fId]).map cP)), (502, .win 2 ((out2 ++ [partL l l[i].fId]).flatten.map DtId.cells))] (by simp [KpR, renV2, renV, zbl, zb5, zbi, zbp, DtId.cells, zbe, cP, zda, zbo, zcq, zcm, zcr, zc2, zc0]; try rfl) (by simp [KpOW, wnO, renO, plO, cvO, renV, pl1, zbi, zbp, zbl, DtId.cells, zbe, cP, zda, zbo, zcq, zcm, zcr, zc2, zc0]; try rfl) (by rfl) (by simp) (by simp) (by rfl) (by simp [formsX, List.range_succ, zbi, zbp]), _, ?_, i + 1, true, out2 ++ [partL l l[i].fId], rfl, ?_, rfl⟩
                ·omega
                ·first | exact zqh hi (by omega) (by assumption) (fun hc => by unfold CandP at hc; rw [List.mem_flatten] at hc; grind) | exact zt4 hp hi (by omega) (by assumption) ho.1 (by unfold CandP; rw [List.mem_flatten]; grind) | trace_state
             ·try simp [zbc, zbb, zbg, zbf, zbq, zbt] at hc4
              all_goals
               refine zbv ?_
               refine zb4 ?_
               refine zdd rfl rfl fun K hK => ?_
               simp (disch := omega) [zbd, gE, tP, DtInst.cells, DtCmd.cells, DtId.cells, zba, zbe, and_assoc, zbc, zbb, zbx, zbk, zbm, zbw, zbo, cP, -List.length_flatten, -List.map_flatten]
               repeat' first | (exfalso; omega) | (refine ⟨fun _ => ?_, fun _ => ?_⟩) | (refine ⟨by omega, ?_⟩) | (simp (disch := omega) [zbd, gE, tP, DtInst.cells, DtCmd.cells, DtId.cells, zba, zbe, and_assoc, zbc, zbb, zbx, zbk, zbm, zbw, zbo, cP, -List.length_flatten, -List.map_flatten]) | (intro _)
               all_goals (refine hK _ ?_; clear hK K)
               all_goals
                refine ⟨_, LeS.kw [(501, 501), (502, 502)] [(0, .sl 16 (l.map DtInst.cells)), (3, .arr 501 0 (out2).length), (4, .arr 502 0 (out2).flatten.length), (5, (.g (.bool ((fd))))), (6, (.g (.int .i64 (((i + 1) : Nat)))))] [(501, .win 1 ((out2).map cP)), (502, .win 2 ((out2).flatten.map DtId.cells))] (by simp [KpR, renV2, renV, zbl, zb5, zbi, zbp, DtId.cells, zbe, cP, zda, zbo, zcq, zcm, zcr, zc2, zc0]; try rfl) (by simp [KpOW, wnO, renO, plO, cvO, renV, pl1, zbi, zbp, zbl, DtId.cells, zbe, cP, zda, zbo, zcq, zcm, zcr, zc2, zc0]; try rfl) (by rfl) (by simp) (by simp) (by rfl) (by simp [formsX, List.range_succ, zbi, zbp]), _, ?_, i + 1, fd, out2, rfl, ?_, rfl⟩
                ·omega
                ·first | exact zqh hi (by omega) (by assumption) (fun hc => by unfold CandP at hc; rw [List.mem_flatten] at hc; grind) | exact zt4 hp hi (by omega) (by assumption) ho.1 (by unfold CandP; rw [List.mem_flatten]; grind) | trace_state
       ·try simp [zbc, zbb, zbg, zbf, zbq, zbt] at hc2
        all_goals
         have hle := hi.le
         refine zch ?_
         refine zb4 ?_
         refine AW_x rfl rfl fun K hK => ?_
         simp (disch := omega) [zbd, gE, tP, DtInst.cells, DtCmd.cells, DtId.cells, zba, zbe, and_assoc, zbc, zbb, zbx, zbk, zbm, zbw, zbo, cP, -List.length_flatten, -List.map_flatten]
         repeat' first | (exfalso; omega) | (refine ⟨fun _ => ?_, fun _ => ?_⟩) | (refine ⟨by omega, ?_⟩) | (simp (disch := omega) [zbd, gE, tP, DtInst.cells, DtCmd.cells, DtId.cells, zba, zbe, and_assoc, zbc, zbb, zbx, zbk, zbm, zbw, zbo, cP, -List.length_flatten, -List.map_flatten]) | (intro _)
         all_goals (refine hK _ ?_; clear hK K)
         all_goals
          refine zbu rfl (fun hc5 => ?_) (fun hc5 => ?_)
          ·try simp [zbc, zbb, zbg, zbf, zbq, zbt] at hc5
           all_goals
            refine AW_x rfl rfl fun K hK => ?_
            simp (disch := omega) [zbd, gE, tP, DtInst.cells, DtCmd.cells, DtId.cells, zba, zbe, and_assoc, zbc, zbb, zbx, zbk, zbm, zbw, zbo, cP, -List.length_flatten, -List.map_flatten]
            repeat' first | (exfalso; omega) | (refine ⟨fun _ => ?_, fun _ => ?_⟩) | (refine ⟨by omega, ?_⟩) | (simp (disch := omega) [zbd, gE, tP, DtInst.cells, DtCmd.cells, DtId.cells, zba, zbe, and_assoc, zbc, zbb, zbx, zbk, zbm, zbw, zbo, cP, -List.length_flatten, -List.map_flatten]) | (intro _)
            all_goals (refine hK _ ?_; clear hK K)
            all_goals
             refine zby (zh1 ?_)
             simp (disch := omega) [zbd, gE, tP, DtInst.cells, DtCmd.cells, DtId.cells, zba, zbe, and_assoc, zbc, zbb, zbx, zbk, zbm, zbw, zbo, cP, -List.length_flatten, -List.map_flatten, hpb]
             all_goals first | (exfalso; simp_all; done) | (have hfd : fd = false := (by assumption); have hno := hi.no hfd; have hil : i = l.length := (by have := hi.le; rcases hc2 with h | h <;> first | omega | simp_all); rw [zkp ho (znz hp ho.1 (by rw [← hil]; exact hno.2)), hno.1]) | trace_state
          ·try simp [zbc, zbb, zbg, zbf, zbq, zbt] at hc5
           all_goals
            refine zbv ?_
            obtain ⟨p, hn1, hn2⟩ := hi.yes (by simp_all)
            have hpi := pinv_s hp ho hn1
            rw [← hn2] at hpi
            refine ⟨_, LeS.kw [(501, 501), (502, 502)] [(0, .sl 16 (l.map DtInst.cells)), (3, .arr 501 0 (out2).length), (4, .arr 502 0 (out2).flatten.length)] [(501, .win 1 ((out2).map cP)), (502, .win 2 ((out2).flatten.map DtId.cells))] (by simp [KpR, renV2, renV, zbl, zb5, zbi, zbp, DtId.cells, zbe, cP, zda, zbo, zcq, zcm, zcr, zc2, zc0]; try rfl) (by simp [KpOW, wnO, renO, plO, cvO, renV, pl1, zbi, zbp, zbl, DtId.cells, zbe, cP, zda, zbo, zcq, zcm, zcr, zc2, zc0]; try rfl) (by rfl) (by simp) (by simp) (by rfl) (by simp [formsX, List.range_succ, zbi, zbp]), _, ?_, out2, rfl, ?_, rfl⟩
            ·omega
            ·exact hpi.1
  ·try simp [zbc, zbb, zbg, zbf, zbq, zbt] at hc1
   all_goals
    refine zch ?_
    refine zb4 ?_
    refine AW_x rfl rfl fun K hK => ?_
    simp (disch := omega) [zbd, gE, tP, DtInst.cells, DtCmd.cells, DtId.cells, zba, zbe, and_assoc, zbc, zbb, zbx, zbk, zbm, zbw, zbo, cP, -List.length_flatten, -List.map_flatten]
    repeat' first | (exfalso; omega) | (refine ⟨fun _ => ?_, fun _ => ?_⟩) | (refine ⟨by omega, ?_⟩) | (simp (disch := omega) [zbd, gE, tP, DtInst.cells, DtCmd.cells, DtId.cells, zba, zbe, and_assoc, zbc, zbb, zbx, zbk, zbm, zbw, zbo, cP, -List.length_flatten, -List.map_flatten]) | (intro _)
    all_goals (refine hK _ ?_; clear hK K)
    all_goals
     refine zby (zh1 ?_)
     simp (disch := omega) [zbd, gE, tP, DtInst.cells, DtCmd.cells, DtId.cells, zba, zbe, and_assoc, zbc, zbb, zbx, zbk, zbm, zbw, zbo, cP, -List.length_flatten, -List.map_flatten, hpb]
     all_goals first | (exfalso; simp_all; done) | (have hfd : fd = false := (by assumption); have hno := hi.no hfd; have hil : i = l.length := (by have := hi.le; rcases hc2 with h | h <;> first | omega | simp_all); rw [zkp ho (znz hp ho.1 (by rw [← hil]; exact hno.2)), hno.1]) | trace_state
end Go.Proofs.YtfbmhgiokfpgiaaGreat.Vs
