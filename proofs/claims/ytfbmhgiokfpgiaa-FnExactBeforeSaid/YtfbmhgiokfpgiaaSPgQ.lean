import Derived.Test.YtfbmhgiokfpgiaaSPfQ
open Go Go.Proofs Go.Proofs.Ytfbmhgiokfpgiaa.Vs
namespace Go.Proofs.Ytfbmhgiokfpgiaa.Vs
set_option linter.all false
set_option linter.unusedSimpArgs false
set_option linter.unusedVariables false
set_option maxRecDepth 100000
set_option maxHeartbeats 4000000
/-! all parts, as the program makes them -/
theorem zm8 (l : List DtInst) (id : DtId) (hs : szS DtInst.sz l ≤ 1048576) (hn : l.length ≤ 1048576) (hm : ∀ x ∈ l, InstSm x) (hp : InstsP l) : PCall Try.prog 22 [.sl 16 (l.map DtInst.cells), .agg (DtId.cells id)] (.g (.bool (decB (RdyP l id)))) := zm0 (zz6 l id hs hn hm hp)
theorem zrf (l : List DtInst) (id : DtId) (hs : szS DtInst.sz l ≤ 1048576) (hn : l.length ≤ 1048576) (hm : ∀ x ∈ l, InstSm x) (hp : InstsP l) : PCall Try.prog 68 [.sl 16 (l.map DtInst.cells), .agg (DtId.cells id)] (.sl 2 ((partL l id).map DtId.cells)) := zqx (implPart l id hs hn hm hp) (by simp)
theorem zrg {l : List DtInst} {i : Nat} (h : i < l.length) (h1 : ¬ partL l l[i].fId ∈ leftT l i) (h2 : RdyP l l[i].fId) : leftT l (i + 1) = leftT l i ++ [partL l l[i].fId] := by
 rw [zz9 l i h]; unfold leftF; rw [zco h1, zco h2]; rfl
theorem zm9 {l : List DtInst} {i : Nat} (h : i < l.length) (h1 : partL l l[i].fId ∈ leftT l i ∨ ¬ RdyP l l[i].fId) : leftT l (i + 1) = leftT l i := by
 rw [zz9 l i h]; unfold leftF
 rcases h1 with h1 | h1
 ·rw [zcx (p := partL l l[i].fId ∉ leftT l i) (fun k => k h1), Bool.and_false]; rfl
 ·rw [zcx h1, Bool.false_and]; rfl
theorem known_any {l : List DtInst} (hp : InstsP l) (i : Nat) (x : DtId) : (leftT l i).any (fun p => decB (x ∈ p)) = decB (partL l x ∈ leftT l i) := by
 rw [Bool.eq_iff_iff, zbb, ← zra hp (zh9 hp i).1, List.any_eq_true]
 simp only [zbb]
theorem leftT_pl {l : List DtInst} (hp : InstsP l) (i : Nat) : ∀ p ∈ leftT l i, p.length ≤ 18 := fun p h => by
 obtain ⟨a, ha, rfl⟩ := (zh9 hp i).1 p h
 exact zgw hp (zvd hp ha).1
theorem zpo {l : List DtInst} (hp : InstsP l) (out : List (List DtId)) : ∀ p ∈ leftR l out, p.length ≤ 18 ∧ ∀ x ∈ p, (instAt l x).fStatus = 3 := fun p h => by
 have h1 := (zgx hp).1 p (zl3 h).1
 refine ⟨?_, fun x hx => (rdy_all hp h1 x hx).2⟩
 obtain ⟨a, ha, rfl⟩ := h1
 exact zgw hp (zvd hp ha).1
theorem leftR_len {l : List DtInst} (hp : InstsP l) (out : List (List DtId)) : (leftR l out).length ≤ 18 := Nat.le_trans (List.length_filter_le _ _) (zgx hp).2.2
theorem delRowsP {ob : Nat → Option OB} {n : Nat} (xs : List (List DtId)) (hok : ObOk ob) (hob : ob n = some (.win 1 (xs.map cP))) (k : Nat) (hk : k < xs.length) (hl : xs.length ≤ 1048576) : ∃ fs, INL Try.prog 72 fs ob [.arr n 0 xs.length, (.g (.int .i64 ((k : Nat)))), (.g (.int .i64 ((k : Nat) + 1)))] (KQ (AV.arr n 0 (xs.length - 1)) (upd ob n (some (.win 1 ((xs.take k ++ xs.drop (k + 1)).map cP))))) := by
 have := delRows (xs.map cP) hok hob k (by simpa using hk) (by simpa using hl)
 rw [List.length_map, ← List.map_take, ← List.map_drop, ← List.map_append] at this
 exact this
theorem ztb {l : List DtInst} {out : List (List DtId)} (h : (leftR l out).length ≤ 0) : nextP l out = none := by
 rw [zpl, List.eq_nil_of_length_eq_zero (Nat.le_zero.1 h)]; rfl
theorem implParts (l : List DtInst) (hs : szS DtInst.sz l ≤ 1048576) (hn : l.length ≤ 1048576) (hm : ∀ x ∈ l, InstSm x) (hp : InstsP l) : PCall Try.prog 45 [.sl 16 (l.map DtInst.cells)] (.sl 1 ((partsL l).map cP)) := by
 have hpb := zco hp
 refine zdp Try.func45 (by rfl) (by rfl) (by rw [Try.ntmps45]; exact Nat.le_of_ble_eq_true rfl) ?_
 rw [Try.ntmps45]
 refine zgt ?_
 refine AW_k [(0, _)] ⟨rfl, trivial⟩ ?_
 refine AW_x rfl rfl fun K hK => ?_
 simp (disch := omega) [zbd, gE, tP, DtInst.cells, DtCmd.cells, DtId.cells, zbc, zbh, and_assoc, zbb, zba, zby, zbj, zbl, zbs, zbo, cP, -List.length_flatten, -List.map_flatten]
 repeat' first | (refine ⟨by omega, ?_⟩) | (intro _)
 refine hK _ ?_; clear hK K
 refine zbt ?_
 refine AW_x rfl rfl fun K hK => ?_
 simp (disch := omega) [zbd, gE, tP, DtInst.cells, DtCmd.cells, DtId.cells, zbc, zbh, and_assoc, zbb, zba, zby, zbj, zbl, zbs, zbo, cP, -List.length_flatten, -List.map_flatten]
 repeat' first | (exfalso; omega) | (refine zd1 (zbg zca zbr) (zdg _ (by assumption)) rfl ?_; simp (disch := omega) [zbd, gE, tP, DtInst.cells, DtCmd.cells, DtId.cells, zbc, zbh, and_assoc, zbb, zba, zby, zbj, zbl, zbs, zbo, cP, -List.length_flatten, -List.map_flatten]) | (refine zd2 (zdg _ (by assumption)) (by rfl) ?_ ?_; (focus (simp (disch := omega) [zbd, gE, tP, DtInst.cells, DtCmd.cells, DtId.cells, zbc, zbh, and_assoc, zbb, zba, zby, zbj, zbl, zbs, zbo, cP, -List.length_flatten, -List.map_flatten, zbc]; done)); simp (disch := omega) [zbd, gE, tP, DtInst.cells, DtCmd.cells, DtId.cells, zbc, zbh, and_assoc, zbb, zba, zby, zbj, zbl, zbs, zbo, cP, -List.length_flatten, -List.map_flatten]) | (refine ⟨by omega, ?_⟩) | (simp (disch := omega) [zbd, gE, tP, DtInst.cells, DtCmd.cells, DtId.cells, zbc, zbh, and_assoc, zbb, zba, zby, zbj, zbl, zbs, zbo, cP, -List.length_flatten, -List.map_flatten]) | (intro _)
 refine hK _ ?_; clear hK K
 refine zbv rfl (fun hc1 => ?_) (fun hc1 => ?_)
 ·try simp [zbb, zba, zbf, zbe, zbp, zbq] at hc1
  all_goals
   refine AW_x rfl rfl fun K hK => ?_
   simp (disch := omega) [zbd, gE, tP, DtInst.cells, DtCmd.cells, DtId.cells, zbc, zbh, and_assoc, zbb, zba, zby, zbj, zbl, zbs, zbo, cP, -List.length_flatten, -List.map_flatten]
   repeat' first | (exfalso; omega) | (refine ⟨fun _ => ?_, fun _ => ?_⟩) | (refine ⟨by omega, ?_⟩) | (simp (disch := omega) [zbd, gE, tP, DtInst.cells, DtCmd.cells, DtId.cells, zbc, zbh, and_assoc, zbb, zba, zby, zbj, zbl, zbs, zbo, cP, -List.length_flatten, -List.map_flatten]) | (intro _)
   all_goals (refine hK _ ?_; clear hK K)
   all_goals
    refine zbz (zhi ?_)
    simp (disch := omega) [zbd, gE, tP, DtInst.cells, DtCmd.cells, DtId.cells, zbc, zbh, and_assoc, zbb, zba, zby, zbj, zbl, zbs, zbo, cP, -List.length_flatten, -List.map_flatten, hpb]
    all_goals first | (exfalso; simp_all; done) | (rw [zj3 ho (ztb (by first | omega | (rw [hc4]; simp)))]; done) | (rw [zj3 ho ((zja l out).elim (·.2) (fun ⟨k, hk, h1, h2⟩ => by omega))]; done) | trace_state
 ·try simp [zbb, zba, zbf, zbe, zbp, zbq] at hc1
  all_goals
   refine zbw ?_
   refine zb3 ?_
   refine AW_x rfl rfl fun K hK => ?_
   simp (disch := omega) [zbd, gE, tP, DtInst.cells, DtCmd.cells, DtId.cells, zbc, zbh, and_assoc, zbb, zba, zby, zbj, zbl, zbs, zbo, cP, -List.length_flatten, -List.map_flatten]
   repeat' first | (exfalso; omega) | (refine ⟨fun _ => ?_, fun _ => ?_⟩) | (refine ⟨by omega, ?_⟩) | (simp (disch := omega) [zbd, gE, tP, DtInst.cells, DtCmd.cells, DtId.cells, zbc, zbh, and_assoc, zbb, zba, zby, zbj, zbl, zbs, zbo, cP, -List.length_flatten, -List.map_flatten]) | (intro _)
   all_goals (refine hK _ ?_; clear hK K)
   all_goals
    refine zbt ?_
    refine AW_x rfl rfl fun K hK => ?_
    simp (disch := omega) [zbd, gE, tP, DtInst.cells, DtCmd.cells, DtId.cells, zbc, zbh, and_assoc, zbb, zba, zby, zbj, zbl, zbs, zbo, cP, -List.length_flatten, -List.map_flatten]
    repeat' first | (refine ⟨by omega, ?_⟩) | (simp (disch := omega) [zbd, gE, tP, DtInst.cells, DtCmd.cells, DtId.cells, zbc, zbh, and_assoc, zbb, zba, zby, zbj, zbl, zbs, zbo, cP, -List.length_flatten, -List.map_flatten]) | (intro _)
    refine hK _ ?_; clear hK K
    refine zb0 ?_
    refine zcc (fun mM sS => ∃ (i : Nat), mM = l.length - i ∧ (i ≤ l.length) ∧ sS = { env := lkE [(1, .ptr 32 0), (3, .arr 501 0 (leftT l i).length), (14, .sl 16 (l.map DtInst.cells)), (15, (.g (.int .i64 ((l.length : Nat))))), (16, (.g (.int .i64 ((i : Nat)))))], ob := lk [(32, .cells [.sl 16 (l.map DtInst.cells)]), (501, .win 1 ((leftT l i).map cP))] }) ?_ ?_
    ·refine ⟨_, LeS.kw [(32, 32), (501, 224)] [(1, .ptr 32 0), (3, .arr 501 0 (leftT l (0)).length), (14, .sl 16 (l.map DtInst.cells)), (15, (.g (.int .i64 ((l.length : Nat))))), (16, (.g (.int .i64 (((0) : Nat)))))] [(32, .cells [.sl 16 (l.map DtInst.cells)]), (501, .win 1 ((leftT l (0)).map cP))] (by simp [KpR, renV2, renV, zbn, zb4, zbk, zbx, DtId.cells, zbh, cP, zc4, zbo, zcl, zci, zcm, zcv, zct, zjw]; try (first | rfl | (rw [hsx]; done) | (rw [hsx]; simp; done))) (by simp [KpOW, wnO, renO, plO, cvO, renV, pl1, zbk, zbx, zbn, DtId.cells, zbh, cP, zc4, zbo, zcl, zci, zcm, zcv, zct, zjw]; try (first | rfl | (rw [hsx]; done) | (rw [hsx]; simp [cP, zc4, zbo, zcl, zci, zcm, zcv]; done))) (by rfl) (by simp) (by simp) (by rfl) (by simp [formsX, List.range_succ, zbk, zbx]), _, 0, rfl, ?_, rfl⟩
     ·simp
    ·rintro mM sS ⟨i, rfl, hi, rfl⟩
     have hli := zh9 hp i
     have hln := hli.2.2
     refine AW_x rfl rfl fun K hK => ?_
     simp (disch := omega) [zbd, gE, tP, DtInst.cells, DtCmd.cells, DtId.cells, zbc, zbh, and_assoc, zbb, zba, zby, zbj, zbl, zbs, zbo, cP, -List.length_flatten, -List.map_flatten]
     repeat' first | (refine ⟨by omega, ?_⟩) | (intro _)
     refine hK _ ?_; clear hK K
     refine zbt ?_
     refine zbv rfl (fun hc2 => ?_) (fun hc2 => ?_)
     ·try simp [zbb, zba, zbf, zbe, zbp, zbq] at hc2
      all_goals
       have hkn := known_any hp i l[i].fId
       have hpl := zgw hp (id := l[i].fId) (zd3 hp (List.getElem_mem _)).1
       refine zbw ?_
       refine zb3 ?_
       refine zbt ?_
       refine zb0 ?_
       refine AW_x rfl rfl fun K hK => ?_
       simp (disch := omega) [zbd, gE, tP, DtInst.cells, DtCmd.cells, DtId.cells, zbc, zbh, and_assoc, zbb, zba, zby, zbj, zbl, zbs, zbo, cP, -List.length_flatten, -List.map_flatten, hkn]
       repeat' first | (exfalso; omega) | (refine ⟨fun _ => ?_, fun _ => ?_⟩) | (refine ⟨by omega, ?_⟩) | (simp (disch := omega) [zbd, gE, tP, DtInst.cells, DtCmd.cells, DtId.cells, zbc, zbh, and_assoc, zbb, zba, zby, zbj, zbl, zbs, zbo, cP, -List.length_flatten, -List.map_flatten, hkn]) | (intro _)
       all_goals (refine hK _ ?_; clear hK K)
       all_goals
        refine AW_x rfl rfl fun K hK => ?_
        simp (disch := omega) [zbd, gE, tP, DtInst.cells, DtCmd.cells, DtId.cells, zbc, zbh, and_assoc, zbb, zba, zby, zbj, zbl, zbs, zbo, cP, -List.length_flatten, -List.map_flatten, hkn]
        repeat' first | (exfalso; omega) | (refine zkc (zph (n := 501) (q := fun p => decB (l[i].fId ∈ p)) (leftT l i) (by exact zt2 (zls rfl) rfl) (by simp [zbn, zbk, zbx]) (by omega) (fun p hpm => parts1 l[i] p (by exact zt2 (zls rfl) rfl) (by simp [zbn, zbk, zbx, DtInst.cells, DtCmd.cells, DtId.cells]) (by have := leftT_pl hp i p hpm; omega))) ?_; rintro _ _ ⟨rfl, rfl⟩; simp (disch := omega) [zbd, gE, tP, DtInst.cells, DtCmd.cells, DtId.cells, zbc, zbh, and_assoc, zbb, zba, zby, zbj, zbl, zbs, zbo, cP, -List.length_flatten, -List.map_flatten, hkn]) | (refine ⟨by omega, ?_⟩) | (simp (disch := omega) [zbd, gE, tP, DtInst.cells, DtCmd.cells, DtId.cells, zbc, zbh, and_assoc, zbb, zba, zby, zbj, zbl, zbs, zbo, cP, -List.length_flatten, -List.map_flatten, hkn]) | (intro _)
        refine hK _ ?_; clear hK K
        refine AW_x rfl rfl fun K hK => ?_
        simp (disch := omega) [zbd, gE, tP, DtInst.cells, DtCmd.cells, DtId.cells, zbc, zbh, and_assoc, zbb, zba, zby, zbj, zbl, zbs, zbo, cP, -List.length_flatten, -List.map_flatten, hkn]
        repeat' first | (exfalso; omega) | (refine zd1 (zbg zca (zbg (zb6 rfl) zbr)) (zm8 l l[i].fId hs hn hm hp) rfl ?_; simp (disch := omega) [zbd, gE, tP, DtInst.cells, DtCmd.cells, DtId.cells, zbc, zbh, and_assoc, zbb, zba, zby, zbj, zbl, zbs, zbo, cP, -List.length_flatten, -List.map_flatten, hkn]) | (refine zd2 (zm8 l l[i].fId hs hn hm hp) (by rfl) ?_ ?_; (focus (simp (disch := omega) [zbd, gE, tP, DtInst.cells, DtCmd.cells, DtId.cells, zbc, zbh, and_assoc, zbb, zba, zby, zbj, zbl, zbs, zbo, cP, -List.length_flatten, -List.map_flatten, hkn, zbc]; done)); simp (disch := omega) [zbd, gE, tP, DtInst.cells, DtCmd.cells, DtId.cells, zbc, zbh, and_assoc, zbb, zba, zby, zbj, zbl, zbs, zbo, cP, -List.length_flatten, -List.map_flatten, hkn]) | (refine ⟨fun _ => ?_, fun _ => ?_⟩) | (refine ⟨by omega, ?_⟩) | (simp (disch := omega) [zbd, gE, tP, DtInst.cells, DtCmd.cells, DtId.cells, zbc, zbh, and_assoc, zbb, zba, zby, zbj, zbl, zbs, zbo, cP, -List.length_flatten, -List.map_flatten, hkn]) | (intro _)
        all_goals (refine hK _ ?_; clear hK K)
        all_goals
         refine zbv rfl (fun hc3 => ?_) (fun hc3 => ?_)
         ·try simp [zbb, zba, zbf, zbe, zbp, zbq] at hc3
          all_goals
           refine zdx rfl rfl fun K hK => ?_
           simp (disch := omega) [zbd, gE, tP, DtInst.cells, DtCmd.cells, DtId.cells, zbc, zbh, and_assoc, zbb, zba, zby, zbj, zbl, zbs, zbo, cP, -List.length_flatten, -List.map_flatten, hkn]
           repeat' first | (exfalso; omega) | (refine zd1 (zbg zca (zbg (zb6 rfl) zbr)) (zrf l l[i].fId hs hn hm hp) rfl ?_; simp (disch := omega) [zbd, gE, tP, DtInst.cells, DtCmd.cells, DtId.cells, zbc, zbh, and_assoc, zbb, zba, zby, zbj, zbl, zbs, zbo, cP, -List.length_flatten, -List.map_flatten, hkn]) | (refine zd2 (zrf l l[i].fId hs hn hm hp) (by rfl) ?_ ?_; (focus (simp (disch := omega) [zbd, gE, tP, DtInst.cells, DtCmd.cells, DtId.cells, zbc, zbh, and_assoc, zbb, zba, zby, zbj, zbl, zbs, zbo, cP, -List.length_flatten, -List.map_flatten, hkn, zbc]; done)); simp (disch := omega) [zbd, gE, tP, DtInst.cells, DtCmd.cells, DtId.cells, zbc, zbh, and_assoc, zbb, zba, zby, zbj, zbl, zbs, zbo, cP, -List.length_flatten, -List.map_flatten, hkn]) | (refine ⟨fun _ => ?_, fun _ => ?_⟩) | (refine ⟨by omega, ?_⟩) | (simp (disch := omega) [zbd, gE, tP, DtInst.cells, DtCmd.cells, DtId.cells, zbc, zbh, and_assoc, zbb, zba, zby, zbj, zbl, zbs, zbo, cP, -List.length_flatten, -List.map_flatten, hkn]) | (intro _)
           all_goals (refine hK _ ?_; clear hK K)
           all_goals
            refine zb3 ?_
            refine zdx rfl rfl fun K hK => ?_
            simp (disch := omega) [zbd, gE, tP, DtInst.cells, DtCmd.cells, DtId.cells, zbc, zbh, and_assoc, zbb, zba, zby, zbj, zbl, zbs, zbo, cP, -List.length_flatten, -List.map_flatten, hkn]
            repeat' first | (refine ⟨by omega, ?_⟩) | (intro _)
            refine hK _ ?_; clear hK K
            first | have hsx := zrg (l := l) (i := i) (by omega) (by assumption) (by assumption) | have hsx := zm9 (l := l) (i := i) (by omega) (by grind)
            refine ⟨_, LeS.kw [(32, 32), (501, 608)] [(1, .ptr 32 0), (3, .arr 501 0 (leftT l (i + 1)).length), (14, .sl 16 (l.map DtInst.cells)), (15, (.g (.int .i64 ((l.length : Nat))))), (16, (.g (.int .i64 (((i + 1) : Nat)))))] [(32, .cells [.sl 16 (l.map DtInst.cells)]), (501, .win 1 ((leftT l (i + 1)).map cP))] (by simp [KpR, renV2, renV, zbn, zb4, zbk, zbx, DtId.cells, zbh, cP, zc4, zbo, zcl, zci, zcm, zcv, zct, zjw]; try (first | rfl | (rw [hsx]; done) | (rw [hsx]; simp; done))) (by simp [KpOW, wnO, renO, plO, cvO, renV, pl1, zbk, zbx, zbn, DtId.cells, zbh, cP, zc4, zbo, zcl, zci, zcm, zcv, zct, zjw]; try (first | rfl | (rw [hsx]; done) | (rw [hsx]; simp [cP, zc4, zbo, zcl, zci, zcm, zcv]; done))) (by rfl) (by simp) (by simp) (by rfl) (by simp [formsX, List.range_succ, zbk, zbx]), _, ?_, i + 1, rfl, ?_, rfl⟩
            ·omega
            ·omega
         ·try simp [zbb, zba, zbf, zbe, zbp, zbq] at hc3
          all_goals
           refine zbw ?_
           refine zb3 ?_
           refine zdx rfl rfl fun K hK => ?_
           simp (disch := omega) [zbd, gE, tP, DtInst.cells, DtCmd.cells, DtId.cells, zbc, zbh, and_assoc, zbb, zba, zby, zbj, zbl, zbs, zbo, cP, -List.length_flatten, -List.map_flatten, hkn]
           repeat' first | (exfalso; omega) | (refine ⟨fun _ => ?_, fun _ => ?_⟩) | (refine ⟨by omega, ?_⟩) | (simp (disch := omega) [zbd, gE, tP, DtInst.cells, DtCmd.cells, DtId.cells, zbc, zbh, and_assoc, zbb, zba, zby, zbj, zbl, zbs, zbo, cP, -List.length_flatten, -List.map_flatten, hkn]) | (intro _)
           all_goals (refine hK _ ?_; clear hK K)
           all_goals
            first | have hsx := zrg (l := l) (i := i) (by omega) (by assumption) (by assumption) | have hsx := zm9 (l := l) (i := i) (by omega) (by grind)
            refine ⟨_, LeS.kw [(32, 32), (501, 501)] [(1, .ptr 32 0), (3, .arr 501 0 (leftT l (i + 1)).length), (14, .sl 16 (l.map DtInst.cells)), (15, (.g (.int .i64 ((l.length : Nat))))), (16, (.g (.int .i64 (((i + 1) : Nat)))))] [(32, .cells [.sl 16 (l.map DtInst.cells)]), (501, .win 1 ((leftT l (i + 1)).map cP))] (by simp [KpR, renV2, renV, zbn, zb4, zbk, zbx, DtId.cells, zbh, cP, zc4, zbo, zcl, zci, zcm, zcv, zct, zjw]; try (first | rfl | (rw [hsx]; done) | (rw [hsx]; simp; done))) (by simp [KpOW, wnO, renO, plO, cvO, renV, pl1, zbk, zbx, zbn, DtId.cells, zbh, cP, zc4, zbo, zcl, zci, zcm, zcv, zct, zjw]; try (first | rfl | (rw [hsx]; done) | (rw [hsx]; simp [cP, zc4, zbo, zcl, zci, zcm, zcv]; done))) (by rfl) (by simp) (by simp) (by rfl) (by simp [formsX, List.range_succ, zbk, zbx]), _, ?_, i + 1, rfl, ?_, rfl⟩
            ·omega
            ·omega
     ·try simp [zbb, zba, zbf, zbe, zbp, zbq] at hc2
      all_goals
       refine zce ?_
       refine zb3 ?_
       refine AW_x rfl rfl fun K hK => ?_
       simp (disch := omega) [zbd, gE, tP, DtInst.cells, DtCmd.cells, DtId.cells, zbc, zbh, and_assoc, zbb, zba, zby, zbj, zbl, zbs, zbo, cP, -List.length_flatten, -List.map_flatten]
       repeat' first | (exfalso; omega) | (refine ⟨fun _ => ?_, fun _ => ?_⟩) | (refine ⟨by omega, ?_⟩) | (simp (disch := omega) [zbd, gE, tP, DtInst.cells, DtCmd.cells, DtId.cells, zbc, zbh, and_assoc, zbb, zba, zby, zbj, zbl, zbs, zbo, cP, -List.length_flatten, -List.map_flatten]) | (intro _)
       all_goals (refine hK _ ?_; clear hK K)
       all_goals
        refine AW_x rfl rfl fun K hK => ?_
        simp (disch := omega) [zbd, gE, tP, DtInst.cells, DtCmd.cells, DtId.cells, zbc, zbh, and_assoc, zbb, zba, zby, zbj, zbl, zbs, zbo, cP, -List.length_flatten, -List.map_flatten]
        repeat' first | (refine ⟨by omega, ?_⟩) | (simp (disch := omega) [zbd, gE, tP, DtInst.cells, DtCmd.cells, DtId.cells, zbc, zbh, and_assoc, zbb, zba, zby, zbj, zbl, zbs, zbo, cP, -List.length_flatten, -List.map_flatten]) | (intro _)
        refine hK _ ?_; clear hK K
        refine zbt ?_
        refine zb0 ?_
        have hle := leftT_e l i (by omega)
        simp only [hle]
        refine zcc (fun mM sS => ∃ (out : List (List DtId)), mM = (leftR l out).length ∧ (PInv l out) ∧ sS = { env := lkE [(1, .ptr 32 0), (3, .arr 501 0 (leftR l out).length), (7, .arr 502 0 out.length), (8, .ptr 144 0)], ob := lk [(32, .cells [.sl 16 (l.map DtInst.cells)]), (144, .cells [.arr 503 0 out.flatten.length]), (501, .win 1 ((leftR l out).map cP)), (502, .win 1 (out.map cP)), (503, .win 2 (out.flatten.map DtId.cells))] }) ?_ ?_
        ·refine ⟨_, LeS.kw [(32, 32), (144, 144), (501, 501), (502, 640), (503, 656)] [(1, .ptr 32 0), (3, .arr 501 0 (leftR l ([])).length), (7, .arr 502 0 ([]).length), (8, .ptr 144 0)] [(32, .cells [.sl 16 (l.map DtInst.cells)]), (144, .cells [.arr 503 0 ([]).flatten.length]), (501, .win 1 ((leftR l ([])).map cP)), (502, .win 1 (([]).map cP)), (503, .win 2 (([]).flatten.map DtId.cells))] (by simp [KpR, renV2, renV, zbn, zb4, zbk, zbx, DtId.cells, zbh, cP, zc4, zbo, zcl, zci, zcm, zcv, zct, zl2]; try (first | rfl | (rw [hdel]; simp; omega) | (rw [hdel]; simp; done))) (by simp [KpOW, wnO, renO, plO, cvO, renV, pl1, zbk, zbx, zbn, DtId.cells, zbh, cP, zc4, zbo, zcl, zci, zcm, zcv, zct, zl2]; try (first | rfl | (rw [hdel]; simp [cP, zc4, zbo, zcl, zci, zcm, zcv]; done) | exact .inr (zzl (by rw [← List.map_take, ← List.map_drop, ← List.map_append]; exact zbo _) (by rw [hdel]; simp)) | trace_state)) (by rfl) (by simp) (by simp) (by rfl) (by simp [formsX, List.range_succ, zbk, zbx]), _, [], rfl, ?_, rfl⟩
         ·exact pinv_0 l
        ·rintro mM sS ⟨out, rfl, ho, rfl⟩
         have ⟨hl1, hl2, hl3⟩ := zks hp ho.1
         have hrl := leftR_len hp out
         refine zbt ?_
         refine AW_x rfl rfl fun K hK => ?_
         simp (disch := omega) [zbd, gE, tP, DtInst.cells, DtCmd.cells, DtId.cells, zbc, zbh, and_assoc, zbb, zba, zby, zbj, zbl, zbs, zbo, cP, -List.length_flatten, -List.map_flatten]
         repeat' first | (refine ⟨by omega, ?_⟩) | (simp (disch := omega) [zbd, gE, tP, DtInst.cells, DtCmd.cells, DtId.cells, zbc, zbh, and_assoc, zbb, zba, zby, zbj, zbl, zbs, zbo, cP, -List.length_flatten, -List.map_flatten]) | (intro _)
         refine hK _ ?_; clear hK K
         refine zbv rfl (fun hc4 => ?_) (fun hc4 => ?_)
         ·try simp [zbb, zba, zbf, zbe, zbp, zbq] at hc4
          all_goals
           refine zbw ?_
           refine zb3 ?_
           refine zb0 ?_
           refine AW_x rfl rfl fun K hK => ?_
           simp (disch := omega) [zbd, gE, tP, DtInst.cells, DtCmd.cells, DtId.cells, zbc, zbh, and_assoc, zbb, zba, zby, zbj, zbl, zbs, zbo, cP, -List.length_flatten, -List.map_flatten]
           repeat' first | (exfalso; omega) | (refine zkc (zm3 (n := 501) (q := fun p => decB (FreeP l p out.flatten)) (leftR l out) (by exact zls rfl) (by simp [zbn, zbk, zbx]) (by omega) (fun p hpm => parts2 (m3 := 503) l p out.flatten (by exact zls rfl) (by simp [zbn, zbk, zbx]) (by simp [zbn, zbk, zbx, -List.length_flatten]) (by simp [zbn, zbk, zbx, -List.map_flatten]) hn hm hp (zpo hp out p hpm).2 (by have := (zpo hp out p hpm).1; omega) (by omega))) ?_; rintro _ _ ⟨rfl, rfl⟩; simp (disch := omega) [zbd, gE, tP, DtInst.cells, DtCmd.cells, DtId.cells, zbc, zbh, and_assoc, zbb, zba, zby, zbj, zbl, zbs, zbo, cP, -List.length_flatten, -List.map_flatten]) | (refine ⟨fun _ => ?_, fun _ => ?_⟩) | (refine ⟨by omega, ?_⟩) | (simp (disch := omega) [zbd, gE, tP, DtInst.cells, DtCmd.cells, DtId.cells, zbc, zbh, and_assoc, zbb, zba, zby, zbj, zbl, zbs, zbo, cP, -List.length_flatten, -List.map_flatten]) | (intro _)
           all_goals (refine hK _ ?_; clear hK K)
           all_goals
            refine zbt ?_
            refine AW_x rfl rfl fun K hK => ?_
            simp (disch := omega) [zbd, gE, tP, DtInst.cells, DtCmd.cells, DtId.cells, zbc, zbh, and_assoc, zbb, zba, zby, zbj, zbl, zbs, zbo, cP, -List.length_flatten, -List.map_flatten]
            repeat' first | (refine ⟨by omega, ?_⟩) | (intro _)
            refine hK _ ?_; clear hK K
            refine zbv rfl (fun hc5 => ?_) (fun hc5 => ?_)
            ·try simp [zbb, zba, zbf, zbe, zbp, zbq] at hc5
             all_goals
              refine zce ?_
              refine zb3 ?_
              refine AW_x rfl rfl fun K hK => ?_
              simp (disch := omega) [zbd, gE, tP, DtInst.cells, DtCmd.cells, DtId.cells, zbc, zbh, and_assoc, zbb, zba, zby, zbj, zbl, zbs, zbo, cP, -List.length_flatten, -List.map_flatten]
              repeat' first | (exfalso; omega) | (refine ⟨fun _ => ?_, fun _ => ?_⟩) | (refine ⟨by omega, ?_⟩) | (simp (disch := omega) [zbd, gE, tP, DtInst.cells, DtCmd.cells, DtId.cells, zbc, zbh, and_assoc, zbb, zba, zby, zbj, zbl, zbs, zbo, cP, -List.length_flatten, -List.map_flatten]) | (intro _)
              all_goals (refine hK _ ?_; clear hK K)
              all_goals
               refine zbz (zhi ?_)
               simp (disch := omega) [zbd, gE, tP, DtInst.cells, DtCmd.cells, DtId.cells, zbc, zbh, and_assoc, zbb, zba, zby, zbj, zbl, zbs, zbo, cP, -List.length_flatten, -List.map_flatten, hpb]
               all_goals first | (exfalso; simp_all; done) | (rw [zj3 ho (ztb (by first | omega | (rw [hc4]; simp)))]; done) | (rw [zj3 ho ((zja l out).elim (·.2) (fun ⟨k, hk, h1, h2⟩ => by omega))]; done) | trace_state
            ·try simp [zbb, zba, zbf, zbe, zbp, zbq] at hc5
             all_goals
              refine zbw ?_
              refine zb3 ?_
              obtain ⟨k, hk, hix, hnx⟩ : ∃ k, ∃ hk : k < (leftR l out).length, idxZ (fun p => decB (FreeP l p out.flatten)) (leftR l out) = k ∧ nextP l out = some (leftR l out)[k] := (zja l out).resolve_left fun h => by omega
              simp only [hix]
              have hkl := (zpo hp out _ (List.getElem_mem hk)).1
              refine AW_x rfl rfl fun K hK => ?_
              simp (disch := omega) [zbd, gE, tP, DtInst.cells, DtCmd.cells, DtId.cells, zbc, zbh, and_assoc, zbb, zba, zby, zbj, zbl, zbs, zbo, cP, -List.length_flatten, -List.map_flatten]
              repeat' first | (exfalso; omega) | (refine ⟨fun _ => ?_, fun _ => ?_⟩) | (refine ⟨by omega, ?_⟩) | (simp (disch := omega) [zbd, gE, tP, DtInst.cells, DtCmd.cells, DtId.cells, zbc, zbh, and_assoc, zbb, zba, zby, zbj, zbl, zbs, zbo, cP, -List.length_flatten, -List.map_flatten]) | (intro _)
              all_goals (refine hK _ ?_; clear hK K)
              all_goals
               refine AW_d rfl mix (by kernel_rfl) (by kernel_rfl) fun K hK => ?_
               simp (disch := omega) [zbd, gE, tP, DtInst.cells, DtCmd.cells, DtId.cells, zbc, zbh, and_assoc, zbb, zba, zby, zbj, zbl, zbs, zbo, cP, -List.length_flatten, -List.map_flatten]
               repeat' first | (refine ⟨by omega, ?_⟩) | (simp (disch := omega) [zbd, gE, tP, DtInst.cells, DtCmd.cells, DtId.cells, zbc, zbh, and_assoc, zbb, zba, zby, zbj, zbl, zbs, zbo, cP, -List.length_flatten, -List.map_flatten]) | (intro _)
               refine hK _ _ (by kernel_rfl) ?_; clear hK K
               refine AW_le (LeS.kw [(32, 32), (144, 144), (501, 501), (502, 896), (503, 992)] [(1, .ptr 32 0), (3, .arr 501 0 (leftR l out).length), (7, .arr 502 0 (out.length + 1)), (8, .ptr 144 0), (9, (.g (.int .i64 ((k : Nat)))))] [(32, .cells [.sl 16 (l.map DtInst.cells)]), (144, .cells [.arr 503 0 (out.flatten.length + (leftR l out)[k].length)]), (501, .win 1 ((leftR l out).map cP)), (502, .win 1 ((out ++ [(leftR l out)[k]]).map cP)), (503, .win 2 ((out ++ [(leftR l out)[k]]).flatten.map DtId.cells))] (by simp [KpR, renV2, renV, zbn, zb4, zbk, zbx]) (by simp [KpOW, wnO, renO, plO, cvO, renV, pl1, zbk, zbx, zbn, DtId.cells, zbh, cP, zc4, zbo, zcl, zci, zcm, zcv, zct]) (by rfl) (by simp) (by simp) (by rfl) (by simp [formsX, List.range_succ, zbk, zbx])) ?_
               refine zdx rfl rfl fun K hK => ?_
               simp (disch := omega) [zbd, gE, tP, DtInst.cells, DtCmd.cells, DtId.cells, zbc, zbh, and_assoc, zbb, zba, zby, zbj, zbl, zbs, zbo, cP, -List.length_flatten, -List.map_flatten]
               repeat' first | (exfalso; omega) | (refine zkc (delRowsP (n := 501) (leftR l out) (by exact zls rfl) (by simp [zbn, zbk, zbx]) k hk (by omega)) ?_; rintro _ _ ⟨rfl, rfl⟩; simp (disch := omega) [zbd, gE, tP, DtInst.cells, DtCmd.cells, DtId.cells, zbc, zbh, and_assoc, zbb, zba, zby, zbj, zbl, zbs, zbo, cP, -List.length_flatten, -List.map_flatten]) | (refine ⟨by omega, ?_⟩) | (simp (disch := omega) [zbd, gE, tP, DtInst.cells, DtCmd.cells, DtId.cells, zbc, zbh, and_assoc, zbb, zba, zby, zbj, zbl, zbs, zbo, cP, -List.length_flatten, -List.map_flatten]) | (intro _)
               refine hK _ ?_; clear hK K
               have hpi := pinv_s hp ho hnx
               have hdel := zrc hp hk
               refine ⟨_, LeS.kw [(32, 32), (144, 144), (501, 501), (502, 502), (503, 503)] [(1, .ptr 32 0), (3, .arr 501 0 (leftR l (out ++ [(leftR l out)[k]])).length), (7, .arr 502 0 (out ++ [(leftR l out)[k]]).length), (8, .ptr 144 0)] [(32, .cells [.sl 16 (l.map DtInst.cells)]), (144, .cells [.arr 503 0 (out ++ [(leftR l out)[k]]).flatten.length]), (501, .win 1 ((leftR l (out ++ [(leftR l out)[k]])).map cP)), (502, .win 1 ((out ++ [(leftR l out)[k]]).map cP)), (503, .win 2 ((out ++ [(leftR l out)[k]]).flatten.map DtId.cells))] (by simp [KpR, renV2, renV, zbn, zb4, zbk, zbx, DtId.cells, zbh, cP, zc4, zbo, zcl, zci, zcm, zcv, zct, zl2]; try (first | rfl | (rw [hdel]; simp; omega) | (rw [hdel]; simp; done))) (by simp [KpOW, wnO, renO, plO, cvO, renV, pl1, zbk, zbx, zbn, DtId.cells, zbh, cP, zc4, zbo, zcl, zci, zcm, zcv, zct, zl2]; try (first | rfl | (rw [hdel]; simp [cP, zc4, zbo, zcl, zci, zcm, zcv]; done) | exact .inr (zzl (by rw [← List.map_take, ← List.map_drop, ← List.map_append]; exact zbo _) (by rw [hdel]; simp)) | trace_state)) (by rfl) (by simp) (by simp) (by rfl) (by simp [formsX, List.range_succ, zbk, zbx]), _, ?_, out ++ [(leftR l out)[k]], rfl, ?_, rfl⟩
               ·omega
               ·exact hpi.1
         ·try simp [zbb, zba, zbf, zbe, zbp, zbq] at hc4
          all_goals
           refine zce ?_
           refine zb3 ?_
           refine AW_x rfl rfl fun K hK => ?_
           simp (disch := omega) [zbd, gE, tP, DtInst.cells, DtCmd.cells, DtId.cells, zbc, zbh, and_assoc, zbb, zba, zby, zbj, zbl, zbs, zbo, cP, -List.length_flatten, -List.map_flatten]
           repeat' first | (exfalso; omega) | (refine ⟨fun _ => ?_, fun _ => ?_⟩) | (refine ⟨by omega, ?_⟩) | (simp (disch := omega) [zbd, gE, tP, DtInst.cells, DtCmd.cells, DtId.cells, zbc, zbh, and_assoc, zbb, zba, zby, zbj, zbl, zbs, zbo, cP, -List.length_flatten, -List.map_flatten]) | (intro _)
           all_goals (refine hK _ ?_; clear hK K)
           all_goals
            refine zbz (zhi ?_)
            simp (disch := omega) [zbd, gE, tP, DtInst.cells, DtCmd.cells, DtId.cells, zbc, zbh, and_assoc, zbb, zba, zby, zbj, zbl, zbs, zbo, cP, -List.length_flatten, -List.map_flatten, hpb]
            all_goals first | (exfalso; simp_all; done) | (rw [zj3 ho (ztb (by first | omega | (rw [hc4]; simp)))]; done) | (rw [zj3 ho ((zja l out).elim (·.2) (fun ⟨k, hk, h1, h2⟩ => by omega))]; done) | trace_state
end Go.Proofs.Ytfbmhgiokfpgiaa.Vs
