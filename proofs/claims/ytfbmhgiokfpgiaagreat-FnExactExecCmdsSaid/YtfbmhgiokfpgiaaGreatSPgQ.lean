import Derived.Test.YtfbmhgiokfpgiaaGreatSPfQ
open Go Go.Proofs Go.Proofs.YtfbmhgiokfpgiaaGreat.Vs
namespace Go.Proofs.YtfbmhgiokfpgiaaGreat.Vs
set_option linter.all false
set_option linter.unusedSimpArgs false
set_option linter.unusedVariables false
set_option maxRecDepth 100000
set_option maxHeartbeats 4000000
/-! all parts, as the program makes them -/
theorem zn1 (l : List DtInst) (id : DtId) (hs : szS DtInst.sz l ≤ 1048576) (hn : l.length ≤ 1048576) (hm : ∀ x ∈ l, InstSm x) (hp : InstsP l) : PCall Tryz.prog 50 [.sl 16 (l.map DtInst.cells), .agg (DtId.cells id)] (.g (.bool (decB (RdyP l id)))) := zns (implReady l id hs hn hm hp)
theorem zr5 (l : List DtInst) (id : DtId) (hs : szS DtInst.sz l ≤ 1048576) (hn : l.length ≤ 1048576) (hm : ∀ x ∈ l, InstSm x) (hp : InstsP l) : PCall Tryz.prog 51 [.sl 16 (l.map DtInst.cells), .agg (DtId.cells id)] (.sl 2 ((partL l id).map DtId.cells)) := zrp (implPart l id hs hn hm hp) (by simp)
theorem zr6 {l : List DtInst} {i : Nat} (h : i < l.length) (h1 : ¬ partL l l[i].fId ∈ leftT l i) (h2 : RdyP l l[i].fId) : leftT l (i + 1) = leftT l i ++ [partL l l[i].fId] := by
 rw [leftT_s l i h]; unfold leftF; rw [zcu h1, zcu h2]; rfl
theorem zn2 {l : List DtInst} {i : Nat} (h : i < l.length) (h1 : partL l l[i].fId ∈ leftT l i ∨ ¬ RdyP l l[i].fId) : leftT l (i + 1) = leftT l i := by
 rw [leftT_s l i h]; unfold leftF
 rcases h1 with h1 | h1
 ·rw [zc4 (p := partL l l[i].fId ∉ leftT l i) (fun k => k h1), Bool.and_false]; rfl
 ·rw [zc4 h1, Bool.false_and]; rfl
theorem known_any {l : List DtInst} (hp : InstsP l) (i : Nat) (x : DtId) : (leftT l i).any (fun p => decB (x ∈ p)) = decB (partL l x ∈ leftT l i) := by
 rw [Bool.eq_iff_iff, zbc, ← zr1 hp (zjr hp i).1, List.any_eq_true]
 simp only [zbc]
theorem leftT_pl {l : List DtInst} (hp : InstsP l) (i : Nat) : ∀ p ∈ leftT l i, p.length ≤ 18 := fun p h => by
 obtain ⟨a, ha, rfl⟩ := (zjr hp i).1 p h
 exact zhc hp (zwc hp ha).1
theorem zqi {l : List DtInst} (hp : InstsP l) (out : List (List DtId)) : ∀ p ∈ leftR l out, p.length ≤ 18 ∧ ∀ x ∈ p, (instAt l x).fStatus = 3 := fun p h => by
 have h1 := (zhd hp).1 p (zmw h).1
 refine ⟨?_, fun x hx => (zt2 hp h1 x hx).2⟩
 obtain ⟨a, ha, rfl⟩ := h1
 exact zhc hp (zwc hp ha).1
theorem leftR_len {l : List DtInst} (hp : InstsP l) (out : List (List DtId)) : (leftR l out).length ≤ 18 := Nat.le_trans (List.length_filter_le _ _) (zhd hp).2.2
theorem delRowsP {ob : Nat → Option OB} {n : Nat} (xs : List (List DtId)) (hok : ObOk ob) (hob : ob n = some (.win 1 (xs.map cP))) (k : Nat) (hk : k < xs.length) (hl : xs.length ≤ 1048576) : ∃ fs, INL Tryz.prog 55 fs ob [.arr n 0 xs.length, (.g (.int .i64 ((k : Nat)))), (.g (.int .i64 ((k : Nat) + 1)))] (KQ (AV.arr n 0 (xs.length - 1)) (upd ob n (some (.win 1 ((xs.take k ++ xs.drop (k + 1)).map cP))))) := by
 have := delRows (xs.map cP) hok hob k (by simpa using hk) (by simpa using hl)
 rw [List.length_map, ← List.map_take, ← List.map_drop, ← List.map_append] at this
 exact this
theorem zt5 {l : List DtInst} {out : List (List DtId)} (h : (leftR l out).length ≤ 0) : nextP l out = none := by
 rw [zqf, List.eq_nil_of_length_eq_zero (Nat.le_zero.1 h)]; rfl
theorem implParts (l : List DtInst) (hs : szS DtInst.sz l ≤ 1048576) (hn : l.length ≤ 1048576) (hm : ∀ x ∈ l, InstSm x) (hp : InstsP l) : PCall Tryz.prog 32 [.sl 16 (l.map DtInst.cells)] (.sl 1 ((partsL l).map cP)) := by
 have hpb := zcu hp
 refine zdz Tryz.func32 (by rfl) (by rfl) (by rw [Tryz.ntmps32]; exact Nat.le_of_ble_eq_true rfl) ?_
 rw [Tryz.ntmps32]
 refine zfb ?_
 refine AW_k [(0, _)] ⟨rfl, trivial⟩ ?_
 refine AW_x rfl rfl fun K hK => ?_
 simp (disch := omega) [zbd, gE, tP, DtInst.cells, DtCmd.cells, DtId.cells, zba, zbe, and_assoc, zbc, zbb, zbx, zbk, zbm, zbw, zbo, cP, -List.length_flatten, -List.map_flatten]
 repeat' first | (refine ⟨by omega, ?_⟩) | (intro _)
 refine hK _ ?_; clear hK K
 refine zbr ?_
 refine AW_x rfl rfl fun K hK => ?_
 simp (disch := omega) [zbd, gE, tP, DtInst.cells, DtCmd.cells, DtId.cells, zba, zbe, and_assoc, zbc, zbb, zbx, zbk, zbm, zbw, zbo, cP, -List.length_flatten, -List.map_flatten]
 repeat' first | (exfalso; omega) | (refine zde (zbh zce zbs) (zdq _ (by assumption)) rfl ?_; simp (disch := omega) [zbd, gE, tP, DtInst.cells, DtCmd.cells, DtId.cells, zba, zbe, and_assoc, zbc, zbb, zbx, zbk, zbm, zbw, zbo, cP, -List.length_flatten, -List.map_flatten]) | (refine zdf (zdq _ (by assumption)) (by rfl) ?_ ?_; (focus (simp (disch := omega) [zbd, gE, tP, DtInst.cells, DtCmd.cells, DtId.cells, zba, zbe, and_assoc, zbc, zbb, zbx, zbk, zbm, zbw, zbo, cP, -List.length_flatten, -List.map_flatten, zba]; done)); simp (disch := omega) [zbd, gE, tP, DtInst.cells, DtCmd.cells, DtId.cells, zba, zbe, and_assoc, zbc, zbb, zbx, zbk, zbm, zbw, zbo, cP, -List.length_flatten, -List.map_flatten]) | (refine ⟨by omega, ?_⟩) | (simp (disch := omega) [zbd, gE, tP, DtInst.cells, DtCmd.cells, DtId.cells, zba, zbe, and_assoc, zbc, zbb, zbx, zbk, zbm, zbw, zbo, cP, -List.length_flatten, -List.map_flatten]) | (intro _)
 refine hK _ ?_; clear hK K
 refine zbu rfl (fun hc1 => ?_) (fun hc1 => ?_)
 ·try simp [zbc, zbb, zbg, zbf, zbq, zbt] at hc1
  all_goals
   refine AW_x rfl rfl fun K hK => ?_
   simp (disch := omega) [zbd, gE, tP, DtInst.cells, DtCmd.cells, DtId.cells, zba, zbe, and_assoc, zbc, zbb, zbx, zbk, zbm, zbw, zbo, cP, -List.length_flatten, -List.map_flatten]
   repeat' first | (exfalso; omega) | (refine ⟨fun _ => ?_, fun _ => ?_⟩) | (refine ⟨by omega, ?_⟩) | (simp (disch := omega) [zbd, gE, tP, DtInst.cells, DtCmd.cells, DtId.cells, zba, zbe, and_assoc, zbc, zbb, zbx, zbk, zbm, zbw, zbo, cP, -List.length_flatten, -List.map_flatten]) | (intro _)
   all_goals (refine hK _ ?_; clear hK K)
   all_goals
    refine zby (zh1 ?_)
    simp (disch := omega) [zbd, gE, tP, DtInst.cells, DtCmd.cells, DtId.cells, zba, zbe, and_assoc, zbc, zbb, zbx, zbk, zbm, zbw, zbo, cP, -List.length_flatten, -List.map_flatten, hpb]
    all_goals first | (exfalso; simp_all; done) | (rw [zkp ho (zt5 (by first | omega | (rw [hc4]; simp)))]; done) | (rw [zkp ho ((zjs l out).elim (·.2) (fun ⟨k, hk, h1, h2⟩ => by omega))]; done) | trace_state
 ·try simp [zbc, zbb, zbg, zbf, zbq, zbt] at hc1
  all_goals
   refine zbv ?_
   refine zb4 ?_
   refine AW_x rfl rfl fun K hK => ?_
   simp (disch := omega) [zbd, gE, tP, DtInst.cells, DtCmd.cells, DtId.cells, zba, zbe, and_assoc, zbc, zbb, zbx, zbk, zbm, zbw, zbo, cP, -List.length_flatten, -List.map_flatten]
   repeat' first | (exfalso; omega) | (refine ⟨fun _ => ?_, fun _ => ?_⟩) | (refine ⟨by omega, ?_⟩) | (simp (disch := omega) [zbd, gE, tP, DtInst.cells, DtCmd.cells, DtId.cells, zba, zbe, and_assoc, zbc, zbb, zbx, zbk, zbm, zbw, zbo, cP, -List.length_flatten, -List.map_flatten]) | (intro _)
   all_goals (refine hK _ ?_; clear hK K)
   all_goals
    refine zbr ?_
    refine AW_x rfl rfl fun K hK => ?_
    simp (disch := omega) [zbd, gE, tP, DtInst.cells, DtCmd.cells, DtId.cells, zba, zbe, and_assoc, zbc, zbb, zbx, zbk, zbm, zbw, zbo, cP, -List.length_flatten, -List.map_flatten]
    repeat' first | (refine ⟨by omega, ?_⟩) | (simp (disch := omega) [zbd, gE, tP, DtInst.cells, DtCmd.cells, DtId.cells, zba, zbe, and_assoc, zbc, zbb, zbx, zbk, zbm, zbw, zbo, cP, -List.length_flatten, -List.map_flatten]) | (intro _)
    refine hK _ ?_; clear hK K
    refine zb0 ?_
    refine zcf (fun mM sS => ∃ (i : Nat), mM = l.length - i ∧ (i ≤ l.length) ∧ sS = { env := lkE [(1, .ptr 32 0), (3, .arr 501 0 (leftT l i).length), (14, .sl 16 (l.map DtInst.cells)), (15, (.g (.int .i64 ((l.length : Nat))))), (16, (.g (.int .i64 ((i : Nat)))))], ob := lk [(32, .cells [.sl 16 (l.map DtInst.cells)]), (501, .win 1 ((leftT l i).map cP))] }) ?_ ?_
    ·refine ⟨_, LeS.kw [(32, 32), (501, 224)] [(1, .ptr 32 0), (3, .arr 501 0 (leftT l (0)).length), (14, .sl 16 (l.map DtInst.cells)), (15, (.g (.int .i64 ((l.length : Nat))))), (16, (.g (.int .i64 (((0) : Nat)))))] [(32, .cells [.sl 16 (l.map DtInst.cells)]), (501, .win 1 ((leftT l (0)).map cP))] (by simp [KpR, renV2, renV, zbl, zb5, zbi, zbp, DtId.cells, zbe, cP, zda, zbo, zcq, zcm, zcr, zc2, zc0, zkg]; try (first | rfl | (rw [hsx]; done) | (rw [hsx]; simp; done))) (by simp [KpOW, wnO, renO, plO, cvO, renV, pl1, zbi, zbp, zbl, DtId.cells, zbe, cP, zda, zbo, zcq, zcm, zcr, zc2, zc0, zkg]; try (first | rfl | (rw [hsx]; done) | (rw [hsx]; simp [cP, zda, zbo, zcq, zcm, zcr, zc2]; done))) (by rfl) (by simp) (by simp) (by rfl) (by simp [formsX, List.range_succ, zbi, zbp]), _, 0, rfl, ?_, rfl⟩
     ·simp
    ·rintro mM sS ⟨i, rfl, hi, rfl⟩
     have hli := zjr hp i
     have hln := hli.2.2
     refine AW_x rfl rfl fun K hK => ?_
     simp (disch := omega) [zbd, gE, tP, DtInst.cells, DtCmd.cells, DtId.cells, zba, zbe, and_assoc, zbc, zbb, zbx, zbk, zbm, zbw, zbo, cP, -List.length_flatten, -List.map_flatten]
     repeat' first | (refine ⟨by omega, ?_⟩) | (intro _)
     refine hK _ ?_; clear hK K
     refine zbr ?_
     refine zbu rfl (fun hc2 => ?_) (fun hc2 => ?_)
     ·try simp [zbc, zbb, zbg, zbf, zbq, zbt] at hc2
      all_goals
       have hkn := known_any hp i l[i].fId
       have hpl := zhc hp (id := l[i].fId) (zfc hp (List.getElem_mem _)).1
       refine zbv ?_
       refine zb4 ?_
       refine zbr ?_
       refine zb0 ?_
       refine AW_x rfl rfl fun K hK => ?_
       simp (disch := omega) [zbd, gE, tP, DtInst.cells, DtCmd.cells, DtId.cells, zba, zbe, and_assoc, zbc, zbb, zbx, zbk, zbm, zbw, zbo, cP, -List.length_flatten, -List.map_flatten, hkn]
       repeat' first | (exfalso; omega) | (refine ⟨fun _ => ?_, fun _ => ?_⟩) | (refine ⟨by omega, ?_⟩) | (simp (disch := omega) [zbd, gE, tP, DtInst.cells, DtCmd.cells, DtId.cells, zba, zbe, and_assoc, zbc, zbb, zbx, zbk, zbm, zbw, zbo, cP, -List.length_flatten, -List.map_flatten, hkn]) | (intro _)
       all_goals (refine hK _ ?_; clear hK K)
       all_goals
        refine AW_x rfl rfl fun K hK => ?_
        simp (disch := omega) [zbd, gE, tP, DtInst.cells, DtCmd.cells, DtId.cells, zba, zbe, and_assoc, zbc, zbb, zbx, zbk, zbm, zbw, zbo, cP, -List.length_flatten, -List.map_flatten, hkn]
        repeat' first | (exfalso; omega) | (refine zky (zqb (n := 501) (q := fun p => decB (l[i].fId ∈ p)) (leftT l i) (by exact zvz (zmi rfl) rfl) (by simp [zbl, zbi, zbp]) (by omega) (fun p hpm => parts1 l[i] p (by exact zvz (zmi rfl) rfl) (by simp [zbl, zbi, zbp, DtInst.cells, DtCmd.cells, DtId.cells]) (by have := leftT_pl hp i p hpm; omega))) ?_; rintro _ _ ⟨rfl, rfl⟩; simp (disch := omega) [zbd, gE, tP, DtInst.cells, DtCmd.cells, DtId.cells, zba, zbe, and_assoc, zbc, zbb, zbx, zbk, zbm, zbw, zbo, cP, -List.length_flatten, -List.map_flatten, hkn]) | (refine ⟨by omega, ?_⟩) | (simp (disch := omega) [zbd, gE, tP, DtInst.cells, DtCmd.cells, DtId.cells, zba, zbe, and_assoc, zbc, zbb, zbx, zbk, zbm, zbw, zbo, cP, -List.length_flatten, -List.map_flatten, hkn]) | (intro _)
        refine hK _ ?_; clear hK K
        refine AW_x rfl rfl fun K hK => ?_
        simp (disch := omega) [zbd, gE, tP, DtInst.cells, DtCmd.cells, DtId.cells, zba, zbe, and_assoc, zbc, zbb, zbx, zbk, zbm, zbw, zbo, cP, -List.length_flatten, -List.map_flatten, hkn]
        repeat' first | (exfalso; omega) | (refine zde (zbh zce (zbh (zcb rfl) zbs)) (zn1 l l[i].fId hs hn hm hp) rfl ?_; simp (disch := omega) [zbd, gE, tP, DtInst.cells, DtCmd.cells, DtId.cells, zba, zbe, and_assoc, zbc, zbb, zbx, zbk, zbm, zbw, zbo, cP, -List.length_flatten, -List.map_flatten, hkn]) | (refine zdf (zn1 l l[i].fId hs hn hm hp) (by rfl) ?_ ?_; (focus (simp (disch := omega) [zbd, gE, tP, DtInst.cells, DtCmd.cells, DtId.cells, zba, zbe, and_assoc, zbc, zbb, zbx, zbk, zbm, zbw, zbo, cP, -List.length_flatten, -List.map_flatten, hkn, zba]; done)); simp (disch := omega) [zbd, gE, tP, DtInst.cells, DtCmd.cells, DtId.cells, zba, zbe, and_assoc, zbc, zbb, zbx, zbk, zbm, zbw, zbo, cP, -List.length_flatten, -List.map_flatten, hkn]) | (refine ⟨fun _ => ?_, fun _ => ?_⟩) | (refine ⟨by omega, ?_⟩) | (simp (disch := omega) [zbd, gE, tP, DtInst.cells, DtCmd.cells, DtId.cells, zba, zbe, and_assoc, zbc, zbb, zbx, zbk, zbm, zbw, zbo, cP, -List.length_flatten, -List.map_flatten, hkn]) | (intro _)
        all_goals (refine hK _ ?_; clear hK K)
        all_goals
         refine zbu rfl (fun hc3 => ?_) (fun hc3 => ?_)
         ·try simp [zbc, zbb, zbg, zbf, zbq, zbt] at hc3
          all_goals
           refine zdd rfl rfl fun K hK => ?_
           simp (disch := omega) [zbd, gE, tP, DtInst.cells, DtCmd.cells, DtId.cells, zba, zbe, and_assoc, zbc, zbb, zbx, zbk, zbm, zbw, zbo, cP, -List.length_flatten, -List.map_flatten, hkn]
           repeat' first | (exfalso; omega) | (refine zde (zbh zce (zbh (zcb rfl) zbs)) (zr5 l l[i].fId hs hn hm hp) rfl ?_; simp (disch := omega) [zbd, gE, tP, DtInst.cells, DtCmd.cells, DtId.cells, zba, zbe, and_assoc, zbc, zbb, zbx, zbk, zbm, zbw, zbo, cP, -List.length_flatten, -List.map_flatten, hkn]) | (refine zdf (zr5 l l[i].fId hs hn hm hp) (by rfl) ?_ ?_; (focus (simp (disch := omega) [zbd, gE, tP, DtInst.cells, DtCmd.cells, DtId.cells, zba, zbe, and_assoc, zbc, zbb, zbx, zbk, zbm, zbw, zbo, cP, -List.length_flatten, -List.map_flatten, hkn, zba]; done)); simp (disch := omega) [zbd, gE, tP, DtInst.cells, DtCmd.cells, DtId.cells, zba, zbe, and_assoc, zbc, zbb, zbx, zbk, zbm, zbw, zbo, cP, -List.length_flatten, -List.map_flatten, hkn]) | (refine ⟨fun _ => ?_, fun _ => ?_⟩) | (refine ⟨by omega, ?_⟩) | (simp (disch := omega) [zbd, gE, tP, DtInst.cells, DtCmd.cells, DtId.cells, zba, zbe, and_assoc, zbc, zbb, zbx, zbk, zbm, zbw, zbo, cP, -List.length_flatten, -List.map_flatten, hkn]) | (intro _)
           all_goals (refine hK _ ?_; clear hK K)
           all_goals
            refine zb4 ?_
            refine zdd rfl rfl fun K hK => ?_
            simp (disch := omega) [zbd, gE, tP, DtInst.cells, DtCmd.cells, DtId.cells, zba, zbe, and_assoc, zbc, zbb, zbx, zbk, zbm, zbw, zbo, cP, -List.length_flatten, -List.map_flatten, hkn]
            repeat' first | (refine ⟨by omega, ?_⟩) | (intro _)
            refine hK _ ?_; clear hK K
            first | have hsx := zr6 (l := l) (i := i) (by omega) (by assumption) (by assumption) | have hsx := zn2 (l := l) (i := i) (by omega) (by grind)
            refine ⟨_, LeS.kw [(32, 32), (501, 608)] [(1, .ptr 32 0), (3, .arr 501 0 (leftT l (i + 1)).length), (14, .sl 16 (l.map DtInst.cells)), (15, (.g (.int .i64 ((l.length : Nat))))), (16, (.g (.int .i64 (((i + 1) : Nat)))))] [(32, .cells [.sl 16 (l.map DtInst.cells)]), (501, .win 1 ((leftT l (i + 1)).map cP))] (by simp [KpR, renV2, renV, zbl, zb5, zbi, zbp, DtId.cells, zbe, cP, zda, zbo, zcq, zcm, zcr, zc2, zc0, zkg]; try (first | rfl | (rw [hsx]; done) | (rw [hsx]; simp; done))) (by simp [KpOW, wnO, renO, plO, cvO, renV, pl1, zbi, zbp, zbl, DtId.cells, zbe, cP, zda, zbo, zcq, zcm, zcr, zc2, zc0, zkg]; try (first | rfl | (rw [hsx]; done) | (rw [hsx]; simp [cP, zda, zbo, zcq, zcm, zcr, zc2]; done))) (by rfl) (by simp) (by simp) (by rfl) (by simp [formsX, List.range_succ, zbi, zbp]), _, ?_, i + 1, rfl, ?_, rfl⟩
            ·omega
            ·omega
         ·try simp [zbc, zbb, zbg, zbf, zbq, zbt] at hc3
          all_goals
           refine zbv ?_
           refine zb4 ?_
           refine zdd rfl rfl fun K hK => ?_
           simp (disch := omega) [zbd, gE, tP, DtInst.cells, DtCmd.cells, DtId.cells, zba, zbe, and_assoc, zbc, zbb, zbx, zbk, zbm, zbw, zbo, cP, -List.length_flatten, -List.map_flatten, hkn]
           repeat' first | (exfalso; omega) | (refine ⟨fun _ => ?_, fun _ => ?_⟩) | (refine ⟨by omega, ?_⟩) | (simp (disch := omega) [zbd, gE, tP, DtInst.cells, DtCmd.cells, DtId.cells, zba, zbe, and_assoc, zbc, zbb, zbx, zbk, zbm, zbw, zbo, cP, -List.length_flatten, -List.map_flatten, hkn]) | (intro _)
           all_goals (refine hK _ ?_; clear hK K)
           all_goals
            first | have hsx := zr6 (l := l) (i := i) (by omega) (by assumption) (by assumption) | have hsx := zn2 (l := l) (i := i) (by omega) (by grind)
            refine ⟨_, LeS.kw [(32, 32), (501, 501)] [(1, .ptr 32 0), (3, .arr 501 0 (leftT l (i + 1)).length), (14, .sl 16 (l.map DtInst.cells)), (15, (.g (.int .i64 ((l.length : Nat))))), (16, (.g (.int .i64 (((i + 1) : Nat)))))] [(32, .cells [.sl 16 (l.map DtInst.cells)]), (501, .win 1 ((leftT l (i + 1)).map cP))] (by simp [KpR, renV2, renV, zbl, zb5, zbi, zbp, DtId.cells, zbe, cP, zda, zbo, zcq, zcm, zcr, zc2, zc0, zkg]; try (first | rfl | (rw [hsx]; done) | (rw [hsx]; simp; done))) (by simp [KpOW, wnO, renO, plO, cvO, renV, pl1, zbi, zbp, zbl, DtId.cells, zbe, cP, zda, zbo, zcq, zcm, zcr, zc2, zc0, zkg]; try (first | rfl | (rw [hsx]; done) | (rw [hsx]; simp [cP, zda, zbo, zcq, zcm, zcr, zc2]; done))) (by rfl) (by simp) (by simp) (by rfl) (by simp [formsX, List.range_succ, zbi, zbp]), _, ?_, i + 1, rfl, ?_, rfl⟩
            ·omega
            ·omega
     ·try simp [zbc, zbb, zbg, zbf, zbq, zbt] at hc2
      all_goals
       refine zch ?_
       refine zb4 ?_
       refine AW_x rfl rfl fun K hK => ?_
       simp (disch := omega) [zbd, gE, tP, DtInst.cells, DtCmd.cells, DtId.cells, zba, zbe, and_assoc, zbc, zbb, zbx, zbk, zbm, zbw, zbo, cP, -List.length_flatten, -List.map_flatten]
       repeat' first | (exfalso; omega) | (refine ⟨fun _ => ?_, fun _ => ?_⟩) | (refine ⟨by omega, ?_⟩) | (simp (disch := omega) [zbd, gE, tP, DtInst.cells, DtCmd.cells, DtId.cells, zba, zbe, and_assoc, zbc, zbb, zbx, zbk, zbm, zbw, zbo, cP, -List.length_flatten, -List.map_flatten]) | (intro _)
       all_goals (refine hK _ ?_; clear hK K)
       all_goals
        refine AW_x rfl rfl fun K hK => ?_
        simp (disch := omega) [zbd, gE, tP, DtInst.cells, DtCmd.cells, DtId.cells, zba, zbe, and_assoc, zbc, zbb, zbx, zbk, zbm, zbw, zbo, cP, -List.length_flatten, -List.map_flatten]
        repeat' first | (refine ⟨by omega, ?_⟩) | (simp (disch := omega) [zbd, gE, tP, DtInst.cells, DtCmd.cells, DtId.cells, zba, zbe, and_assoc, zbc, zbb, zbx, zbk, zbm, zbw, zbo, cP, -List.length_flatten, -List.map_flatten]) | (intro _)
        refine hK _ ?_; clear hK K
        refine zbr ?_
        refine zb0 ?_
        have hle := leftT_e l i (by omega)
        simp only [hle]
        refine zcf (fun mM sS => ∃ (out : List (List DtId)), mM = (leftR l out).length ∧ (PInv l out) ∧ sS = { env := lkE [(1, .ptr 32 0), (3, .arr 501 0 (leftR l out).length), (7, .arr 502 0 out.length), (8, .ptr 144 0)], ob := lk [(32, .cells [.sl 16 (l.map DtInst.cells)]), (144, .cells [.arr 503 0 out.flatten.length]), (501, .win 1 ((leftR l out).map cP)), (502, .win 1 (out.map cP)), (503, .win 2 (out.flatten.map DtId.cells))] }) ?_ ?_
        ·refine ⟨_, LeS.kw [(32, 32), (144, 144), (501, 501), (502, 640), (503, 656)] [(1, .ptr 32 0), (3, .arr 501 0 (leftR l ([])).length), (7, .arr 502 0 ([]).length), (8, .ptr 144 0)] [(32, .cells [.sl 16 (l.map DtInst.cells)]), (144, .cells [.arr 503 0 ([]).flatten.length]), (501, .win 1 ((leftR l ([])).map cP)), (502, .win 1 (([]).map cP)), (503, .win 2 (([]).flatten.map DtId.cells))] (by simp [KpR, renV2, renV, zbl, zb5, zbi, zbp, DtId.cells, zbe, cP, zda, zbo, zcq, zcm, zcr, zc2, zc0, zmv]; try (first | rfl | (rw [hdel]; simp; omega) | (rw [hdel]; simp; done))) (by simp [KpOW, wnO, renO, plO, cvO, renV, pl1, zbi, zbp, zbl, DtId.cells, zbe, cP, zda, zbo, zcq, zcm, zcr, zc2, zc0, zmv]; try (first | rfl | (rw [hdel]; simp [cP, zda, zbo, zcq, zcm, zcr, zc2]; done) | exact .inr (wn_imm2 (by rw [← List.map_take, ← List.map_drop, ← List.map_append]; exact zbo _) (by rw [hdel]; simp)) | trace_state)) (by rfl) (by simp) (by simp) (by rfl) (by simp [formsX, List.range_succ, zbi, zbp]), _, [], rfl, ?_, rfl⟩
         ·exact pinv_0 l
        ·rintro mM sS ⟨out, rfl, ho, rfl⟩
         have ⟨hl1, hl2, hl3⟩ := zli hp ho.1
         have hrl := leftR_len hp out
         refine zbr ?_
         refine AW_x rfl rfl fun K hK => ?_
         simp (disch := omega) [zbd, gE, tP, DtInst.cells, DtCmd.cells, DtId.cells, zba, zbe, and_assoc, zbc, zbb, zbx, zbk, zbm, zbw, zbo, cP, -List.length_flatten, -List.map_flatten]
         repeat' first | (refine ⟨by omega, ?_⟩) | (simp (disch := omega) [zbd, gE, tP, DtInst.cells, DtCmd.cells, DtId.cells, zba, zbe, and_assoc, zbc, zbb, zbx, zbk, zbm, zbw, zbo, cP, -List.length_flatten, -List.map_flatten]) | (intro _)
         refine hK _ ?_; clear hK K
         refine zbu rfl (fun hc4 => ?_) (fun hc4 => ?_)
         ·try simp [zbc, zbb, zbg, zbf, zbq, zbt] at hc4
          all_goals
           refine zbv ?_
           refine zb4 ?_
           refine zb0 ?_
           refine AW_x rfl rfl fun K hK => ?_
           simp (disch := omega) [zbd, gE, tP, DtInst.cells, DtCmd.cells, DtId.cells, zba, zbe, and_assoc, zbc, zbb, zbx, zbk, zbm, zbw, zbo, cP, -List.length_flatten, -List.map_flatten]
           repeat' first | (exfalso; omega) | (refine zky (znw (n := 501) (q := fun p => decB (FreeP l p out.flatten)) (leftR l out) (by exact zmi rfl) (by simp [zbl, zbi, zbp]) (by omega) (fun p hpm => parts2 (m3 := 503) l p out.flatten (by exact zmi rfl) (by simp [zbl, zbi, zbp]) (by simp [zbl, zbi, zbp, -List.length_flatten]) (by simp [zbl, zbi, zbp, -List.map_flatten]) hn hm hp (zqi hp out p hpm).2 (by have := (zqi hp out p hpm).1; omega) (by omega))) ?_; rintro _ _ ⟨rfl, rfl⟩; simp (disch := omega) [zbd, gE, tP, DtInst.cells, DtCmd.cells, DtId.cells, zba, zbe, and_assoc, zbc, zbb, zbx, zbk, zbm, zbw, zbo, cP, -List.length_flatten, -List.map_flatten]) | (refine ⟨fun _ => ?_, fun _ => ?_⟩) | (refine ⟨by omega, ?_⟩) | (simp (disch := omega) [zbd, gE, tP, DtInst.cells, DtCmd.cells, DtId.cells, zba, zbe, and_assoc, zbc, zbb, zbx, zbk, zbm, zbw, zbo, cP, -List.length_flatten, -List.map_flatten]) | (intro _)
           all_goals (refine hK _ ?_; clear hK K)
           all_goals
            refine zbr ?_
            refine AW_x rfl rfl fun K hK => ?_
            simp (disch := omega) [zbd, gE, tP, DtInst.cells, DtCmd.cells, DtId.cells, zba, zbe, and_assoc, zbc, zbb, zbx, zbk, zbm, zbw, zbo, cP, -List.length_flatten, -List.map_flatten]
            repeat' first | (refine ⟨by omega, ?_⟩) | (intro _)
            refine hK _ ?_; clear hK K
            refine zbu rfl (fun hc5 => ?_) (fun hc5 => ?_)
            ·try simp [zbc, zbb, zbg, zbf, zbq, zbt] at hc5
             all_goals
              refine zch ?_
              refine zb4 ?_
              refine AW_x rfl rfl fun K hK => ?_
              simp (disch := omega) [zbd, gE, tP, DtInst.cells, DtCmd.cells, DtId.cells, zba, zbe, and_assoc, zbc, zbb, zbx, zbk, zbm, zbw, zbo, cP, -List.length_flatten, -List.map_flatten]
              repeat' first | (exfalso; omega) | (refine ⟨fun _ => ?_, fun _ => ?_⟩) | (refine ⟨by omega, ?_⟩) | (simp (disch := omega) [zbd, gE, tP, DtInst.cells, DtCmd.cells, DtId.cells, zba, zbe, and_assoc, zbc, zbb, zbx, zbk, zbm, zbw, zbo, cP, -List.length_flatten, -List.map_flatten]) | (intro _)
              all_goals (refine hK _ ?_; clear hK K)
              all_goals
               refine zby (zh1 ?_)
               simp (disch := omega) [zbd, gE, tP, DtInst.cells, DtCmd.cells, DtId.cells, zba, zbe, and_assoc, zbc, zbb, zbx, zbk, zbm, zbw, zbo, cP, -List.length_flatten, -List.map_flatten, hpb]
               all_goals first | (exfalso; simp_all; done) | (rw [zkp ho (zt5 (by first | omega | (rw [hc4]; simp)))]; done) | (rw [zkp ho ((zjs l out).elim (·.2) (fun ⟨k, hk, h1, h2⟩ => by omega))]; done) | trace_state
            ·try simp [zbc, zbb, zbg, zbf, zbq, zbt] at hc5
             all_goals
              refine zbv ?_
              refine zb4 ?_
              obtain ⟨k, hk, hix, hnx⟩ : ∃ k, ∃ hk : k < (leftR l out).length, idxZ (fun p => decB (FreeP l p out.flatten)) (leftR l out) = k ∧ nextP l out = some (leftR l out)[k] := (zjs l out).resolve_left fun h => by omega
              simp only [hix]
              have hkl := (zqi hp out _ (List.getElem_mem hk)).1
              refine AW_x rfl rfl fun K hK => ?_
              simp (disch := omega) [zbd, gE, tP, DtInst.cells, DtCmd.cells, DtId.cells, zba, zbe, and_assoc, zbc, zbb, zbx, zbk, zbm, zbw, zbo, cP, -List.length_flatten, -List.map_flatten]
              repeat' first | (exfalso; omega) | (refine ⟨fun _ => ?_, fun _ => ?_⟩) | (refine ⟨by omega, ?_⟩) | (simp (disch := omega) [zbd, gE, tP, DtInst.cells, DtCmd.cells, DtId.cells, zba, zbe, and_assoc, zbc, zbb, zbx, zbk, zbm, zbw, zbo, cP, -List.length_flatten, -List.map_flatten]) | (intro _)
              all_goals (refine hK _ ?_; clear hK K)
              all_goals
               refine AW_d rfl mix (by kernel_rfl) (by kernel_rfl) fun K hK => ?_
               simp (disch := omega) [zbd, gE, tP, DtInst.cells, DtCmd.cells, DtId.cells, zba, zbe, and_assoc, zbc, zbb, zbx, zbk, zbm, zbw, zbo, cP, -List.length_flatten, -List.map_flatten]
               repeat' first | (refine ⟨by omega, ?_⟩) | (simp (disch := omega) [zbd, gE, tP, DtInst.cells, DtCmd.cells, DtId.cells, zba, zbe, and_assoc, zbc, zbb, zbx, zbk, zbm, zbw, zbo, cP, -List.length_flatten, -List.map_flatten]) | (intro _)
               refine hK _ _ (by kernel_rfl) ?_; clear hK K
               refine AW_le (LeS.kw [(32, 32), (144, 144), (501, 501), (502, 896), (503, 992)] [(1, .ptr 32 0), (3, .arr 501 0 (leftR l out).length), (7, .arr 502 0 (out.length + 1)), (8, .ptr 144 0), (9, (.g (.int .i64 ((k : Nat)))))] [(32, .cells [.sl 16 (l.map DtInst.cells)]), (144, .cells [.arr 503 0 (out.flatten.length + (leftR l out)[k].length)]), (501, .win 1 ((leftR l out).map cP)), (502, .win 1 ((out ++ [(leftR l out)[k]]).map cP)), (503, .win 2 ((out ++ [(leftR l out)[k]]).flatten.map DtId.cells))] (by simp [KpR, renV2, renV, zbl, zb5, zbi, zbp]) (by simp [KpOW, wnO, renO, plO, cvO, renV, pl1, zbi, zbp, zbl, DtId.cells, zbe, cP, zda, zbo, zcq, zcm, zcr, zc2, zc0]) (by rfl) (by simp) (by simp) (by rfl) (by simp [formsX, List.range_succ, zbi, zbp])) ?_
               refine zdd rfl rfl fun K hK => ?_
               simp (disch := omega) [zbd, gE, tP, DtInst.cells, DtCmd.cells, DtId.cells, zba, zbe, and_assoc, zbc, zbb, zbx, zbk, zbm, zbw, zbo, cP, -List.length_flatten, -List.map_flatten]
               repeat' first | (exfalso; omega) | (refine zky (delRowsP (n := 501) (leftR l out) (by exact zmi rfl) (by simp [zbl, zbi, zbp]) k hk (by omega)) ?_; rintro _ _ ⟨rfl, rfl⟩; simp (disch := omega) [zbd, gE, tP, DtInst.cells, DtCmd.cells, DtId.cells, zba, zbe, and_assoc, zbc, zbb, zbx, zbk, zbm, zbw, zbo, cP, -List.length_flatten, -List.map_flatten]) | (refine ⟨by omega, ?_⟩) | (simp (disch := omega) [zbd, gE, tP, DtInst.cells, DtCmd.cells, DtId.cells, zba, zbe, and_assoc, zbc, zbb, zbx, zbk, zbm, zbw, zbo, cP, -List.length_flatten, -List.map_flatten]) | (intro _)
               refine hK _ ?_; clear hK K
               have hpi := pinv_s hp ho hnx
               have hdel := zr2 hp hk
               refine ⟨_, LeS.kw [(32, 32), (144, 144), (501, 501), (502, 502), (503, 503)] [(1, .ptr 32 0), (3, .arr 501 0 (leftR l (out ++ [(leftR l out)[k]])).length), (7, .arr 502 0 (out ++ [(leftR l out)[k]]).length), (8, .ptr 144 0)] [(32, .cells [.sl 16 (l.map DtInst.cells)]), (144, .cells [.arr 503 0 (out ++ [(leftR l out)[k]]).flatten.length]), (501, .win 1 ((leftR l (out ++ [(leftR l out)[k]])).map cP)), (502, .win 1 ((out ++ [(leftR l out)[k]]).map cP)), (503, .win 2 ((out ++ [(leftR l out)[k]]).flatten.map DtId.cells))] (by simp [KpR, renV2, renV, zbl, zb5, zbi, zbp, DtId.cells, zbe, cP, zda, zbo, zcq, zcm, zcr, zc2, zc0, zmv]; try (first | rfl | (rw [hdel]; simp; omega) | (rw [hdel]; simp; done))) (by simp [KpOW, wnO, renO, plO, cvO, renV, pl1, zbi, zbp, zbl, DtId.cells, zbe, cP, zda, zbo, zcq, zcm, zcr, zc2, zc0, zmv]; try (first | rfl | (rw [hdel]; simp [cP, zda, zbo, zcq, zcm, zcr, zc2]; done) | exact .inr (wn_imm2 (by rw [← List.map_take, ← List.map_drop, ← List.map_append]; exact zbo _) (by rw [hdel]; simp)) | trace_state)) (by rfl) (by simp) (by simp) (by rfl) (by simp [formsX, List.range_succ, zbi, zbp]), _, ?_, out ++ [(leftR l out)[k]], rfl, ?_, rfl⟩
               ·omega
               ·exact hpi.1
         ·try simp [zbc, zbb, zbg, zbf, zbq, zbt] at hc4
          all_goals
           refine zch ?_
           refine zb4 ?_
           refine AW_x rfl rfl fun K hK => ?_
           simp (disch := omega) [zbd, gE, tP, DtInst.cells, DtCmd.cells, DtId.cells, zba, zbe, and_assoc, zbc, zbb, zbx, zbk, zbm, zbw, zbo, cP, -List.length_flatten, -List.map_flatten]
           repeat' first | (exfalso; omega) | (refine ⟨fun _ => ?_, fun _ => ?_⟩) | (refine ⟨by omega, ?_⟩) | (simp (disch := omega) [zbd, gE, tP, DtInst.cells, DtCmd.cells, DtId.cells, zba, zbe, and_assoc, zbc, zbb, zbx, zbk, zbm, zbw, zbo, cP, -List.length_flatten, -List.map_flatten]) | (intro _)
           all_goals (refine hK _ ?_; clear hK K)
           all_goals
            refine zby (zh1 ?_)
            simp (disch := omega) [zbd, gE, tP, DtInst.cells, DtCmd.cells, DtId.cells, zba, zbe, and_assoc, zbc, zbb, zbx, zbk, zbm, zbw, zbo, cP, -List.length_flatten, -List.map_flatten, hpb]
            all_goals first | (exfalso; simp_all; done) | (rw [zkp ho (zt5 (by first | omega | (rw [hc4]; simp)))]; done) | (rw [zkp ho ((zjs l out).elim (·.2) (fun ⟨k, hk, h1, h2⟩ => by omega))]; done) | trace_state
end Go.Proofs.YtfbmhgiokfpgiaaGreat.Vs
