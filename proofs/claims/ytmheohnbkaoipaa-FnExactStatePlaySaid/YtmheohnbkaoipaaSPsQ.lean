import Derived.Test.YtmheohnbkaoipaaSStT
open Go Go.Proofs Go.Proofs.Ytmheohnbkaoipaa.Vs
namespace Go.Proofs.Ytmheohnbkaoipaa.Vs
set_option linter.all false
set_option linter.unusedSimpArgs false
set_option linter.unusedVariables false
set_option maxRecDepth 100000
set_option maxHeartbeats 2000000
attribute [local simp] DtState.cells DtCatalog.cells DtCmd.cells zbp and_assoc zvf cS List.range_succ
attribute [-simp] aAppC aAppZ
theorem zri (l : List DtCmd) (hs : szS DtCmd.sz l ≤ 1048576) (hn : l.length ≤ 1048576) : XCall Try.prog 29 [.sl 8 (l.map DtCmd.cells)] [] (.tup [.agg [.arr 16 0 (splC l).fCat.fSets.length, .arr 17 0 (splC l).fSaid.length], .arr 18 0 l.length]) [] [.own 2 ((splC l).fCat.fSets.map DtCSet.cells), .own 3 ((splC l).fSaid.map DtSaid.cells), .own 1 ((splR l).map cS)] := by
 refine zby Try.func29 (by rfl) (by rfl) (by rw [Try.ntmps29]; exact Nat.le_of_ble_eq_true rfl) rfl (by simp) rfl rfl ?_
 rw [Try.ntmps29]
 refine zgw   ?_
 refine AW_k [(0, _)] ⟨rfl, trivial⟩ ?_
 refine AW_x rfl rfl fun K hK => ?_
 simp (disch := omega)
 repeat' first | (refine ⟨by omega, ?_⟩) | (intro _)
 refine hK _ ?_; clear hK K
 refine AW_x rfl rfl fun K hK => ?_
 simp (disch := omega)
 repeat' first | (refine ⟨by omega, ?_⟩) | (simp (disch := omega)) | (intro _)
 refine hK _ ?_; clear hK K
 refine AW_x rfl rfl fun K hK => ?_
 simp (disch := omega)
 repeat' first | (refine ⟨by omega, ?_⟩) | (simp (disch := omega)) | (intro _)
 refine hK _ ?_; clear hK K
 refine zbm ?_
 refine AW_x rfl rfl fun K hK => ?_
 simp (disch := omega)
 repeat' first | (refine ⟨by omega, ?_⟩) | (simp (disch := omega)) | (intro _)
 refine hK _ ?_; clear hK K
 refine zbs ?_
 refine zb4 (fun mM sS => ∃ (i : Nat), mM = l.length - i ∧ (i ≤ l.length) ∧ sS = { env := lkE [(2, .ptr 48 0), (4, .ptr 80 0), (5, .arr 501 0 i), (12, .sl 8 (l.map DtCmd.cells)), (13, (.g (.int .i64 ((l.length : Nat))))), (14, (.g (.int .i64 ((i : Nat)))))], ob := lk [(48, .cells [.g (.slice none 0 0), .g (.slice none 0 0)]), (80, .cells [.arr 500 0 (splC (l.take i)).fCat.fSets.length, .arr 502 0 (splC (l.take i)).fSaid.length]), (500, .own 2 ((splC (l.take i)).fCat.fSets.map DtCSet.cells)), (502, .own 3 ((splC (l.take i)).fSaid.map DtSaid.cells)), (501, .win 1 ((splR (l.take i)).map cS))] }) ?_ ?_
 ·refine ⟨_, LeS.trans (LeS.znc (cs := [.g (.slice none 0 0), .g (.slice none 0 0)]) 500 2 80 0 (by simp [zbf, zbd, zbh, zbt]) (by simp [zbf, zbd, zbh, zbt]) (by rfl)) (LeS.trans (LeS.znc (cs := [.arr 500 0 0, .g (.slice none 0 0)]) 502 3 80 1 (by simp [zbf, zbd, zbh, zbt]) (by simp [zbf, zbd, zbh, zbt]) (by rfl)) (LeS.kx [(48, 48), (80, 80), (500, 500), (502, 502), (501, 192)] [(2, .ptr 48 0), (4, .ptr 80 0), (5, .arr 501 0 (0)), (12, .sl 8 (l.map DtCmd.cells)), (13, (.g (.int .i64 ((l.length : Nat))))), (14, (.g (.int .i64 (((0) : Nat)))))] [(48, .cells [.g (.slice none 0 0), .g (.slice none 0 0)]), (80, .cells [.arr 500 0 (splC (l.take (0))).fCat.fSets.length, .arr 502 0 (splC (l.take (0))).fSaid.length]), (500, .own 2 ((splC (l.take (0))).fCat.fSets.map DtCSet.cells)), (502, .own 3 ((splC (l.take (0))).fSaid.map DtSaid.cells)), (501, .win 1 ((splR (l.take (0))).map cS))] (by simp [KpR, renV2, renV, zbf, zbt, zbd, zbh]; first | omega | (rw [htc]; done) | (rw [htc]; rfl) | trace_state) (by simp [KpOX, renO, plO, cvO, renV, pl1, zbd, zbh, zbf]; first | rfl | exact ⟨⟨rfl, rfl⟩, rfl, rfl, rfl⟩ | exact ⟨rfl, rfl, rfl, rfl, rfl⟩ | (rw [htc, htr]; simp [cS]; done) | trace_state) (by rfl) (by simp) (by simp) (by rfl) (by simp [formsX, List.range_succ, zbd, zbh]))), _, 0, rfl, ?_, rfl⟩
  ·simp
 ·rintro mM sS ⟨i, rfl, hi, rfl⟩
  refine AW_x rfl rfl fun K hK => ?_
  simp (disch := omega)
  repeat' first | (refine ⟨by omega, ?_⟩) | (intro _)
  refine hK _ ?_; clear hK K
  refine zbm ?_
  refine zbl rfl (fun hc1 => ?_) (fun hc1 => ?_)
  ·try simp [zba, zbb, zbe, zbc] at hc1
   all_goals
    have ⟨htc, htr⟩ := zvs l i (by omega)
    have hrl := zrh l i hi
    refine zbn ?_
    refine zbr ?_
    refine zbm ?_
    refine zbs ?_
    refine AW_x rfl rfl fun K hK => ?_
    simp (disch := omega)
    repeat' first | (exfalso; omega) | (refine ⟨fun _ => ?_, fun _ => ?_⟩) | (refine ⟨by omega, ?_⟩) | (simp (disch := omega)) | (intro _)
    all_goals (refine hK _ ?_; clear hK K)
    all_goals
     refine AW_x rfl rfl fun K hK => ?_
     simp (disch := omega)
     repeat' first | (exfalso; omega) | (refine zdq [] true [] (zs8 (splC (l.take i)) l[i] (zta _) (cmd_sz l hs i (by omega))) ?_ ?_ ?_; (focus (simp [List.range_succ, nmC]; done)); (focus (simp (disch := omega) [zbp]; done)); simp (disch := omega)) | (refine ⟨by omega, ?_⟩) | (simp (disch := omega)) | (intro _)
     refine hK _ ?_; clear hK K
     refine AW_x rfl rfl fun K hK => ?_
     simp (disch := omega)
     repeat' first | (refine ⟨by omega, ?_⟩) | (simp (disch := omega)) | (intro _)
     refine hK _ ?_; clear hK K
     refine zcr rfl rfl fun K hK => ?_
     simp (disch := omega)
     repeat' first | (refine ⟨by omega, ?_⟩) | (simp (disch := omega)) | (intro _)
     refine hK _ ?_; clear hK K
     refine zbr ?_
     refine zcr rfl rfl fun K hK => ?_
     simp (disch := omega)
     repeat' first | (refine ⟨by omega, ?_⟩) | (intro _)
     refine hK _ ?_; clear hK K
     refine ⟨_, LeS.kx [(48, 48), (80, 80), (500, 352), (502, 353), (501, 464)] [(2, .ptr 48 0), (4, .ptr 80 0), (5, .arr 501 0 (i + 1)), (12, .sl 8 (l.map DtCmd.cells)), (13, (.g (.int .i64 ((l.length : Nat))))), (14, (.g (.int .i64 (((i + 1) : Nat)))))] [(48, .cells [.g (.slice none 0 0), .g (.slice none 0 0)]), (80, .cells [.arr 500 0 (splC (l.take (i + 1))).fCat.fSets.length, .arr 502 0 (splC (l.take (i + 1))).fSaid.length]), (500, .own 2 ((splC (l.take (i + 1))).fCat.fSets.map DtCSet.cells)), (502, .own 3 ((splC (l.take (i + 1))).fSaid.map DtSaid.cells)), (501, .win 1 ((splR (l.take (i + 1))).map cS))] (by simp [KpR, renV2, renV, zbf, zbt, zbd, zbh]; first | omega | (rw [htc]; done) | (rw [htc]; rfl) | trace_state) (by simp [KpOX, renO, plO, cvO, renV, pl1, zbd, zbh, zbf]; first | rfl | exact ⟨⟨rfl, rfl⟩, rfl, rfl, rfl⟩ | exact ⟨rfl, rfl, rfl, rfl, rfl⟩ | (rw [htc, htr]; simp [cS]; done) | trace_state) (by rfl) (by simp) (by simp) (by rfl) (by simp [formsX, List.range_succ, zbd, zbh]), _, ?_, i + 1, rfl, ?_, rfl⟩
     ·omega
     ·omega
  try simp [zba, zbb, zbe, zbc] at hc1
  have hil : i = l.length := by omega
  refine zb9 ?_
  refine zbr ?_
  refine AW_x rfl rfl fun K hK => ?_
  simp (disch := omega)
  repeat' first | (exfalso; omega) | (refine ⟨fun _ => ?_, fun _ => ?_⟩) | (refine ⟨by omega, ?_⟩) | (simp (disch := omega)) | (intro _)
  all_goals (refine hK _ ?_; clear hK K)
  all_goals
   refine zbo (zce [500, 502, 501] [] (by simp [List.range_succ, zbd, zbh, zbf]) (by simp) ?_)
   simp (disch := omega)
   all_goals first | (subst hil; rw [List.take_length]; exact ⟨rfl, rfl, rfl, rfl, rfl, rfl⟩) | trace_state
theorem specSplay (l : List DtCmd) (hs : szS DtCmd.sz l ≤ 1048576) (hn : l.length ≤ 1048576) : XCall Try.prog 28 [.sl 8 (l.map DtCmd.cells)] [] (.tup [.agg [.arr 16 0 (splC l).fCat.fSets.length, .arr 17 0 (splC l).fSaid.length], .arr 18 0 l.length]) [] [.own 2 ((splC l).fCat.fSets.map DtCSet.cells), .own 3 ((splC l).fSaid.map DtSaid.cells), .own 1 ((splR l).map cS)] := by
 refine zby Try.func28 (by rfl) (by rfl) (by rw [Try.ntmps28]; exact Nat.le_of_ble_eq_true rfl) rfl (by simp) rfl rfl ?_
 rw [Try.ntmps28]
 refine zgw   ?_
 refine AW_k [(0, _)] ⟨rfl, trivial⟩ ?_
 refine AW_x rfl rfl fun K hK => ?_
 simp (disch := omega)
 repeat' first | (refine ⟨by omega, ?_⟩) | (intro _)
 refine hK _ ?_; clear hK K
 refine AW_x rfl rfl fun K hK => ?_
 simp (disch := omega)
 repeat' first | (refine ⟨by omega, ?_⟩) | (simp (disch := omega)) | (intro _)
 refine hK _ ?_; clear hK K
 refine AW_x rfl rfl fun K hK => ?_
 simp (disch := omega)
 repeat' first | (refine ⟨by omega, ?_⟩) | (simp (disch := omega)) | (intro _)
 refine hK _ ?_; clear hK K
 refine zbm ?_
 refine AW_x rfl rfl fun K hK => ?_
 simp (disch := omega)
 repeat' first | (refine ⟨by omega, ?_⟩) | (intro _)
 refine hK _ ?_; clear hK K
 refine zbs ?_
 refine zb4 (fun mM sS => ∃ (i : Nat), mM = l.length - i ∧ (i ≤ l.length) ∧ sS = { env := lkE [(0, .sl 8 (l.map DtCmd.cells)), (2, .ptr 48 0), (4, .ptr 80 0), (5, .arr 501 0 i), (6, (.g (.int .i64 ((i : Nat)))))], ob := lk [(48, .cells [.g (.slice none 0 0), .g (.slice none 0 0)]), (80, .cells [.arr 500 0 (splC (l.take i)).fCat.fSets.length, .arr 502 0 (splC (l.take i)).fSaid.length]), (500, .own 2 ((splC (l.take i)).fCat.fSets.map DtCSet.cells)), (502, .own 3 ((splC (l.take i)).fSaid.map DtSaid.cells)), (501, .win 1 ((splR (l.take i)).map cS))] }) ?_ ?_
 ·refine ⟨_, LeS.trans (LeS.znc (cs := [.g (.slice none 0 0), .g (.slice none 0 0)]) 500 2 80 0 (by simp [zbf, zbd, zbh, zbt]) (by simp [zbf, zbd, zbh, zbt]) (by rfl)) (LeS.trans (LeS.znc (cs := [.arr 500 0 0, .g (.slice none 0 0)]) 502 3 80 1 (by simp [zbf, zbd, zbh, zbt]) (by simp [zbf, zbd, zbh, zbt]) (by rfl)) (LeS.kx [(48, 48), (80, 80), (500, 500), (502, 502), (501, 176)] [(0, .sl 8 (l.map DtCmd.cells)), (2, .ptr 48 0), (4, .ptr 80 0), (5, .arr 501 0 (0)), (6, (.g (.int .i64 (((0) : Nat)))))] [(48, .cells [.g (.slice none 0 0), .g (.slice none 0 0)]), (80, .cells [.arr 500 0 (splC (l.take (0))).fCat.fSets.length, .arr 502 0 (splC (l.take (0))).fSaid.length]), (500, .own 2 ((splC (l.take (0))).fCat.fSets.map DtCSet.cells)), (502, .own 3 ((splC (l.take (0))).fSaid.map DtSaid.cells)), (501, .win 1 ((splR (l.take (0))).map cS))] (by simp [KpR, renV2, renV, zbf, zbt, zbd, zbh]; first | omega | (rw [htc]; done) | (rw [htc]; rfl) | trace_state) (by simp [KpOX, renO, plO, cvO, renV, pl1, zbd, zbh, zbf]; first | rfl | exact ⟨⟨rfl, rfl⟩, rfl, rfl, rfl⟩ | exact ⟨rfl, rfl, rfl, rfl, rfl⟩ | (rw [htc, htr]; simp [cS]; done) | trace_state) (by rfl) (by simp) (by simp) (by rfl) (by simp [formsX, List.range_succ, zbd, zbh]))), _, 0, rfl, ?_, rfl⟩
  ·simp
 ·rintro mM sS ⟨i, rfl, hi, rfl⟩
  refine zbm ?_
  refine AW_x rfl rfl fun K hK => ?_
  simp (disch := omega)
  repeat' first | (refine ⟨by omega, ?_⟩) | (simp (disch := omega)) | (intro _)
  refine hK _ ?_; clear hK K
  refine zbl rfl (fun hc2 => ?_) (fun hc2 => ?_)
  ·try simp [zba, zbb, zbe, zbc] at hc2
   all_goals
    have ⟨htc, htr⟩ := zvs l i (by omega)
    have hrl := zrh l i hi
    refine zbn ?_
    refine zbr ?_
    refine zbm ?_
    refine zbs ?_
    refine AW_d rfl mix (by kernel_rfl) (by kernel_rfl) fun K hK => ?_
    simp (disch := omega)
    repeat' first | (exfalso; omega) | (refine zqy [] true [] (zs9 (splC (l.take i)) l[i] (zta _) (cmd_sz l hs i (by omega))) ?_ (fun st' hst => ?_) ?_; (focus (simp [List.range_succ, nmC]; done)); (focus (simp (disch := omega) [nmC, List.range_succ] at hst; simp (disch := omega) [hst, zbp, nmC, List.range_succ]; done)); simp (disch := omega)) | (refine ⟨fun _ => ?_, fun _ => ?_⟩) | (refine ⟨by omega, ?_⟩) | (simp (disch := omega)) | (intro _)
    all_goals (refine hK _ _ (by kernel_rfl) ?_; clear hK K)
    all_goals
     refine AW_x rfl rfl fun K hK => ?_
     simp (disch := omega)
     repeat' first | (refine ⟨by omega, ?_⟩) | (simp (disch := omega)) | (intro _)
     refine hK _ ?_; clear hK K
     refine zcr rfl rfl fun K hK => ?_
     simp (disch := omega)
     repeat' first | (refine ⟨by omega, ?_⟩) | (simp (disch := omega)) | (intro _)
     refine hK _ ?_; clear hK K
     refine zbr ?_
     refine zcr rfl rfl fun K hK => ?_
     simp (disch := omega)
     repeat' first | (refine ⟨by omega, ?_⟩) | (intro _)
     refine hK _ ?_; clear hK K
     refine ⟨_, LeS.kx [(48, 48), (80, 80), (500, 384), (502, 385), (501, 496)] [(0, .sl 8 (l.map DtCmd.cells)), (2, .ptr 48 0), (4, .ptr 80 0), (5, .arr 501 0 (i + 1)), (6, (.g (.int .i64 (((i + 1) : Nat)))))] [(48, .cells [.g (.slice none 0 0), .g (.slice none 0 0)]), (80, .cells [.arr 500 0 (splC (l.take (i + 1))).fCat.fSets.length, .arr 502 0 (splC (l.take (i + 1))).fSaid.length]), (500, .own 2 ((splC (l.take (i + 1))).fCat.fSets.map DtCSet.cells)), (502, .own 3 ((splC (l.take (i + 1))).fSaid.map DtSaid.cells)), (501, .win 1 ((splR (l.take (i + 1))).map cS))] (by simp [KpR, renV2, renV, zbf, zbt, zbd, zbh]; first | omega | (rw [htc]; done) | (rw [htc]; rfl) | trace_state) (by simp [KpOX, renO, plO, cvO, renV, pl1, zbd, zbh, zbf]; first | rfl | exact ⟨⟨rfl, rfl⟩, rfl, rfl, rfl⟩ | exact ⟨rfl, rfl, rfl, rfl, rfl⟩ | (rw [htc, htr]; simp [cS]; done) | trace_state) (by rfl) (by simp) (by simp) (by rfl) (by simp [formsX, List.range_succ, zbd, zbh]), _, ?_, i + 1, rfl, ?_, rfl⟩
     ·omega
     ·omega
  try simp [zba, zbb, zbe, zbc] at hc2
  have hil : i = l.length := by omega
  refine zb9 ?_
  refine zbr ?_
  refine AW_x rfl rfl fun K hK => ?_
  simp (disch := omega)
  repeat' first | (exfalso; omega) | (refine ⟨fun _ => ?_, fun _ => ?_⟩) | (refine ⟨by omega, ?_⟩) | (simp (disch := omega)) | (intro _)
  all_goals (refine hK _ ?_; clear hK K)
  all_goals
   refine zbo (zce [500, 502, 501] [] (by simp [List.range_succ, zbd, zbh, zbf]) (by simp) ?_)
   simp (disch := omega)
   all_goals first | (subst hil; rw [List.take_length]; exact ⟨rfl, rfl, rfl, rfl, rfl, rfl⟩) | trace_state
end Go.Proofs.Ytmheohnbkaoipaa.Vs
