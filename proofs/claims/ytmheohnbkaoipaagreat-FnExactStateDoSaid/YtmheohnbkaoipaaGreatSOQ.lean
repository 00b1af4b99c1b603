import Derived.Test.YtmheohnbkaoipaaGreatSN1
import Derived.Test.YtmheohnbkaoipaaGreatSDQ
open Go Go.Proofs Go.Proofs.YtmheohnbkaoipaaGreat.Vs
namespace Go.Proofs.YtmheohnbkaoipaaGreat.Vs
set_option linter.all false
set_option linter.unusedSimpArgs false
set_option linter.unusedVariables false
set_option maxRecDepth 100000
theorem zgf {l : List (List AV)} {i : Nat} {a b : List AV} (h : a = b) : l.set i a = l.set i b := by rw [h]
theorem zc0 {α : Type} {f : α → Int} (hf : ∀ x, 0 ≤ f x) (l : List α) : (l.length : Int) ≤ szS f l := by have := zb9 hf l; unfold szS; omega
theorem zvc {α : Type} {cnt sz : α → Int} (h : ∀ u, cnt u ≤ 16 * (1 + sz u)) : ∀ us : List α, cntS cnt us ≤ 16 * szS sz us
 | [] => by simp [zcw, szS, zdc]
 | u :: us => by
  have h1 := zvc h us
  have h2 := h u
  simp only [szS, zde, zfy, List.length_cons] at h1 ⊢
  omega
def mkCmd (k : Int) (u : DtCmd) : DtCmd := { fKind := k, fClient := k + 1, fNo := k + 1 + 1, fSet := mT (k + 1 + 1 + 1), fName := mT (k + 1 + 1 + 1 + 1), fTag := mT (k + 1 + 1 + 1 + 1 + 1), fN := k + 1 + 1 + 1 + 1 + 1 + 1, fChunks := mkL mT (k + 1 + 1 + 1 + 1 + 1 + 1 + 1) u.fChunks.length }
def cntCmd (u : DtCmd) : Int := 1 + 1 + 1 + 1 + 1 + 1 + 1 + (u.fChunks.length : Nat)
theorem cntCmd_sz (u : DtCmd) : cntCmd u ≤ 16 * (1 + DtCmd.sz u) := by
 have := zc0 zce u.fChunks
 unfold cntCmd
 simp only [DtCmd.sz]
 omega
theorem zvd (u : DtCmd) (hs : DtCmd.sz u ≤ 2097152) : XCall Tryz.prog 8 [.agg (DtCmd.cells u)] [] (.agg [.g (.int .i64 u.fKind), .g (.int .i64 u.fClient), .g (.int .i64 u.fNo), .s u.fSet, .s u.fName, .s u.fTag, .g (.int .i64 u.fN), .arr 16 0 u.fChunks.length]) [] [.own 1 (u.fChunks.map cS)] := by
 simp only [DtCmd.sz] at hs
 have hz1 := zc0 zce u.fChunks
 refine zbx Tryz.func8 (by rfl) (by rfl) (by rw [Tryz.ntmps8]; exact Nat.le_of_ble_eq_true rfl) rfl (by simp) rfl rfl ?_
 rw [Tryz.ntmps8]
 refine zf1   ?_
 refine AW_k [(0, _)] ⟨rfl, trivial⟩ ?_
 refine AW_x rfl rfl fun K hK => ?_
 simp (disch := omega) [zbi, gE, tP, DtCmd.cells]
 repeat' first | (refine ⟨by omega, ?_⟩) | (intro _)
 refine hK _ ?_; clear hK K
 refine AW_x rfl rfl fun K hK => ?_
 simp (disch := omega) [zbi, gE, tP, DtCmd.cells]
 repeat' first | (refine ⟨by omega, ?_⟩) | (intro _)
 refine hK _ ?_; clear hK K
 refine AW_x rfl rfl fun K hK => ?_
 simp (disch := omega) [zbi, gE, tP, DtCmd.cells]
 repeat' first | (refine ⟨by omega, ?_⟩) | (intro _)
 refine hK _ ?_; clear hK K
 refine AW_x rfl rfl fun K hK => ?_
 simp (disch := omega) [zbi, gE, tP, DtCmd.cells]
 repeat' first | (refine ⟨by omega, ?_⟩) | (intro _)
 refine hK _ ?_; clear hK K
 refine AW_x rfl rfl fun K hK => ?_
 simp (disch := omega) [zbi, gE, tP, DtCmd.cells]
 repeat' first | (refine ⟨by omega, ?_⟩) | (intro _)
 refine hK _ ?_; clear hK K
 refine AW_x rfl rfl fun K hK => ?_
 simp (disch := omega) [zbi, gE, tP, DtCmd.cells]
 repeat' first | (refine ⟨by omega, ?_⟩) | (intro _)
 refine hK _ ?_; clear hK K
 refine AW_x rfl rfl fun K hK => ?_
 simp (disch := omega) [zbi, gE, tP, DtCmd.cells]
 repeat' first | (refine ⟨by omega, ?_⟩) | (intro _)
 refine hK _ ?_; clear hK K
 refine AW_x rfl rfl fun K hK => ?_
 simp (disch := omega) [zbi, gE, tP, DtCmd.cells]
 repeat' first | (refine ⟨by omega, ?_⟩) | (intro _)
 refine hK _ ?_; clear hK K
 refine AW_x rfl rfl fun K hK => ?_
 simp (disch := omega) [zbi, gE, tP, DtCmd.cells]
 repeat' first | (refine ⟨by omega, ?_⟩) | (intro _)
 refine hK _ ?_; clear hK K
 refine AW_x rfl rfl fun K hK => ?_
 simp (disch := omega) [zbi, gE, tP, DtCmd.cells]
 repeat' first | (exfalso; omega) | (refine zdm [] true [] (znd u.fChunks (by omega)) ?_ ?_ ?_; (focus (simp [List.range_succ, nmC]; done)); (focus (simp (disch := omega) [zbi, gE, tP, DtCmd.cells, zbp]; done)); simp (disch := omega) [zbi, gE, tP, DtCmd.cells]) | (refine ⟨by omega, ?_⟩) | (intro _)
 refine hK _ ?_; clear hK K
 refine AW_x rfl rfl fun K hK => ?_
 simp (disch := omega) [zbi, gE, tP, DtCmd.cells]
 repeat' first | (refine ⟨by omega, ?_⟩) | (intro _)
 refine hK _ ?_; clear hK K
 refine zbo (zcc [448] [] (by simp [List.range_succ, zbc, zbj, zbe]) (by simp) ?_)
 simp (disch := omega) [zbi, gE, tP, DtCmd.cells]
 all_goals skip
def mvCmd (k : Int) (u : DtCmd) : DtCmd := { fKind := u.fKind, fClient := u.fClient, fNo := u.fNo, fSet := u.fSet, fName := u.fName, fTag := u.fTag, fN := u.fN, fChunks := mkL mT (k) u.fChunks.length }
def cvCmd (u : DtCmd) : Int := (u.fChunks.length : Nat)
theorem cvCmd_nn (u : DtCmd) : 0 ≤ cvCmd u := by
 unfold cvCmd
 omega
theorem markCmd (u : DtCmd) (k : Int) (hs : DtCmd.sz u ≤ 2097152) (hk : 0 ≤ k ∧ k + cvCmd u ≤ 1073741824) : XCall Tryz.prog 13 [.agg [.g (.int .i64 u.fKind), .g (.int .i64 u.fClient), .g (.int .i64 u.fNo), .s u.fSet, .s u.fName, .s u.fTag, .g (.int .i64 u.fN), .arr 8 0 u.fChunks.length], (.g (.int .i64 (k)))] [.own 1 (u.fChunks.map cS)] (.g (.int .i64 (k + cvCmd u))) [.own 1 ((mkL mT (k) u.fChunks.length).map cS)] [] := by
 simp only [DtCmd.sz] at hs
 have hz1 := zc0 zce u.fChunks
 simp only [cvCmd] at hk
 simp only [cvCmd]
 refine zbx Tryz.func13 (by rfl) (by rfl) (by rw [Tryz.ntmps13]; exact Nat.le_of_ble_eq_true rfl) rfl (by simp) rfl rfl ?_
 rw [Tryz.ntmps13]
 refine zh3 (.own 1 (u.fChunks.map cS)) (by simp [cvO] <;> assumption) ?_
 refine AW_k [(0, _), (1, _)] ⟨rfl, rfl, trivial⟩ ?_
 refine AW_x rfl rfl fun K hK => ?_
 simp (disch := omega) [zbi, gE, tP, DtCmd.cells]
 repeat' first | (refine ⟨by omega, ?_⟩) | (intro _)
 refine hK _ ?_; clear hK K
 refine AW_x rfl rfl fun K hK => ?_
 simp (disch := omega) [zbi, gE, tP, DtCmd.cells]
 repeat' first | (exfalso; omega) | (refine zdm [8] true [] (zlx u.fChunks (k) (by omega) (by omega)) ?_ ?_ ?_; (focus (simp [List.range_succ, nmC]; done)); (focus (simp (disch := omega) [zbi, gE, tP, DtCmd.cells, zbp]; done)); simp (disch := omega) [zbi, gE, tP, DtCmd.cells]) | (refine ⟨by omega, ?_⟩) | (intro _)
 refine hK _ ?_; clear hK K
 refine AW_x rfl rfl fun K hK => ?_
 simp (disch := omega) [zbi, gE, tP, DtCmd.cells]
 repeat' first | (refine ⟨by omega, ?_⟩) | (intro _)
 refine hK _ ?_; clear hK K
 refine zbo (zcc [] [] (by simp [List.range_succ, zbc, zbj, zbe]) (by simp) ?_)
 simp (disch := omega) [zbi, gE, tP, DtCmd.cells]
 all_goals (first | omega | exact ⟨by omega, rfl⟩ | exact ⟨by omega, rfl, rfl⟩ | skip)
def mkCSnap (k : Int) (u : DtCSnap) : DtCSnap := { fName := mT (k), fTag := mT (k + 1), fChunks := mkL mT (k + 1 + 1) u.fChunks.length }
def cntCSnap (u : DtCSnap) : Int := 1 + 1 + (u.fChunks.length : Nat)
theorem zf0 (u : DtCSnap) : 0 ≤ cntCSnap u := by
 unfold cntCSnap
 omega
theorem zs4 (u : DtCSnap) : cntCSnap u ≤ 16 * (1 + DtCSnap.sz u) := by
 have := zc0 zce u.fChunks
 unfold cntCSnap
 simp only [DtCSnap.sz]
 omega
theorem zws (us : List DtCSnap) (k : Int) (hs : szS DtCSnap.sz us ≤ 2097152) (hk : 0 ≤ k ∧ k + cntS cntCSnap us ≤ 1073741824) : XCall Tryz.prog 95 [.arr 8 0 us.length, (.g (.int .i64 (k)))] [.own 3 (us.map DtCSnap.cells)] (.g (.int .i64 (k + cntS cntCSnap us))) [.own 3 ((mkS mkCSnap cntCSnap k us).map DtCSnap.cells)] [] := by
 have hL : us.length ≤ 2097152 := by have := zc0 DtCSnap.sz_nonneg us; omega
 refine zbx Tryz.func95 (by rfl) (by rfl) (by rw [Tryz.ntmps95]; exact Nat.le_of_ble_eq_true rfl) rfl (by simp) rfl rfl ?_
 rw [Tryz.ntmps95]
 refine zh3 (.own 3 (us.map DtCSnap.cells)) (by simp [cvO] <;> assumption) ?_
 refine AW_k [(0, _), (1, _)] ⟨rfl, rfl, trivial⟩ ?_
 refine AW_x rfl rfl fun K hK => ?_
 simp (disch := omega) [zbi, gE, tP, DtCSnap.cells, zch, zby]
 repeat' first | (refine ⟨by omega, ?_⟩) | (intro _)
 refine hK _ ?_; clear hK K
 refine zbm ?_
 refine AW_x rfl rfl fun K hK => ?_
 simp (disch := omega) [zbi, gE, tP, DtCSnap.cells, zch, zby]
 repeat' first | (refine ⟨by omega, ?_⟩) | (intro _)
 refine hK _ ?_; clear hK K
 refine zbt ?_
 refine zb5 (fun mM sS => ∃ (i : Nat), mM = us.length - i ∧ (i ≤ us.length) ∧ sS = { env := lkE [(0, .arr 8 0 us.length), (1, (.g (.int .i64 (k + cntS cntCSnap (us.take i))))), (5, (.g (.int .i64 ((i : Nat)))))], ob := lk [(8, .own 3 ((mkSR mkCSnap cntCSnap k us i).map DtCSnap.cells))] }) ?_ ?_
 ·refine ⟨_, LeS.kx [(8, 8)] [(0, .arr 8 0 us.length), (1, (.g (.int .i64 (k + cntS cntCSnap (us.take (0)))))), (5, (.g (.int .i64 (((0) : Nat)))))] [(8, .own 3 ((mkSR mkCSnap cntCSnap k us (0)).map DtCSnap.cells))] (by simp [KpR, renV2, renV, zbe, zbv, zbc, zbj, zgo, zcw]; try (first | rfl | (omega; done))) (by simp [KpOX, renO, plO, cvO, renV, pl1, zbc, zbj, zbe, zgo, zcw]; try (first | rfl | (rw [← zg8 mkCSnap cntCSnap k us i (by omega), List.map_set]; refine zgf ?_; simp only [DtCSnap.cells, mkCSnap]; repeat' (first | rfl | (omega; done) | congr 1)))) (by rfl) (by simp) (by simp) (by rfl) (by simp [formsX, List.range_succ, zbc, zbj]), _, 0, rfl, ?_, rfl⟩
  ·simp
 ·rintro mM sS ⟨i, rfl, hi, rfl⟩
  have hln : (mkSR mkCSnap cntCSnap k us i).length = us.length := zpd _ _ _ _ _ hi
  refine zbm ?_
  refine AW_x rfl rfl fun K hK => ?_
  simp (disch := omega) [zbi, gE, tP, DtCSnap.cells, zch, zby]
  repeat' first | (refine ⟨by omega, ?_⟩) | (intro _)
  refine hK _ ?_; clear hK K
  refine zbl rfl (fun hc1 => ?_) (fun hc1 => ?_)
  ·try simp at hc1
   all_goals
    have hcl := zju zf0 us i (by omega)
    have hcu : cntCSnap us[i] = 1 + 1 + (us[i].fChunks.length : Nat) := rfl
    have hcs := zfz cntCSnap us i (by omega)
    have hzn1 := zc0 zce us[i].fChunks
    have hsE : DtCSnap.sz us[i] ≤ 2097152 := by have := zcn DtCSnap.sz_nonneg us us[i] (List.getElem_mem _); simp only [szS] at hs; omega
    simp only [DtCSnap.sz] at hsE
    refine zbn ?_
    refine zbq ?_
    refine zbm ?_
    refine zbt ?_
    refine AW_x rfl rfl fun K hK => ?_
    simp (disch := omega) [zbi, gE, tP, DtCSnap.cells, zch, zby]
    repeat' first | (exfalso; omega) | (refine zdq (zbh zcp zbs) (zdk _ (by omega)) rfl ?_; simp (disch := omega) [zbi, gE, tP, DtCSnap.cells, zch, zby]) | (refine zdr (zdk _ (by omega)) (by rfl) ?_ ?_; (focus (simp (disch := omega) [zbi, gE, tP, DtCSnap.cells, zch, zby, zbp]; done)); simp (disch := omega) [zbi, gE, tP, DtCSnap.cells, zch, zby]) | (refine ⟨fun _ => ?_, fun _ => ?_⟩) | (refine ⟨by omega, ?_⟩) | (intro _)
    all_goals (refine hK _ ?_; clear hK K)
    all_goals
     refine AW_x rfl rfl fun K hK => ?_
     simp (disch := omega) [zbi, gE, tP, DtCSnap.cells, zch, zby]
     repeat' first | (refine ⟨by omega, ?_⟩) | (intro _)
     refine hK _ ?_; clear hK K
     refine AW_x rfl rfl fun K hK => ?_
     simp (disch := omega) [zbi, gE, tP, DtCSnap.cells, zch, zby]
     repeat' first | (exfalso; omega) | (refine zdq (zbh zcp zbs) (zdk _ (by omega)) rfl ?_; simp (disch := omega) [zbi, gE, tP, DtCSnap.cells, zch, zby]) | (refine zdr (zdk _ (by omega)) (by rfl) ?_ ?_; (focus (simp (disch := omega) [zbi, gE, tP, DtCSnap.cells, zch, zby, zbp]; done)); simp (disch := omega) [zbi, gE, tP, DtCSnap.cells, zch, zby]) | (refine ⟨by omega, ?_⟩) | (intro _)
     refine hK _ ?_; clear hK K
     refine AW_x rfl rfl fun K hK => ?_
     simp (disch := omega) [zbi, gE, tP, DtCSnap.cells, zch, zby]
     repeat' first | (refine ⟨by omega, ?_⟩) | (intro _)
     refine hK _ ?_; clear hK K
     refine zcr rfl rfl fun K hK => ?_
     simp (disch := omega) [zbi, gE, tP, DtCSnap.cells, zch, zby]
     repeat' first | (exfalso; omega) | (refine XKd_n (n := 8) (i := i) (f0 := 2) (zlx us[i].fChunks _ (by omega) (by omega)) ?_ ?_ ?_ ?_ rfl ?_ rfl ?_ ?_; (focus (simp; done)); (focus rfl); (focus rfl); (focus (simp [zd7, zd8]; done)); (focus (simp; done)); (focus first | exact ⟨_, zby _ _ _ _ (by omega), rfl⟩ | exact ⟨_, by rw [List.getElem?_map, zpe _ _ _ _ _ (by omega)]; rfl, rfl⟩); simp (disch := omega) [zbi, gE, tP, DtCSnap.cells, zch, zby]) | (refine ⟨by omega, ?_⟩) | (intro _)
     refine hK _ ?_; clear hK K
     refine zbq ?_
     refine zcr rfl rfl fun K hK => ?_
     simp (disch := omega) [zbi, gE, tP, DtCSnap.cells, zch, zby]
     repeat' first | (refine ⟨by omega, ?_⟩) | (intro _)
     refine hK _ ?_; clear hK K
     refine ⟨_, LeS.kx [(8, 8)] [(0, .arr 8 0 us.length), (1, (.g (.int .i64 (k + cntS cntCSnap (us.take (i + 1)))))), (5, (.g (.int .i64 (((i + 1) : Nat)))))] [(8, .own 3 ((mkSR mkCSnap cntCSnap k us (i + 1)).map DtCSnap.cells))] (by simp [KpR, renV2, renV, zbe, zbv, zbc, zbj, zgo, zcw]; try (first | rfl | (omega; done))) (by simp [KpOX, renO, plO, cvO, renV, pl1, zbc, zbj, zbe, zgo, zcw]; try (first | rfl | (rw [← zg8 mkCSnap cntCSnap k us i (by omega), List.map_set]; refine zgf ?_; simp only [DtCSnap.cells, mkCSnap]; repeat' (first | rfl | (omega; done) | congr 1)))) (by rfl) (by simp) (by simp) (by rfl) (by simp [formsX, List.range_succ, zbc, zbj]), _, ?_, i + 1, rfl, ?_, rfl⟩
     ·omega
     ·omega
  try simp at hc1
  refine zb7 ?_
  refine zbq ?_
  refine AW_x rfl rfl fun K hK => ?_
  simp (disch := omega) [zbi, gE, tP, DtCSnap.cells, zch, zby]
  repeat' first | (exfalso; omega) | (refine ⟨fun _ => ?_, fun _ => ?_⟩) | (refine ⟨by omega, ?_⟩) | (intro _)
  all_goals (refine hK _ ?_; clear hK K)
  all_goals
   refine zbo (zcc [] [] (by simp [List.range_succ, zbc, zbj, zbe]) (by simp) ?_)
   simp (disch := omega) [zbi, gE, tP, DtCSnap.cells, zch, zby]
   all_goals ((have e : i = us.length := by omega); subst e; rw [mkSR_n _ _ _ _ _ (by omega), List.take_of_length_le (by omega)]; exact ⟨rfl, rfl⟩)
theorem zwt (us : List DtCSnap) (k : Int) (hs : szS DtCSnap.sz us ≤ 2097152) (hk : 0 ≤ k ∧ k + cntS cntCSnap us ≤ 1073741824) : PCall Tryz.prog 96 [.sl 3 ((mkS mkCSnap cntCSnap k us).map DtCSnap.cells), (.g (.int .i64 (k)))] (.g (.int .i64 (k + cntS cntCSnap us))) := by
 have hL : us.length ≤ 2097152 := by have := zc0 DtCSnap.sz_nonneg us; omega
 refine zbu Tryz.func96 (by rfl) (by rfl) (by rw [Tryz.ntmps96]; exact Nat.le_of_ble_eq_true rfl) rfl (by decide) ?_
 rw [Tryz.ntmps96]
 refine AW_k [(0, _), (1, _)] ⟨rfl, rfl, trivial⟩ ?_
 refine AW_r rfl rfl fun K hK => ?_
 simp (disch := omega) [zbi, gE, tP, DtCSnap.cells, zci, mkCSnap]
 repeat' first | (refine ⟨by omega, ?_⟩) | (intro _)
 refine hK _ ?_; clear hK K
 refine zbm ?_
 refine AW_r rfl rfl fun K hK => ?_
 simp (disch := omega) [zbi, gE, tP, DtCSnap.cells, zci, mkCSnap]
 repeat' first | (refine ⟨by omega, ?_⟩) | (intro _)
 refine hK _ ?_; clear hK K
 refine zbt ?_
 refine zb5 (fun mM sS => ∃ (i : Nat), mM = us.length - i ∧ (i ≤ us.length) ∧ sS = { env := lkE [(0, .sl 3 ((mkS mkCSnap cntCSnap k us).map DtCSnap.cells)), (1, (.g (.int .i64 (k + cntS cntCSnap (us.take i))))), (5, (.g (.int .i64 ((i : Nat)))))], ob := formOb [] [] }) ?_ ?_
 ·refine ⟨_, LeS.kp [(0, .sl 3 ((mkS mkCSnap cntCSnap k us).map DtCSnap.cells)), (1, (.g (.int .i64 (k + cntS cntCSnap (us.take (0)))))), (5, (.g (.int .i64 (((0) : Nat)))))] (by simp [KpE, zbe, zbv, zbc, zcw]; try (first | rfl | (omega; done))), _, 0, rfl, ?_, rfl⟩
  ·simp
 ·rintro mM sS ⟨i, rfl, hi, rfl⟩
  have hln : (mkS mkCSnap cntCSnap k us).length = us.length := zd8 _ _ _ _
  refine zbm ?_
  refine AW_r rfl rfl fun K hK => ?_
  simp (disch := omega) [zbi, gE, tP, DtCSnap.cells, zci, mkCSnap]
  repeat' first | (refine ⟨by omega, ?_⟩) | (intro _)
  refine hK _ ?_; clear hK K
  refine zbl rfl (fun hc2 => ?_) (fun hc2 => ?_)
  ·try simp at hc2
   all_goals
    have hcl := zju zf0 us i (by omega)
    have hcu : cntCSnap us[i] = 1 + 1 + (us[i].fChunks.length : Nat) := rfl
    have hcs := zfz cntCSnap us i (by omega)
    have hzn1 := zc0 zce us[i].fChunks
    have hsE : DtCSnap.sz us[i] ≤ 2097152 := by have := zcn DtCSnap.sz_nonneg us us[i] (List.getElem_mem _); simp only [szS] at hs; omega
    simp only [DtCSnap.sz] at hsE
    refine zbn ?_
    refine zbq ?_
    refine zbm ?_
    refine zbt ?_
    refine zbm ?_
    refine AW_q rfl mix (by kernel_rfl) rfl fun K hK => ?_
    simp (disch := omega) [zbi, gE, tP, DtCSnap.cells, zci, mkCSnap]
    repeat' first | (exfalso; omega) | (refine zcx (zbh zcp zbs) (zdk _ (by omega)) rfl ?_; simp (disch := omega) [zbi, gE, tP, DtCSnap.cells, zci, mkCSnap]) | (refine ⟨fun _ => ?_, fun _ => ?_⟩) | (refine ⟨by omega, ?_⟩) | (intro _)
    all_goals (refine hK _ ?_; clear hK K)
    all_goals
     refine zbl rfl (fun hc3 => ?_) (fun hc3 => ?_)
     ·try simp at hc3
      all_goals
       refine AW_r rfl rfl fun K hK => ?_
       simp (disch := omega) [zbi, gE, tP, DtCSnap.cells, zci, mkCSnap]
       repeat' first | (exfalso; omega) | (refine ⟨fun _ => ?_, fun _ => ?_⟩) | (refine ⟨by omega, ?_⟩) | (intro _)
       all_goals (refine hK _ ?_; clear hK K)
       all_goals
        refine zbo (zb4 ?_)
        simp (disch := omega) [zbi, gE, tP, DtCSnap.cells, zci, mkCSnap]
        all_goals first | omega | ((have e : i = us.length := by omega); subst e; rw [List.take_of_length_le (by omega)])
     try simp at hc3
     refine zbn ?_
     refine zbq ?_
     refine AW_r rfl rfl fun K hK => ?_
     simp (disch := omega) [zbi, gE, tP, DtCSnap.cells, zci, mkCSnap]
     repeat' first | (exfalso; omega) | (refine ⟨fun _ => ?_, fun _ => ?_⟩) | (refine ⟨by omega, ?_⟩) | (intro _)
     all_goals (refine hK _ ?_; clear hK K)
     all_goals
      refine zbm ?_
      refine AW_q rfl mix (by kernel_rfl) rfl fun K hK => ?_
      simp (disch := omega) [zbi, gE, tP, DtCSnap.cells, zci, mkCSnap]
      repeat' first | (exfalso; omega) | (refine zcx (zbh zcp zbs) (zdk _ (by omega)) rfl ?_; simp (disch := omega) [zbi, gE, tP, DtCSnap.cells, zci, mkCSnap]) | (refine ⟨by omega, ?_⟩) | (intro _)
      refine hK _ ?_; clear hK K
      refine zbl rfl (fun hc4 => ?_) (fun hc4 => ?_)
      ·try simp at hc4
       all_goals
        refine AW_r rfl rfl fun K hK => ?_
        simp (disch := omega) [zbi, gE, tP, DtCSnap.cells, zci, mkCSnap]
        repeat' first | (exfalso; omega) | (refine ⟨fun _ => ?_, fun _ => ?_⟩) | (refine ⟨by omega, ?_⟩) | (intro _)
        all_goals (refine hK _ ?_; clear hK K)
        all_goals
         refine zbo (zb4 ?_)
         simp (disch := omega) [zbi, gE, tP, DtCSnap.cells, zci, mkCSnap]
         all_goals first | omega | ((have e : i = us.length := by omega); subst e; rw [List.take_of_length_le (by omega)])
      try simp at hc4
      refine zbn ?_
      refine zbq ?_
      refine AW_r rfl rfl fun K hK => ?_
      simp (disch := omega) [zbi, gE, tP, DtCSnap.cells, zci, mkCSnap]
      repeat' first | (exfalso; omega) | (refine ⟨fun _ => ?_, fun _ => ?_⟩) | (refine ⟨by omega, ?_⟩) | (intro _)
      all_goals (refine hK _ ?_; clear hK K)
      all_goals
       refine AW_r rfl rfl fun K hK => ?_
       simp (disch := omega) [zbi, gE, tP, DtCSnap.cells, zci, mkCSnap]
       repeat' first | (exfalso; omega) | (refine zcx (zbh zdd (zbh zcp zbs)) (zs1 us[i].fChunks.length _ (by omega) (by omega)) rfl ?_; simp (disch := omega) [zbi, gE, tP, DtCSnap.cells, zci, mkCSnap]) | (refine ⟨by omega, ?_⟩) | (intro _)
       refine hK _ ?_; clear hK K
       refine AW_r rfl rfl fun K hK => ?_
       simp (disch := omega) [zbi, gE, tP, DtCSnap.cells, zci, mkCSnap]
       repeat' first | (refine ⟨by omega, ?_⟩) | (intro _)
       refine hK _ ?_; clear hK K
       refine zbl rfl (fun hc5 => ?_) (fun hc5 => ?_)
       ·try simp at hc5
        all_goals
         refine AW_r rfl rfl fun K hK => ?_
         simp (disch := omega) [zbi, gE, tP, DtCSnap.cells, zci, mkCSnap]
         repeat' first | (exfalso; omega) | (refine ⟨fun _ => ?_, fun _ => ?_⟩) | (refine ⟨by omega, ?_⟩) | (intro _)
         all_goals (refine hK _ ?_; clear hK K)
         all_goals
          refine zbo (zb4 ?_)
          simp (disch := omega) [zbi, gE, tP, DtCSnap.cells, zci, mkCSnap]
          all_goals first | omega | ((have e : i = us.length := by omega); subst e; rw [List.take_of_length_le (by omega)])
       try simp at hc5
       refine zbn ?_
       refine zbq ?_
       refine zc6 rfl rfl fun K hK => ?_
       simp (disch := omega) [zbi, gE, tP, DtCSnap.cells, zci, mkCSnap]
       repeat' first | (exfalso; omega) | (refine ⟨fun _ => ?_, fun _ => ?_⟩) | (refine ⟨by omega, ?_⟩) | (intro _)
       all_goals (refine hK _ ?_; clear hK K)
       all_goals
        refine ⟨_, LeS.kp [(0, .sl 3 ((mkS mkCSnap cntCSnap k us).map DtCSnap.cells)), (1, (.g (.int .i64 (k + cntS cntCSnap (us.take (i + 1)))))), (5, (.g (.int .i64 (((i + 1) : Nat)))))] (by simp [KpE, zbe, zbv, zbc, zcw]; try (first | rfl | (omega; done))), _, ?_, i + 1, rfl, ?_, rfl⟩
        ·omega
        ·omega
  try simp at hc2
  refine zb7 ?_
  refine zbq ?_
  refine AW_r rfl rfl fun K hK => ?_
  simp (disch := omega) [zbi, gE, tP, DtCSnap.cells, zci, mkCSnap]
  repeat' first | (exfalso; omega) | (refine ⟨fun _ => ?_, fun _ => ?_⟩) | (refine ⟨by omega, ?_⟩) | (intro _)
  all_goals (refine hK _ ?_; clear hK K)
  all_goals
   refine zbo (zb4 ?_)
   simp (disch := omega) [zbi, gE, tP, DtCSnap.cells, zci, mkCSnap]
   all_goals first | omega | ((have e : i = us.length := by omega); subst e; rw [List.take_of_length_le (by omega)])
theorem toCSnapX (u : DtCSnap) (hs : DtCSnap.sz u ≤ 2097152) : XCall Tryz.prog 107 [.agg (DtCSnap.cells u)] [] (.agg [.s u.fName, .s u.fTag, .arr 16 0 u.fChunks.length]) [] [.own 1 (u.fChunks.map cS)] := by
 simp only [DtCSnap.sz] at hs
 have hz1 := zc0 zce u.fChunks
 refine zbx Tryz.func107 (by rfl) (by rfl) (by rw [Tryz.ntmps107]; exact Nat.le_of_ble_eq_true rfl) rfl (by simp) rfl rfl ?_
 rw [Tryz.ntmps107]
 refine zf1   ?_
 refine AW_k [(0, _)] ⟨rfl, trivial⟩ ?_
 refine AW_x rfl rfl fun K hK => ?_
 simp (disch := omega) [zbi, gE, tP, DtCSnap.cells]
 repeat' first | (refine ⟨by omega, ?_⟩) | (intro _)
 refine hK _ ?_; clear hK K
 refine AW_x rfl rfl fun K hK => ?_
 simp (disch := omega) [zbi, gE, tP, DtCSnap.cells]
 repeat' first | (refine ⟨by omega, ?_⟩) | (intro _)
 refine hK _ ?_; clear hK K
 refine AW_x rfl rfl fun K hK => ?_
 simp (disch := omega) [zbi, gE, tP, DtCSnap.cells]
 repeat' first | (refine ⟨by omega, ?_⟩) | (intro _)
 refine hK _ ?_; clear hK K
 refine AW_x rfl rfl fun K hK => ?_
 simp (disch := omega) [zbi, gE, tP, DtCSnap.cells]
 repeat' first | (refine ⟨by omega, ?_⟩) | (intro _)
 refine hK _ ?_; clear hK K
 refine AW_x rfl rfl fun K hK => ?_
 simp (disch := omega) [zbi, gE, tP, DtCSnap.cells]
 repeat' first | (exfalso; omega) | (refine zdm [] true [] (znd u.fChunks (by omega)) ?_ ?_ ?_; (focus (simp [List.range_succ, nmC]; done)); (focus (simp (disch := omega) [zbi, gE, tP, DtCSnap.cells, zbp]; done)); simp (disch := omega) [zbi, gE, tP, DtCSnap.cells]) | (refine ⟨by omega, ?_⟩) | (intro _)
 refine hK _ ?_; clear hK K
 refine AW_x rfl rfl fun K hK => ?_
 simp (disch := omega) [zbi, gE, tP, DtCSnap.cells]
 repeat' first | (refine ⟨by omega, ?_⟩) | (intro _)
 refine hK _ ?_; clear hK K
 refine zbo (zcc [208] [] (by simp [List.range_succ, zbc, zbj, zbe]) (by simp) ?_)
 simp (disch := omega) [zbi, gE, tP, DtCSnap.cells]
 all_goals skip
theorem toCSnapSX (us : List DtCSnap) (hs : szS DtCSnap.sz us ≤ 2097152) : XCall Tryz.prog 98 [.sl 3 (us.map DtCSnap.cells)] [] (.arr 16 0 us.length) [] [.own 3 (us.map DtCSnap.cells)] := by
 have hL : us.length ≤ 2097152 := by have := zc0 DtCSnap.sz_nonneg us; omega
 refine zbx Tryz.func98 (by rfl) (by rfl) (by rw [Tryz.ntmps98]; exact Nat.le_of_ble_eq_true rfl) rfl (by simp) rfl rfl ?_
 rw [Tryz.ntmps98]
 refine zf1   ?_
 refine AW_k [(0, _)] ⟨rfl, trivial⟩ ?_
 refine AW_x rfl rfl fun K hK => ?_
 simp (disch := omega) [zbi, gE, tP, DtCSnap.cells, zda, zby, List.range_succ]
 repeat' first | (refine ⟨by omega, ?_⟩) | (intro _)
 refine hK _ ?_; clear hK K
 refine AW_x rfl rfl fun K hK => ?_
 simp (disch := omega) [zbi, gE, tP, DtCSnap.cells, zda, zby, List.range_succ]
 repeat' first | (refine ⟨by omega, ?_⟩) | (intro _)
 refine hK _ ?_; clear hK K
 refine zbm ?_
 refine AW_x rfl rfl fun K hK => ?_
 simp (disch := omega) [zbi, gE, tP, DtCSnap.cells, zda, zby, List.range_succ]
 repeat' first | (refine ⟨by omega, ?_⟩) | (intro _)
 refine hK _ ?_; clear hK K
 refine zbt ?_
 refine zb5 (fun mM sS => ∃ (i : Nat), mM = us.length - i ∧ (i ≤ us.length) ∧ sS = { env := lkE [(0, .sl 3 (us.map DtCSnap.cells)), (3, .arr 128 0 us.length), (4, (.g (.int .i64 ((i : Nat)))))], ob := lk [(128, .own 3 (cpS [.s [], .s [], .g (.slice none 0 0)] DtCSnap.cells us i))] }) ?_ ?_
 ·refine ⟨_, LeS.kx [(128, 128)] [(0, .sl 3 (us.map DtCSnap.cells)), (3, .arr 128 0 us.length), (4, (.g (.int .i64 (((0) : Nat)))))] [(128, .own 3 (cpS [.s [], .s [], .g (.slice none 0 0)] DtCSnap.cells us (0)))] (by simp [KpR, renV2, renV, zbe, zbv, zbc, zbj, zj9, zff]; try (first | rfl | (omega; done))) (by simp [KpOX, renO, plO, cvO, renV, pl1, zbc, zbj, zbe, zj9, zff]; try (first | rfl | (rw [← zjv _ _ _ i (by omega)]; simp [DtCSnap.cells]; done))) (by rfl) (by simp) (by simp) (by rfl) (by simp [formsX, List.range_succ, zbc, zbj]), _, 0, rfl, ?_, rfl⟩
  ·simp
 ·rintro mM sS ⟨i, rfl, hi, rfl⟩
  have hln : (cpS [.s [], .s [], .g (.slice none 0 0)] DtCSnap.cells us i).length = us.length := zs3 _ _ _ _ hi
  refine zbm ?_
  refine AW_x rfl rfl fun K hK => ?_
  simp (disch := omega) [zbi, gE, tP, DtCSnap.cells, zda, zby, List.range_succ]
  repeat' first | (refine ⟨by omega, ?_⟩) | (intro _)
  refine hK _ ?_; clear hK K
  refine zbl rfl (fun hc6 => ?_) (fun hc6 => ?_)
  ·try simp at hc6
   all_goals
    have hsE : DtCSnap.sz us[i] ≤ 2097152 := by have := zcn DtCSnap.sz_nonneg us us[i] (List.getElem_mem _); simp only [szS] at hs; omega
    refine zbn ?_
    refine zbq ?_
    refine zbm ?_
    refine zbt ?_
    refine zcr rfl rfl fun K hK => ?_
    simp (disch := omega) [zbi, gE, tP, DtCSnap.cells, zda, zby, List.range_succ]
    repeat' first | (exfalso; omega) | (refine zdm [] true [] (toCSnapX us[i] (by omega)) ?_ ?_ ?_; (focus (simp [List.range_succ, nmC]; done)); (focus (simp (disch := omega) [zbi, gE, tP, DtCSnap.cells, zda, zby, List.range_succ, zbp]; done)); simp (disch := omega) [zbi, gE, tP, DtCSnap.cells, zda, zby, List.range_succ]) | (refine ⟨fun _ => ?_, fun _ => ?_⟩) | (refine ⟨by omega, ?_⟩) | (intro _)
    all_goals (refine hK _ ?_; clear hK K)
    all_goals
     refine zbq ?_
     refine zcr rfl rfl fun K hK => ?_
     simp (disch := omega) [zbi, gE, tP, DtCSnap.cells, zda, zby, List.range_succ]
     repeat' first | (refine ⟨by omega, ?_⟩) | (intro _)
     refine hK _ ?_; clear hK K
     refine ⟨_, LeS.kx [(128, 128)] [(0, .sl 3 (us.map DtCSnap.cells)), (3, .arr 128 0 us.length), (4, (.g (.int .i64 (((i + 1) : Nat)))))] [(128, .own 3 (cpS [.s [], .s [], .g (.slice none 0 0)] DtCSnap.cells us (i + 1)))] (by simp [KpR, renV2, renV, zbe, zbv, zbc, zbj, zj9, zff]; try (first | rfl | (omega; done))) (by simp [KpOX, renO, plO, cvO, renV, pl1, zbc, zbj, zbe, zj9, zff]; try (first | rfl | (rw [← zjv _ _ _ i (by omega)]; simp [DtCSnap.cells]; done))) (by rfl) (by simp) (by simp) (by rfl) (by simp [formsX, List.range_succ, zbc, zbj]), _, ?_, i + 1, rfl, ?_, rfl⟩
     ·omega
     ·omega
  try simp at hc6
  refine zb7 ?_
  refine zbq ?_
  refine AW_x rfl rfl fun K hK => ?_
  simp (disch := omega) [zbi, gE, tP, DtCSnap.cells, zda, zby, List.range_succ]
  repeat' first | (exfalso; omega) | (refine ⟨fun _ => ?_, fun _ => ?_⟩) | (refine ⟨by omega, ?_⟩) | (intro _)
  all_goals (refine hK _ ?_; clear hK K)
  all_goals
   refine zbo (zcc [128] [] (by simp [List.range_succ, zbc, zbj, zbe]) (by simp) ?_)
   simp (disch := omega) [zbi, gE, tP, DtCSnap.cells, zda, zby, List.range_succ]
   all_goals (rw [cpS_n _ _ _ _ (by omega)])
def mkCSet (k : Int) (u : DtCSet) : DtCSet := { fName := mT (k), fSnaps := mkS mkCSnap cntCSnap (k + 1) u.fSnaps }
def cntCSet (u : DtCSet) : Int := 1 + cntS cntCSnap u.fSnaps
theorem zdz (u : DtCSet) : 0 ≤ cntCSet u := by
 have := zd2 zf0 u.fSnaps
 unfold cntCSet
 omega
theorem zwu (u : DtCSet) : cntCSet u ≤ 16 * (1 + DtCSet.sz u) := by
 have := zvc zs4 u.fSnaps
 unfold cntCSet
 simp only [DtCSet.sz]
 omega
theorem markCSetS (us : List DtCSet) (k : Int) (hs : szS DtCSet.sz us ≤ 2097152) (hk : 0 ≤ k ∧ k + cntS cntCSet us ≤ 1073741824) : XCall Tryz.prog 71 [.arr 8 0 us.length, (.g (.int .i64 (k)))] [.own 2 (us.map DtCSet.cells)] (.g (.int .i64 (k + cntS cntCSet us))) [.own 2 ((mkS mkCSet cntCSet k us).map DtCSet.cells)] [] := by
 have hL : us.length ≤ 2097152 := by have := zc0 DtCSet.sz_nonneg us; omega
 refine zbx Tryz.func71 (by rfl) (by rfl) (by rw [Tryz.ntmps71]; exact Nat.le_of_ble_eq_true rfl) rfl (by simp) rfl rfl ?_
 rw [Tryz.ntmps71]
 refine zh3 (.own 2 (us.map DtCSet.cells)) (by simp [cvO] <;> assumption) ?_
 refine AW_k [(0, _), (1, _)] ⟨rfl, rfl, trivial⟩ ?_
 refine AW_x rfl rfl fun K hK => ?_
 simp (disch := omega) [zbi, gE, tP, DtCSet.cells, zch, zby]
 repeat' first | (refine ⟨by omega, ?_⟩) | (intro _)
 refine hK _ ?_; clear hK K
 refine zbm ?_
 refine AW_x rfl rfl fun K hK => ?_
 simp (disch := omega) [zbi, gE, tP, DtCSet.cells, zch, zby]
 repeat' first | (refine ⟨by omega, ?_⟩) | (intro _)
 refine hK _ ?_; clear hK K
 refine zbt ?_
 refine zb5 (fun mM sS => ∃ (i : Nat), mM = us.length - i ∧ (i ≤ us.length) ∧ sS = { env := lkE [(0, .arr 8 0 us.length), (1, (.g (.int .i64 (k + cntS cntCSet (us.take i))))), (5, (.g (.int .i64 ((i : Nat)))))], ob := lk [(8, .own 2 ((mkSR mkCSet cntCSet k us i).map DtCSet.cells))] }) ?_ ?_
 ·refine ⟨_, LeS.kx [(8, 8)] [(0, .arr 8 0 us.length), (1, (.g (.int .i64 (k + cntS cntCSet (us.take (0)))))), (5, (.g (.int .i64 (((0) : Nat)))))] [(8, .own 2 ((mkSR mkCSet cntCSet k us (0)).map DtCSet.cells))] (by simp [KpR, renV2, renV, zbe, zbv, zbc, zbj, zgo, zcw]; try (first | rfl | (omega; done))) (by simp [KpOX, renO, plO, cvO, renV, pl1, zbc, zbj, zbe, zgo, zcw]; try (first | rfl | (rw [← zg8 mkCSet cntCSet k us i (by omega), List.map_set]; refine zgf ?_; simp only [DtCSet.cells, mkCSet]; repeat' (first | rfl | (omega; done) | congr 1)))) (by rfl) (by simp) (by simp) (by rfl) (by simp [formsX, List.range_succ, zbc, zbj]), _, 0, rfl, ?_, rfl⟩
  ·simp
 ·rintro mM sS ⟨i, rfl, hi, rfl⟩
  have hln : (mkSR mkCSet cntCSet k us i).length = us.length := zpd _ _ _ _ _ hi
  refine zbm ?_
  refine AW_x rfl rfl fun K hK => ?_
  simp (disch := omega) [zbi, gE, tP, DtCSet.cells, zch, zby]
  repeat' first | (refine ⟨by omega, ?_⟩) | (intro _)
  refine hK _ ?_; clear hK K
  refine zbl rfl (fun hc7 => ?_) (fun hc7 => ?_)
  ·try simp at hc7
   all_goals
    have hcl := zju zdz us i (by omega)
    have hcu : cntCSet us[i] = 1 + cntS cntCSnap us[i].fSnaps := rfl
    have hcs := zfz cntCSet us i (by omega)
    have hcn1 := zd2 zf0 us[i].fSnaps
    have hzn2 := zc0 DtCSnap.sz_nonneg us[i].fSnaps
    have hsE : DtCSet.sz us[i] ≤ 2097152 := by have := zcn DtCSet.sz_nonneg us us[i] (List.getElem_mem _); simp only [szS] at hs; omega
    simp only [DtCSet.sz] at hsE
    refine zbn ?_
    refine zbq ?_
    refine zbm ?_
    refine zbt ?_
    refine AW_x rfl rfl fun K hK => ?_
    simp (disch := omega) [zbi, gE, tP, DtCSet.cells, zch, zby]
    repeat' first | (exfalso; omega) | (refine zdq (zbh zcp zbs) (zdk _ (by omega)) rfl ?_; simp (disch := omega) [zbi, gE, tP, DtCSet.cells, zch, zby]) | (refine zdr (zdk _ (by omega)) (by rfl) ?_ ?_; (focus (simp (disch := omega) [zbi, gE, tP, DtCSet.cells, zch, zby, zbp]; done)); simp (disch := omega) [zbi, gE, tP, DtCSet.cells, zch, zby]) | (refine ⟨fun _ => ?_, fun _ => ?_⟩) | (refine ⟨by omega, ?_⟩) | (intro _)
    all_goals (refine hK _ ?_; clear hK K)
    all_goals
     refine AW_x rfl rfl fun K hK => ?_
     simp (disch := omega) [zbi, gE, tP, DtCSet.cells, zch, zby]
     repeat' first | (refine ⟨by omega, ?_⟩) | (intro _)
     refine hK _ ?_; clear hK K
     refine zcr rfl rfl fun K hK => ?_
     simp (disch := omega) [zbi, gE, tP, DtCSet.cells, zch, zby]
     repeat' first | (exfalso; omega) | (refine XKd_n (n := 8) (i := i) (f0 := 1) (zws us[i].fSnaps _ (by omega) (by omega)) ?_ ?_ ?_ ?_ rfl ?_ rfl ?_ ?_; (focus (simp; done)); (focus rfl); (focus rfl); (focus (simp [zd7, zd8]; done)); (focus (simp; done)); (focus first | exact ⟨_, zby _ _ _ _ (by omega), rfl⟩ | exact ⟨_, by rw [List.getElem?_map, zpe _ _ _ _ _ (by omega)]; rfl, rfl⟩); simp (disch := omega) [zbi, gE, tP, DtCSet.cells, zch, zby]) | (refine ⟨by omega, ?_⟩) | (intro _)
     refine hK _ ?_; clear hK K
     refine zbq ?_
     refine zcr rfl rfl fun K hK => ?_
     simp (disch := omega) [zbi, gE, tP, DtCSet.cells, zch, zby]
     repeat' first | (refine ⟨by omega, ?_⟩) | (intro _)
     refine hK _ ?_; clear hK K
     refine ⟨_, LeS.kx [(8, 8)] [(0, .arr 8 0 us.length), (1, (.g (.int .i64 (k + cntS cntCSet (us.take (i + 1)))))), (5, (.g (.int .i64 (((i + 1) : Nat)))))] [(8, .own 2 ((mkSR mkCSet cntCSet k us (i + 1)).map DtCSet.cells))] (by simp [KpR, renV2, renV, zbe, zbv, zbc, zbj, zgo, zcw]; try (first | rfl | (omega; done))) (by simp [KpOX, renO, plO, cvO, renV, pl1, zbc, zbj, zbe, zgo, zcw]; try (first | rfl | (rw [← zg8 mkCSet cntCSet k us i (by omega), List.map_set]; refine zgf ?_; simp only [DtCSet.cells, mkCSet]; repeat' (first | rfl | (omega; done) | congr 1)))) (by rfl) (by simp) (by simp) (by rfl) (by simp [formsX, List.range_succ, zbc, zbj]), _, ?_, i + 1, rfl, ?_, rfl⟩
     ·omega
     ·omega
  try simp at hc7
  refine zb7 ?_
  refine zbq ?_
  refine AW_x rfl rfl fun K hK => ?_
  simp (disch := omega) [zbi, gE, tP, DtCSet.cells, zch, zby]
  repeat' first | (exfalso; omega) | (refine ⟨fun _ => ?_, fun _ => ?_⟩) | (refine ⟨by omega, ?_⟩) | (intro _)
  all_goals (refine hK _ ?_; clear hK K)
  all_goals
   refine zbo (zcc [] [] (by simp [List.range_succ, zbc, zbj, zbe]) (by simp) ?_)
   simp (disch := omega) [zbi, gE, tP, DtCSet.cells, zch, zby]
   all_goals ((have e : i = us.length := by omega); subst e; rw [mkSR_n _ _ _ _ _ (by omega), List.take_of_length_le (by omega)]; exact ⟨rfl, rfl⟩)
theorem heldCSetS (us : List DtCSet) (k : Int) (hs : szS DtCSet.sz us ≤ 2097152) (hk : 0 ≤ k ∧ k + cntS cntCSet us ≤ 1073741824) : PCall Tryz.prog 73 [.sl 2 ((mkS mkCSet cntCSet k us).map DtCSet.cells), (.g (.int .i64 (k)))] (.g (.int .i64 (k + cntS cntCSet us))) := by
 have hL : us.length ≤ 2097152 := by have := zc0 DtCSet.sz_nonneg us; omega
 refine zbu Tryz.func73 (by rfl) (by rfl) (by rw [Tryz.ntmps73]; exact Nat.le_of_ble_eq_true rfl) rfl (by decide) ?_
 rw [Tryz.ntmps73]
 refine AW_k [(0, _), (1, _)] ⟨rfl, rfl, trivial⟩ ?_
 refine AW_r rfl rfl fun K hK => ?_
 simp (disch := omega) [zbi, gE, tP, DtCSet.cells, zci, mkCSet]
 repeat' first | (refine ⟨by omega, ?_⟩) | (intro _)
 refine hK _ ?_; clear hK K
 refine zbm ?_
 refine AW_r rfl rfl fun K hK => ?_
 simp (disch := omega) [zbi, gE, tP, DtCSet.cells, zci, mkCSet]
 repeat' first | (refine ⟨by omega, ?_⟩) | (intro _)
 refine hK _ ?_; clear hK K
 refine zbt ?_
 refine zb5 (fun mM sS => ∃ (i : Nat), mM = us.length - i ∧ (i ≤ us.length) ∧ sS = { env := lkE [(0, .sl 2 ((mkS mkCSet cntCSet k us).map DtCSet.cells)), (1, (.g (.int .i64 (k + cntS cntCSet (us.take i))))), (5, (.g (.int .i64 ((i : Nat)))))], ob := formOb [] [] }) ?_ ?_
 ·refine ⟨_, LeS.kp [(0, .sl 2 ((mkS mkCSet cntCSet k us).map DtCSet.cells)), (1, (.g (.int .i64 (k + cntS cntCSet (us.take (0)))))), (5, (.g (.int .i64 (((0) : Nat)))))] (by simp [KpE, zbe, zbv, zbc, zcw]; try (first | rfl | (omega; done))), _, 0, rfl, ?_, rfl⟩
  ·simp
 ·rintro mM sS ⟨i, rfl, hi, rfl⟩
  have hln : (mkS mkCSet cntCSet k us).length = us.length := zd8 _ _ _ _
  refine zbm ?_
  refine AW_r rfl rfl fun K hK => ?_
  simp (disch := omega) [zbi, gE, tP, DtCSet.cells, zci, mkCSet]
  repeat' first | (refine ⟨by omega, ?_⟩) | (intro _)
  refine hK _ ?_; clear hK K
  refine zbl rfl (fun hc8 => ?_) (fun hc8 => ?_)
  ·try simp at hc8
   all_goals
    have hcl := zju zdz us i (by omega)
    have hcu : cntCSet us[i] = 1 + cntS cntCSnap us[i].fSnaps := rfl
    have hcs := zfz cntCSet us i (by omega)
    have hcn1 := zd2 zf0 us[i].fSnaps
    have hzn2 := zc0 DtCSnap.sz_nonneg us[i].fSnaps
    have hsE : DtCSet.sz us[i] ≤ 2097152 := by have := zcn DtCSet.sz_nonneg us us[i] (List.getElem_mem _); simp only [szS] at hs; omega
    simp only [DtCSet.sz] at hsE
    refine zbn ?_
    refine zbq ?_
    refine zbm ?_
    refine zbt ?_
    refine zbm ?_
    refine AW_q rfl mix (by kernel_rfl) rfl fun K hK => ?_
    simp (disch := omega) [zbi, gE, tP, DtCSet.cells, zci, mkCSet]
    repeat' first | (exfalso; omega) | (refine zcx (zbh zcp zbs) (zdk _ (by omega)) rfl ?_; simp (disch := omega) [zbi, gE, tP, DtCSet.cells, zci, mkCSet]) | (refine ⟨fun _ => ?_, fun _ => ?_⟩) | (refine ⟨by omega, ?_⟩) | (intro _)
    all_goals (refine hK _ ?_; clear hK K)
    all_goals
     refine zbl rfl (fun hc9 => ?_) (fun hc9 => ?_)
     ·try simp at hc9
      all_goals
       refine AW_r rfl rfl fun K hK => ?_
       simp (disch := omega) [zbi, gE, tP, DtCSet.cells, zci, mkCSet]
       repeat' first | (exfalso; omega) | (refine ⟨fun _ => ?_, fun _ => ?_⟩) | (refine ⟨by omega, ?_⟩) | (intro _)
       all_goals (refine hK _ ?_; clear hK K)
       all_goals
        refine zbo (zb4 ?_)
        simp (disch := omega) [zbi, gE, tP, DtCSet.cells, zci, mkCSet]
        all_goals first | omega | ((have e : i = us.length := by omega); subst e; rw [List.take_of_length_le (by omega)])
     try simp at hc9
     refine zbn ?_
     refine zbq ?_
     refine AW_r rfl rfl fun K hK => ?_
     simp (disch := omega) [zbi, gE, tP, DtCSet.cells, zci, mkCSet]
     repeat' first | (exfalso; omega) | (refine ⟨fun _ => ?_, fun _ => ?_⟩) | (refine ⟨by omega, ?_⟩) | (intro _)
     all_goals (refine hK _ ?_; clear hK K)
     all_goals
      refine AW_r rfl rfl fun K hK => ?_
      simp (disch := omega) [zbi, gE, tP, DtCSet.cells, zci, mkCSet]
      repeat' first | (exfalso; omega) | (refine zcx (zbh zdd (zbh zcp zbs)) (zwt us[i].fSnaps _ (by omega) (by omega)) rfl ?_; simp (disch := omega) [zbi, gE, tP, DtCSet.cells, zci, mkCSet]) | (refine ⟨by omega, ?_⟩) | (intro _)
      refine hK _ ?_; clear hK K
      refine AW_r rfl rfl fun K hK => ?_
      simp (disch := omega) [zbi, gE, tP, DtCSet.cells, zci, mkCSet]
      repeat' first | (refine ⟨by omega, ?_⟩) | (intro _)
      refine hK _ ?_; clear hK K
      refine zbl rfl (fun hc10 => ?_) (fun hc10 => ?_)
      ·try simp at hc10
       all_goals
        refine AW_r rfl rfl fun K hK => ?_
        simp (disch := omega) [zbi, gE, tP, DtCSet.cells, zci, mkCSet]
        repeat' first | (exfalso; omega) | (refine ⟨fun _ => ?_, fun _ => ?_⟩) | (refine ⟨by omega, ?_⟩) | (intro _)
        all_goals (refine hK _ ?_; clear hK K)
        all_goals
         refine zbo (zb4 ?_)
         simp (disch := omega) [zbi, gE, tP, DtCSet.cells, zci, mkCSet]
         all_goals first | omega | ((have e : i = us.length := by omega); subst e; rw [List.take_of_length_le (by omega)])
      try simp at hc10
      refine zbn ?_
      refine zbq ?_
      refine zc6 rfl rfl fun K hK => ?_
      simp (disch := omega) [zbi, gE, tP, DtCSet.cells, zci, mkCSet]
      repeat' first | (exfalso; omega) | (refine ⟨fun _ => ?_, fun _ => ?_⟩) | (refine ⟨by omega, ?_⟩) | (intro _)
      all_goals (refine hK _ ?_; clear hK K)
      all_goals
       refine ⟨_, LeS.kp [(0, .sl 2 ((mkS mkCSet cntCSet k us).map DtCSet.cells)), (1, (.g (.int .i64 (k + cntS cntCSet (us.take (i + 1)))))), (5, (.g (.int .i64 (((i + 1) : Nat)))))] (by simp [KpE, zbe, zbv, zbc, zcw]; try (first | rfl | (omega; done))), _, ?_, i + 1, rfl, ?_, rfl⟩
       ·omega
       ·omega
  try simp at hc8
  refine zb7 ?_
  refine zbq ?_
  refine AW_r rfl rfl fun K hK => ?_
  simp (disch := omega) [zbi, gE, tP, DtCSet.cells, zci, mkCSet]
  repeat' first | (exfalso; omega) | (refine ⟨fun _ => ?_, fun _ => ?_⟩) | (refine ⟨by omega, ?_⟩) | (intro _)
  all_goals (refine hK _ ?_; clear hK K)
  all_goals
   refine zbo (zb4 ?_)
   simp (disch := omega) [zbi, gE, tP, DtCSet.cells, zci, mkCSet]
   all_goals first | omega | ((have e : i = us.length := by omega); subst e; rw [List.take_of_length_le (by omega)])
theorem toCSetX (u : DtCSet) (hs : DtCSet.sz u ≤ 2097152) : XCall Tryz.prog 82 [.agg (DtCSet.cells u)] [] (.agg [.s u.fName, .arr 16 0 u.fSnaps.length]) [] [.own 3 (u.fSnaps.map DtCSnap.cells)] := by
 simp only [DtCSet.sz] at hs
 have hz1 := zc0 DtCSnap.sz_nonneg u.fSnaps
 refine zbx Tryz.func82 (by rfl) (by rfl) (by rw [Tryz.ntmps82]; exact Nat.le_of_ble_eq_true rfl) rfl (by simp) rfl rfl ?_
 rw [Tryz.ntmps82]
 refine zf1   ?_
 refine AW_k [(0, _)] ⟨rfl, trivial⟩ ?_
 refine AW_x rfl rfl fun K hK => ?_
 simp (disch := omega) [zbi, gE, tP, DtCSet.cells]
 repeat' first | (refine ⟨by omega, ?_⟩) | (intro _)
 refine hK _ ?_; clear hK K
 refine AW_x rfl rfl fun K hK => ?_
 simp (disch := omega) [zbi, gE, tP, DtCSet.cells]
 repeat' first | (refine ⟨by omega, ?_⟩) | (intro _)
 refine hK _ ?_; clear hK K
 refine AW_x rfl rfl fun K hK => ?_
 simp (disch := omega) [zbi, gE, tP, DtCSet.cells]
 repeat' first | (refine ⟨by omega, ?_⟩) | (intro _)
 refine hK _ ?_; clear hK K
 refine AW_x rfl rfl fun K hK => ?_
 simp (disch := omega) [zbi, gE, tP, DtCSet.cells]
 repeat' first | (exfalso; omega) | (refine zdm [] true [] (toCSnapSX u.fSnaps (by omega)) ?_ ?_ ?_; (focus (simp [List.range_succ, nmC]; done)); (focus (simp (disch := omega) [zbi, gE, tP, DtCSet.cells, zbp]; done)); simp (disch := omega) [zbi, gE, tP, DtCSet.cells]) | (refine ⟨by omega, ?_⟩) | (intro _)
 refine hK _ ?_; clear hK K
 refine AW_x rfl rfl fun K hK => ?_
 simp (disch := omega) [zbi, gE, tP, DtCSet.cells]
 repeat' first | (refine ⟨by omega, ?_⟩) | (intro _)
 refine hK _ ?_; clear hK K
 refine zbo (zcc [160] [] (by simp [List.range_succ, zbc, zbj, zbe]) (by simp) ?_)
 simp (disch := omega) [zbi, gE, tP, DtCSet.cells]
 all_goals skip
theorem toCSetSX (us : List DtCSet) (hs : szS DtCSet.sz us ≤ 2097152) : XCall Tryz.prog 51 [.sl 2 (us.map DtCSet.cells)] [] (.arr 16 0 us.length) [] [.own 2 (us.map DtCSet.cells)] := by
 have hL : us.length ≤ 2097152 := by have := zc0 DtCSet.sz_nonneg us; omega
 refine zbx Tryz.func51 (by rfl) (by rfl) (by rw [Tryz.ntmps51]; exact Nat.le_of_ble_eq_true rfl) rfl (by simp) rfl rfl ?_
 rw [Tryz.ntmps51]
 refine zf1   ?_
 refine AW_k [(0, _)] ⟨rfl, trivial⟩ ?_
 refine AW_x rfl rfl fun K hK => ?_
 simp (disch := omega) [zbi, gE, tP, DtCSet.cells, zda, zby, List.range_succ]
 repeat' first | (refine ⟨by omega, ?_⟩) | (intro _)
 refine hK _ ?_; clear hK K
 refine AW_x rfl rfl fun K hK => ?_
 simp (disch := omega) [zbi, gE, tP, DtCSet.cells, zda, zby, List.range_succ]
 repeat' first | (refine ⟨by omega, ?_⟩) | (intro _)
 refine hK _ ?_; clear hK K
 refine zbm ?_
 refine AW_x rfl rfl fun K hK => ?_
 simp (disch := omega) [zbi, gE, tP, DtCSet.cells, zda, zby, List.range_succ]
 repeat' first | (refine ⟨by omega, ?_⟩) | (intro _)
 refine hK _ ?_; clear hK K
 refine zbt ?_
 refine zb5 (fun mM sS => ∃ (i : Nat), mM = us.length - i ∧ (i ≤ us.length) ∧ sS = { env := lkE [(0, .sl 2 (us.map DtCSet.cells)), (3, .arr 128 0 us.length), (4, (.g (.int .i64 ((i : Nat)))))], ob := lk [(128, .own 2 (cpS [.s [], .g (.slice none 0 0)] DtCSet.cells us i))] }) ?_ ?_
 ·refine ⟨_, LeS.kx [(128, 128)] [(0, .sl 2 (us.map DtCSet.cells)), (3, .arr 128 0 us.length), (4, (.g (.int .i64 (((0) : Nat)))))] [(128, .own 2 (cpS [.s [], .g (.slice none 0 0)] DtCSet.cells us (0)))] (by simp [KpR, renV2, renV, zbe, zbv, zbc, zbj, zj9, zff]; try (first | rfl | (omega; done))) (by simp [KpOX, renO, plO, cvO, renV, pl1, zbc, zbj, zbe, zj9, zff]; try (first | rfl | (rw [← zjv _ _ _ i (by omega)]; simp [DtCSet.cells]; done))) (by rfl) (by simp) (by simp) (by rfl) (by simp [formsX, List.range_succ, zbc, zbj]), _, 0, rfl, ?_, rfl⟩
  ·simp
 ·rintro mM sS ⟨i, rfl, hi, rfl⟩
  have hln : (cpS [.s [], .g (.slice none 0 0)] DtCSet.cells us i).length = us.length := zs3 _ _ _ _ hi
  refine zbm ?_
  refine AW_x rfl rfl fun K hK => ?_
  simp (disch := omega) [zbi, gE, tP, DtCSet.cells, zda, zby, List.range_succ]
  repeat' first | (refine ⟨by omega, ?_⟩) | (intro _)
  refine hK _ ?_; clear hK K
  refine zbl rfl (fun hc11 => ?_) (fun hc11 => ?_)
  ·try simp at hc11
   all_goals
    have hsE : DtCSet.sz us[i] ≤ 2097152 := by have := zcn DtCSet.sz_nonneg us us[i] (List.getElem_mem _); simp only [szS] at hs; omega
    refine zbn ?_
    refine zbq ?_
    refine zbm ?_
    refine zbt ?_
    refine zcr rfl rfl fun K hK => ?_
    simp (disch := omega) [zbi, gE, tP, DtCSet.cells, zda, zby, List.range_succ]
    repeat' first | (exfalso; omega) | (refine zdm [] true [] (toCSetX us[i] (by omega)) ?_ ?_ ?_; (focus (simp [List.range_succ, nmC]; done)); (focus (simp (disch := omega) [zbi, gE, tP, DtCSet.cells, zda, zby, List.range_succ, zbp]; done)); simp (disch := omega) [zbi, gE, tP, DtCSet.cells, zda, zby, List.range_succ]) | (refine ⟨fun _ => ?_, fun _ => ?_⟩) | (refine ⟨by omega, ?_⟩) | (intro _)
    all_goals (refine hK _ ?_; clear hK K)
    all_goals
     refine zbq ?_
     refine zcr rfl rfl fun K hK => ?_
     simp (disch := omega) [zbi, gE, tP, DtCSet.cells, zda, zby, List.range_succ]
     repeat' first | (refine ⟨by omega, ?_⟩) | (intro _)
     refine hK _ ?_; clear hK K
     refine ⟨_, LeS.kx [(128, 128)] [(0, .sl 2 (us.map DtCSet.cells)), (3, .arr 128 0 us.length), (4, (.g (.int .i64 (((i + 1) : Nat)))))] [(128, .own 2 (cpS [.s [], .g (.slice none 0 0)] DtCSet.cells us (i + 1)))] (by simp [KpR, renV2, renV, zbe, zbv, zbc, zbj, zj9, zff]; try (first | rfl | (omega; done))) (by simp [KpOX, renO, plO, cvO, renV, pl1, zbc, zbj, zbe, zj9, zff]; try (first | rfl | (rw [← zjv _ _ _ i (by omega)]; simp [DtCSet.cells]; done))) (by rfl) (by simp) (by simp) (by rfl) (by simp [formsX, List.range_succ, zbc, zbj]), _, ?_, i + 1, rfl, ?_, rfl⟩
     ·omega
     ·omega
  try simp at hc11
  refine zb7 ?_
  refine zbq ?_
  refine AW_x rfl rfl fun K hK => ?_
  simp (disch := omega) [zbi, gE, tP, DtCSet.cells, zda, zby, List.range_succ]
  repeat' first | (exfalso; omega) | (refine ⟨fun _ => ?_, fun _ => ?_⟩) | (refine ⟨by omega, ?_⟩) | (intro _)
  all_goals (refine hK _ ?_; clear hK K)
  all_goals
   refine zbo (zcc [128] [] (by simp [List.range_succ, zbc, zbj, zbe]) (by simp) ?_)
   simp (disch := omega) [zbi, gE, tP, DtCSet.cells, zda, zby, List.range_succ]
   all_goals (rw [cpS_n _ _ _ _ (by omega)])
def mkCatalog (k : Int) (u : DtCatalog) : DtCatalog := { fSets := mkS mkCSet cntCSet (k) u.fSets }
def cntCatalog (u : DtCatalog) : Int := cntS cntCSet u.fSets
theorem zwv (u : DtCatalog) (hs : DtCatalog.sz u ≤ 2097152) : XCall Tryz.prog 23 [.agg (DtCatalog.cells u)] [] (.agg [.arr 16 0 u.fSets.length]) [] [.own 2 (u.fSets.map DtCSet.cells)] := by
 simp only [DtCatalog.sz] at hs
 have hz1 := zc0 DtCSet.sz_nonneg u.fSets
 refine zbx Tryz.func23 (by rfl) (by rfl) (by rw [Tryz.ntmps23]; exact Nat.le_of_ble_eq_true rfl) rfl (by simp) rfl rfl ?_
 rw [Tryz.ntmps23]
 refine zf1   ?_
 refine AW_k [(0, _)] ⟨rfl, trivial⟩ ?_
 refine AW_x rfl rfl fun K hK => ?_
 simp (disch := omega) [zbi, gE, tP, DtCatalog.cells]
 repeat' first | (refine ⟨by omega, ?_⟩) | (intro _)
 refine hK _ ?_; clear hK K
 refine AW_x rfl rfl fun K hK => ?_
 simp (disch := omega) [zbi, gE, tP, DtCatalog.cells]
 repeat' first | (refine ⟨by omega, ?_⟩) | (intro _)
 refine hK _ ?_; clear hK K
 refine AW_x rfl rfl fun K hK => ?_
 simp (disch := omega) [zbi, gE, tP, DtCatalog.cells]
 repeat' first | (exfalso; omega) | (refine zdm [] true [] (toCSetSX u.fSets (by omega)) ?_ ?_ ?_; (focus (simp [List.range_succ, nmC]; done)); (focus (simp (disch := omega) [zbi, gE, tP, DtCatalog.cells, zbp]; done)); simp (disch := omega) [zbi, gE, tP, DtCatalog.cells]) | (refine ⟨by omega, ?_⟩) | (intro _)
 refine hK _ ?_; clear hK K
 refine AW_x rfl rfl fun K hK => ?_
 simp (disch := omega) [zbi, gE, tP, DtCatalog.cells]
 repeat' first | (refine ⟨by omega, ?_⟩) | (intro _)
 refine hK _ ?_; clear hK K
 refine zbo (zcc [112] [] (by simp [List.range_succ, zbc, zbj, zbe]) (by simp) ?_)
 simp (disch := omega) [zbi, gE, tP, DtCatalog.cells]
 all_goals skip
def mvCatalog (k : Int) (u : DtCatalog) : DtCatalog := { fSets := mkS mkCSet cntCSet (k) u.fSets }
def cvCatalog (u : DtCatalog) : Int := cntS cntCSet u.fSets
theorem zj2 (u : DtCatalog) : 0 ≤ cvCatalog u := by
 have := zd2 zdz u.fSets
 unfold cvCatalog
 omega
theorem zs5 (u : DtCatalog) (k : Int) (hs : DtCatalog.sz u ≤ 2097152) (hk : 0 ≤ k ∧ k + cvCatalog u ≤ 1073741824) : XCall Tryz.prog 36 [.agg [.arr 8 0 u.fSets.length], (.g (.int .i64 (k)))] [.own 2 (u.fSets.map DtCSet.cells)] (.g (.int .i64 (k + cvCatalog u))) [.own 2 ((mkS mkCSet cntCSet (k) u.fSets).map DtCSet.cells)] [] := by
 simp only [DtCatalog.sz] at hs
 have hz1 := zc0 DtCSet.sz_nonneg u.fSets
 have hy1 := zd2 zdz u.fSets
 simp only [cvCatalog] at hk
 simp only [cvCatalog]
 refine zbx Tryz.func36 (by rfl) (by rfl) (by rw [Tryz.ntmps36]; exact Nat.le_of_ble_eq_true rfl) rfl (by simp) rfl rfl ?_
 rw [Tryz.ntmps36]
 refine zh3 (.own 2 (u.fSets.map DtCSet.cells)) (by simp [cvO] <;> assumption) ?_
 refine AW_k [(0, _), (1, _)] ⟨rfl, rfl, trivial⟩ ?_
 refine AW_x rfl rfl fun K hK => ?_
 simp (disch := omega) [zbi, gE, tP, DtCatalog.cells]
 repeat' first | (refine ⟨by omega, ?_⟩) | (intro _)
 refine hK _ ?_; clear hK K
 refine AW_x rfl rfl fun K hK => ?_
 simp (disch := omega) [zbi, gE, tP, DtCatalog.cells]
 repeat' first | (exfalso; omega) | (refine zdm [8] true [] (markCSetS u.fSets (k) (by omega) (by omega)) ?_ ?_ ?_; (focus (simp [List.range_succ, nmC]; done)); (focus (simp (disch := omega) [zbi, gE, tP, DtCatalog.cells, zbp]; done)); simp (disch := omega) [zbi, gE, tP, DtCatalog.cells]) | (refine ⟨by omega, ?_⟩) | (intro _)
 refine hK _ ?_; clear hK K
 refine AW_x rfl rfl fun K hK => ?_
 simp (disch := omega) [zbi, gE, tP, DtCatalog.cells]
 repeat' first | (refine ⟨by omega, ?_⟩) | (intro _)
 refine hK _ ?_; clear hK K
 refine zbo (zcc [] [] (by simp [List.range_succ, zbc, zbj, zbe]) (by simp) ?_)
 simp (disch := omega) [zbi, gE, tP, DtCatalog.cells]
 all_goals (first | omega | exact ⟨by omega, rfl⟩ | exact ⟨by omega, rfl, rfl⟩ | skip)
theorem zs6 (u : DtCatalog) (k : Int) (hs : DtCatalog.sz u ≤ 2097152) (hk : 0 ≤ k ∧ k + cvCatalog u ≤ 1073741824) : PCall Tryz.prog 39 [.agg (DtCatalog.cells (mvCatalog k u)), (.g (.int .i64 (k)))] (.g (.int .i64 (k + cvCatalog u))) := by
 simp only [DtCatalog.sz] at hs
 have hz1 := zc0 DtCSet.sz_nonneg u.fSets
 have hy1 := zd2 zdz u.fSets
 simp only [cvCatalog] at hk
 simp only [cvCatalog]
 refine zbu Tryz.func39 (by rfl) (by rfl) (by rw [Tryz.ntmps39]; exact Nat.le_of_ble_eq_true rfl) rfl (by decide) ?_
 rw [Tryz.ntmps39]
 refine AW_k [(0, _), (1, _)] ⟨rfl, rfl, trivial⟩ ?_
 refine AW_r rfl rfl fun K hK => ?_
 simp (disch := omega) [zbi, gE, tP, DtCatalog.cells, mvCatalog]
 repeat' first | (refine ⟨by omega, ?_⟩) | (intro _)
 refine hK _ ?_; clear hK K
 refine AW_r rfl rfl fun K hK => ?_
 simp (disch := omega) [zbi, gE, tP, DtCatalog.cells, mvCatalog]
 repeat' first | (exfalso; omega) | (refine zcx (zbh zdd (zbh zcp zbs)) (heldCSetS u.fSets (k) (by omega) (by omega)) rfl ?_; simp (disch := omega) [zbi, gE, tP, DtCatalog.cells, mvCatalog]) | (refine ⟨by omega, ?_⟩) | (intro _)
 refine hK _ ?_; clear hK K
 refine zbm ?_
 refine AW_r rfl rfl fun K hK => ?_
 simp (disch := omega) [zbi, gE, tP, DtCatalog.cells, mvCatalog]
 repeat' first | (refine ⟨by omega, ?_⟩) | (intro _)
 refine hK _ ?_; clear hK K
 refine zbl rfl (fun hc12 => ?_) (fun hc12 => ?_)
 ·try simp at hc12
  all_goals
   refine AW_r rfl rfl fun K hK => ?_
   simp (disch := omega) [zbi, gE, tP, DtCatalog.cells, mvCatalog]
   repeat' first | (exfalso; omega) | (refine ⟨fun _ => ?_, fun _ => ?_⟩) | (refine ⟨by omega, ?_⟩) | (intro _)
   all_goals (refine hK _ ?_; clear hK K)
   all_goals
    refine zbo (zb4 ?_)
    simp (disch := omega) [zbi, gE, tP, DtCatalog.cells, mvCatalog]
    all_goals (first | omega | skip)
 try simp at hc12
 refine zbn ?_
 refine zbq ?_
 refine AW_r rfl rfl fun K hK => ?_
 simp (disch := omega) [zbi, gE, tP, DtCatalog.cells, mvCatalog]
 repeat' first | (exfalso; omega) | (refine ⟨fun _ => ?_, fun _ => ?_⟩) | (refine ⟨by omega, ?_⟩) | (intro _)
 all_goals (refine hK _ ?_; clear hK K)
 all_goals
  refine zbo (zb4 ?_)
  simp (disch := omega) [zbi, gE, tP, DtCatalog.cells, mvCatalog]
  all_goals (first | omega | skip)
def mkSaid (k : Int) (u : DtSaid) : DtSaid := { fClient := k, fNo := k + 1, fText := mT (k + 1 + 1) }
def cntSaid (u : DtSaid) : Int := 1 + 1 + 1
theorem zgg (u : DtSaid) : 0 ≤ cntSaid u := by
 unfold cntSaid
 omega
theorem zww (u : DtSaid) : cntSaid u ≤ 16 * (1 + DtSaid.sz u) := by
 unfold cntSaid
 simp only [DtSaid.sz]
 omega
theorem markSaidS (us : List DtSaid) (k : Int) (hs : szS DtSaid.sz us ≤ 2097152) (hk : 0 ≤ k ∧ k + cntS cntSaid us ≤ 1073741824) : XCall Tryz.prog 37 [.arr 8 0 us.length, (.g (.int .i64 (k)))] [.own 3 (us.map DtSaid.cells)] (.g (.int .i64 (k + cntS cntSaid us))) [.own 3 ((mkS mkSaid cntSaid k us).map DtSaid.cells)] [] := by
 have hL : us.length ≤ 2097152 := by have := zc0 DtSaid.sz_nonneg us; omega
 refine zbx Tryz.func37 (by rfl) (by rfl) (by rw [Tryz.ntmps37]; exact Nat.le_of_ble_eq_true rfl) rfl (by simp) rfl rfl ?_
 rw [Tryz.ntmps37]
 refine zh3 (.own 3 (us.map DtSaid.cells)) (by simp [cvO] <;> assumption) ?_
 refine AW_k [(0, _), (1, _)] ⟨rfl, rfl, trivial⟩ ?_
 refine AW_x rfl rfl fun K hK => ?_
 simp (disch := omega) [zbi, gE, tP, DtSaid.cells, zch, zby]
 repeat' first | (refine ⟨by omega, ?_⟩) | (intro _)
 refine hK _ ?_; clear hK K
 refine zbm ?_
 refine AW_x rfl rfl fun K hK => ?_
 simp (disch := omega) [zbi, gE, tP, DtSaid.cells, zch, zby]
 repeat' first | (refine ⟨by omega, ?_⟩) | (intro _)
 refine hK _ ?_; clear hK K
 refine zbt ?_
 refine zb5 (fun mM sS => ∃ (i : Nat), mM = us.length - i ∧ (i ≤ us.length) ∧ sS = { env := lkE [(0, .arr 8 0 us.length), (1, (.g (.int .i64 (k + cntS cntSaid (us.take i))))), (5, (.g (.int .i64 ((i : Nat)))))], ob := lk [(8, .own 3 ((mkSR mkSaid cntSaid k us i).map DtSaid.cells))] }) ?_ ?_
 ·refine ⟨_, LeS.kx [(8, 8)] [(0, .arr 8 0 us.length), (1, (.g (.int .i64 (k + cntS cntSaid (us.take (0)))))), (5, (.g (.int .i64 (((0) : Nat)))))] [(8, .own 3 ((mkSR mkSaid cntSaid k us (0)).map DtSaid.cells))] (by simp [KpR, renV2, renV, zbe, zbv, zbc, zbj, zgo, zcw]; try (first | rfl | (omega; done))) (by simp [KpOX, renO, plO, cvO, renV, pl1, zbc, zbj, zbe, zgo, zcw]; try (first | rfl | (rw [← zg8 mkSaid cntSaid k us i (by omega), List.map_set]; refine zgf ?_; simp only [DtSaid.cells, mkSaid]; repeat' (first | rfl | (omega; done) | congr 1)))) (by rfl) (by simp) (by simp) (by rfl) (by simp [formsX, List.range_succ, zbc, zbj]), _, 0, rfl, ?_, rfl⟩
  ·simp
 ·rintro mM sS ⟨i, rfl, hi, rfl⟩
  have hln : (mkSR mkSaid cntSaid k us i).length = us.length := zpd _ _ _ _ _ hi
  refine zbm ?_
  refine AW_x rfl rfl fun K hK => ?_
  simp (disch := omega) [zbi, gE, tP, DtSaid.cells, zch, zby]
  repeat' first | (refine ⟨by omega, ?_⟩) | (intro _)
  refine hK _ ?_; clear hK K
  refine zbl rfl (fun hc13 => ?_) (fun hc13 => ?_)
  ·try simp at hc13
   all_goals
    have hcl := zju zgg us i (by omega)
    have hcu : cntSaid us[i] = 1 + 1 + 1 := rfl
    have hcs := zfz cntSaid us i (by omega)
    have hsE : DtSaid.sz us[i] ≤ 2097152 := by have := zcn DtSaid.sz_nonneg us us[i] (List.getElem_mem _); simp only [szS] at hs; omega
    simp only [DtSaid.sz] at hsE
    refine zbn ?_
    refine zbq ?_
    refine zbm ?_
    refine zbt ?_
    refine AW_x rfl rfl fun K hK => ?_
    simp (disch := omega) [zbi, gE, tP, DtSaid.cells, zch, zby]
    repeat' first | (exfalso; omega) | (refine ⟨fun _ => ?_, fun _ => ?_⟩) | (refine ⟨by omega, ?_⟩) | (intro _)
    all_goals (refine hK _ ?_; clear hK K)
    all_goals
     refine AW_x rfl rfl fun K hK => ?_
     simp (disch := omega) [zbi, gE, tP, DtSaid.cells, zch, zby]
     repeat' first | (refine ⟨by omega, ?_⟩) | (intro _)
     refine hK _ ?_; clear hK K
     refine AW_x rfl rfl fun K hK => ?_
     simp (disch := omega) [zbi, gE, tP, DtSaid.cells, zch, zby]
     repeat' first | (refine ⟨by omega, ?_⟩) | (intro _)
     refine hK _ ?_; clear hK K
     refine AW_x rfl rfl fun K hK => ?_
     simp (disch := omega) [zbi, gE, tP, DtSaid.cells, zch, zby]
     repeat' first | (refine ⟨by omega, ?_⟩) | (intro _)
     refine hK _ ?_; clear hK K
     refine AW_x rfl rfl fun K hK => ?_
     simp (disch := omega) [zbi, gE, tP, DtSaid.cells, zch, zby]
     repeat' first | (exfalso; omega) | (refine zdq (zbh zcp zbs) (zdk _ (by omega)) rfl ?_; simp (disch := omega) [zbi, gE, tP, DtSaid.cells, zch, zby]) | (refine zdr (zdk _ (by omega)) (by rfl) ?_ ?_; (focus (simp (disch := omega) [zbi, gE, tP, DtSaid.cells, zch, zby, zbp]; done)); simp (disch := omega) [zbi, gE, tP, DtSaid.cells, zch, zby]) | (refine ⟨by omega, ?_⟩) | (intro _)
     refine hK _ ?_; clear hK K
     refine zcr rfl rfl fun K hK => ?_
     simp (disch := omega) [zbi, gE, tP, DtSaid.cells, zch, zby]
     repeat' first | (refine ⟨by omega, ?_⟩) | (intro _)
     refine hK _ ?_; clear hK K
     refine zbq ?_
     refine zcr rfl rfl fun K hK => ?_
     simp (disch := omega) [zbi, gE, tP, DtSaid.cells, zch, zby]
     repeat' first | (refine ⟨by omega, ?_⟩) | (intro _)
     refine hK _ ?_; clear hK K
     refine ⟨_, LeS.kx [(8, 8)] [(0, .arr 8 0 us.length), (1, (.g (.int .i64 (k + cntS cntSaid (us.take (i + 1)))))), (5, (.g (.int .i64 (((i + 1) : Nat)))))] [(8, .own 3 ((mkSR mkSaid cntSaid k us (i + 1)).map DtSaid.cells))] (by simp [KpR, renV2, renV, zbe, zbv, zbc, zbj, zgo, zcw]; try (first | rfl | (omega; done))) (by simp [KpOX, renO, plO, cvO, renV, pl1, zbc, zbj, zbe, zgo, zcw]; try (first | rfl | (rw [← zg8 mkSaid cntSaid k us i (by omega), List.map_set]; refine zgf ?_; simp only [DtSaid.cells, mkSaid]; repeat' (first | rfl | (omega; done) | congr 1)))) (by rfl) (by simp) (by simp) (by rfl) (by simp [formsX, List.range_succ, zbc, zbj]), _, ?_, i + 1, rfl, ?_, rfl⟩
     ·omega
     ·omega
  try simp at hc13
  refine zb7 ?_
  refine zbq ?_
  refine AW_x rfl rfl fun K hK => ?_
  simp (disch := omega) [zbi, gE, tP, DtSaid.cells, zch, zby]
  repeat' first | (exfalso; omega) | (refine ⟨fun _ => ?_, fun _ => ?_⟩) | (refine ⟨by omega, ?_⟩) | (intro _)
  all_goals (refine hK _ ?_; clear hK K)
  all_goals
   refine zbo (zcc [] [] (by simp [List.range_succ, zbc, zbj, zbe]) (by simp) ?_)
   simp (disch := omega) [zbi, gE, tP, DtSaid.cells, zch, zby]
   all_goals ((have e : i = us.length := by omega); subst e; rw [mkSR_n _ _ _ _ _ (by omega), List.take_of_length_le (by omega)]; exact ⟨rfl, rfl⟩)
theorem heldSaidS (us : List DtSaid) (k : Int) (hs : szS DtSaid.sz us ≤ 2097152) (hk : 0 ≤ k ∧ k + cntS cntSaid us ≤ 1073741824) : PCall Tryz.prog 40 [.sl 3 ((mkS mkSaid cntSaid k us).map DtSaid.cells), (.g (.int .i64 (k)))] (.g (.int .i64 (k + cntS cntSaid us))) := by
 have hL : us.length ≤ 2097152 := by have := zc0 DtSaid.sz_nonneg us; omega
 refine zbu Tryz.func40 (by rfl) (by rfl) (by rw [Tryz.ntmps40]; exact Nat.le_of_ble_eq_true rfl) rfl (by decide) ?_
 rw [Tryz.ntmps40]
 refine AW_k [(0, _), (1, _)] ⟨rfl, rfl, trivial⟩ ?_
 refine AW_r rfl rfl fun K hK => ?_
 simp (disch := omega) [zbi, gE, tP, DtSaid.cells, zci, mkSaid]
 repeat' first | (refine ⟨by omega, ?_⟩) | (intro _)
 refine hK _ ?_; clear hK K
 refine zbm ?_
 refine AW_r rfl rfl fun K hK => ?_
 simp (disch := omega) [zbi, gE, tP, DtSaid.cells, zci, mkSaid]
 repeat' first | (refine ⟨by omega, ?_⟩) | (intro _)
 refine hK _ ?_; clear hK K
 refine zbt ?_
 refine zb5 (fun mM sS => ∃ (i : Nat), mM = us.length - i ∧ (i ≤ us.length) ∧ sS = { env := lkE [(0, .sl 3 ((mkS mkSaid cntSaid k us).map DtSaid.cells)), (1, (.g (.int .i64 (k + cntS cntSaid (us.take i))))), (5, (.g (.int .i64 ((i : Nat)))))], ob := formOb [] [] }) ?_ ?_
 ·refine ⟨_, LeS.kp [(0, .sl 3 ((mkS mkSaid cntSaid k us).map DtSaid.cells)), (1, (.g (.int .i64 (k + cntS cntSaid (us.take (0)))))), (5, (.g (.int .i64 (((0) : Nat)))))] (by simp [KpE, zbe, zbv, zbc, zcw]; try (first | rfl | (omega; done))), _, 0, rfl, ?_, rfl⟩
  ·simp
 ·rintro mM sS ⟨i, rfl, hi, rfl⟩
  have hln : (mkS mkSaid cntSaid k us).length = us.length := zd8 _ _ _ _
  refine zbm ?_
  refine AW_r rfl rfl fun K hK => ?_
  simp (disch := omega) [zbi, gE, tP, DtSaid.cells, zci, mkSaid]
  repeat' first | (refine ⟨by omega, ?_⟩) | (intro _)
  refine hK _ ?_; clear hK K
  refine zbl rfl (fun hc14 => ?_) (fun hc14 => ?_)
  ·try simp at hc14
   all_goals
    have hcl := zju zgg us i (by omega)
    have hcu : cntSaid us[i] = 1 + 1 + 1 := rfl
    have hcs := zfz cntSaid us i (by omega)
    have hsE : DtSaid.sz us[i] ≤ 2097152 := by have := zcn DtSaid.sz_nonneg us us[i] (List.getElem_mem _); simp only [szS] at hs; omega
    simp only [DtSaid.sz] at hsE
    refine zbn ?_
    refine zbq ?_
    refine zbm ?_
    refine zbt ?_
    refine zbm ?_
    refine AW_r rfl rfl fun K hK => ?_
    simp (disch := omega) [zbi, gE, tP, DtSaid.cells, zci, mkSaid]
    repeat' first | (exfalso; omega) | (refine ⟨fun _ => ?_, fun _ => ?_⟩) | (refine ⟨by omega, ?_⟩) | (intro _)
    all_goals (refine hK _ ?_; clear hK K)
    all_goals
     refine zbl rfl (fun hc15 => ?_) (fun hc15 => ?_)
     ·try simp at hc15
      all_goals
       refine AW_r rfl rfl fun K hK => ?_
       simp (disch := omega) [zbi, gE, tP, DtSaid.cells, zci, mkSaid]
       repeat' first | (exfalso; omega) | (refine ⟨fun _ => ?_, fun _ => ?_⟩) | (refine ⟨by omega, ?_⟩) | (intro _)
       all_goals (refine hK _ ?_; clear hK K)
       all_goals
        refine zbo (zb4 ?_)
        simp (disch := omega) [zbi, gE, tP, DtSaid.cells, zci, mkSaid]
        all_goals first | omega | ((have e : i = us.length := by omega); subst e; rw [List.take_of_length_le (by omega)])
     try simp at hc15
     refine zbn ?_
     refine zbq ?_
     refine AW_r rfl rfl fun K hK => ?_
     simp (disch := omega) [zbi, gE, tP, DtSaid.cells, zci, mkSaid]
     repeat' first | (exfalso; omega) | (refine ⟨fun _ => ?_, fun _ => ?_⟩) | (refine ⟨by omega, ?_⟩) | (intro _)
     all_goals (refine hK _ ?_; clear hK K)
     all_goals
      refine zbm ?_
      refine AW_r rfl rfl fun K hK => ?_
      simp (disch := omega) [zbi, gE, tP, DtSaid.cells, zci, mkSaid]
      repeat' first | (refine ⟨by omega, ?_⟩) | (intro _)
      refine hK _ ?_; clear hK K
      refine zbl rfl (fun hc16 => ?_) (fun hc16 => ?_)
      ·try simp at hc16
       all_goals
        refine AW_r rfl rfl fun K hK => ?_
        simp (disch := omega) [zbi, gE, tP, DtSaid.cells, zci, mkSaid]
        repeat' first | (exfalso; omega) | (refine ⟨fun _ => ?_, fun _ => ?_⟩) | (refine ⟨by omega, ?_⟩) | (intro _)
        all_goals (refine hK _ ?_; clear hK K)
        all_goals
         refine zbo (zb4 ?_)
         simp (disch := omega) [zbi, gE, tP, DtSaid.cells, zci, mkSaid]
         all_goals first | omega | ((have e : i = us.length := by omega); subst e; rw [List.take_of_length_le (by omega)])
      try simp at hc16
      refine zbn ?_
      refine zbq ?_
      refine AW_r rfl rfl fun K hK => ?_
      simp (disch := omega) [zbi, gE, tP, DtSaid.cells, zci, mkSaid]
      repeat' first | (exfalso; omega) | (refine ⟨fun _ => ?_, fun _ => ?_⟩) | (refine ⟨by omega, ?_⟩) | (intro _)
      all_goals (refine hK _ ?_; clear hK K)
      all_goals
       refine zbm ?_
       refine AW_q rfl mix (by kernel_rfl) rfl fun K hK => ?_
       simp (disch := omega) [zbi, gE, tP, DtSaid.cells, zci, mkSaid]
       repeat' first | (exfalso; omega) | (refine zcx (zbh zcp zbs) (zdk _ (by omega)) rfl ?_; simp (disch := omega) [zbi, gE, tP, DtSaid.cells, zci, mkSaid]) | (refine ⟨by omega, ?_⟩) | (intro _)
       refine hK _ ?_; clear hK K
       refine zbl rfl (fun hc17 => ?_) (fun hc17 => ?_)
       ·try simp at hc17
        all_goals
         refine AW_r rfl rfl fun K hK => ?_
         simp (disch := omega) [zbi, gE, tP, DtSaid.cells, zci, mkSaid]
         repeat' first | (exfalso; omega) | (refine ⟨fun _ => ?_, fun _ => ?_⟩) | (refine ⟨by omega, ?_⟩) | (intro _)
         all_goals (refine hK _ ?_; clear hK K)
         all_goals
          refine zbo (zb4 ?_)
          simp (disch := omega) [zbi, gE, tP, DtSaid.cells, zci, mkSaid]
          all_goals first | omega | ((have e : i = us.length := by omega); subst e; rw [List.take_of_length_le (by omega)])
       try simp at hc17
       refine zbn ?_
       refine zbq ?_
       refine zc6 rfl rfl fun K hK => ?_
       simp (disch := omega) [zbi, gE, tP, DtSaid.cells, zci, mkSaid]
       repeat' first | (exfalso; omega) | (refine ⟨fun _ => ?_, fun _ => ?_⟩) | (refine ⟨by omega, ?_⟩) | (intro _)
       all_goals (refine hK _ ?_; clear hK K)
       all_goals
        refine zbq ?_
        refine zc6 rfl rfl fun K hK => ?_
        simp (disch := omega) [zbi, gE, tP, DtSaid.cells, zci, mkSaid]
        repeat' first | (refine ⟨by omega, ?_⟩) | (intro _)
        refine hK _ ?_; clear hK K
        refine ⟨_, LeS.kp [(0, .sl 3 ((mkS mkSaid cntSaid k us).map DtSaid.cells)), (1, (.g (.int .i64 (k + cntS cntSaid (us.take (i + 1)))))), (5, (.g (.int .i64 (((i + 1) : Nat)))))] (by simp [KpE, zbe, zbv, zbc, zcw]; try (first | rfl | (omega; done))), _, ?_, i + 1, rfl, ?_, rfl⟩
        ·omega
        ·omega
  try simp at hc14
  refine zb7 ?_
  refine zbq ?_
  refine AW_r rfl rfl fun K hK => ?_
  simp (disch := omega) [zbi, gE, tP, DtSaid.cells, zci, mkSaid]
  repeat' first | (exfalso; omega) | (refine ⟨fun _ => ?_, fun _ => ?_⟩) | (refine ⟨by omega, ?_⟩) | (intro _)
  all_goals (refine hK _ ?_; clear hK K)
  all_goals
   refine zbo (zb4 ?_)
   simp (disch := omega) [zbi, gE, tP, DtSaid.cells, zci, mkSaid]
   all_goals first | omega | ((have e : i = us.length := by omega); subst e; rw [List.take_of_length_le (by omega)])
theorem toSaidSX (us : List DtSaid) (hs : szS DtSaid.sz us ≤ 2097152) : XCall Tryz.prog 24 [.sl 3 (us.map DtSaid.cells)] [] (.arr 16 0 us.length) [] [.own 3 (us.map DtSaid.cells)] := by
 have hL : us.length ≤ 2097152 := by have := zc0 DtSaid.sz_nonneg us; omega
 refine zbx Tryz.func24 (by rfl) (by rfl) (by rw [Tryz.ntmps24]; exact Nat.le_of_ble_eq_true rfl) rfl (by simp) rfl rfl ?_
 rw [Tryz.ntmps24]
 refine zf1   ?_
 refine AW_k [(0, _)] ⟨rfl, trivial⟩ ?_
 refine AW_x rfl rfl fun K hK => ?_
 simp (disch := omega) [zbi, gE, tP, DtSaid.cells, zda, zby, List.range_succ]
 repeat' first | (refine ⟨by omega, ?_⟩) | (intro _)
 refine hK _ ?_; clear hK K
 refine AW_x rfl rfl fun K hK => ?_
 simp (disch := omega) [zbi, gE, tP, DtSaid.cells, zda, zby, List.range_succ]
 repeat' first | (refine ⟨by omega, ?_⟩) | (intro _)
 refine hK _ ?_; clear hK K
 refine zbm ?_
 refine AW_x rfl rfl fun K hK => ?_
 simp (disch := omega) [zbi, gE, tP, DtSaid.cells, zda, zby, List.range_succ]
 repeat' first | (refine ⟨by omega, ?_⟩) | (intro _)
 refine hK _ ?_; clear hK K
 refine zbt ?_
 refine zb5 (fun mM sS => ∃ (i : Nat), mM = us.length - i ∧ (i ≤ us.length) ∧ sS = { env := lkE [(0, .sl 3 (us.map DtSaid.cells)), (3, .arr 128 0 us.length), (4, (.g (.int .i64 ((i : Nat)))))], ob := lk [(128, .own 3 (cpS [.g (.int .i64 0), .g (.int .i64 0), .s []] DtSaid.cells us i))] }) ?_ ?_
 ·refine ⟨_, LeS.kx [(128, 128)] [(0, .sl 3 (us.map DtSaid.cells)), (3, .arr 128 0 us.length), (4, (.g (.int .i64 (((0) : Nat)))))] [(128, .own 3 (cpS [.g (.int .i64 0), .g (.int .i64 0), .s []] DtSaid.cells us (0)))] (by simp [KpR, renV2, renV, zbe, zbv, zbc, zbj, zj9, zff]; try (first | rfl | (omega; done))) (by simp [KpOX, renO, plO, cvO, renV, pl1, zbc, zbj, zbe, zj9, zff]; try (first | rfl | (rw [← zjv _ _ _ i (by omega)]; simp [DtSaid.cells]; done))) (by rfl) (by simp) (by simp) (by rfl) (by simp [formsX, List.range_succ, zbc, zbj]), _, 0, rfl, ?_, rfl⟩
  ·simp
 ·rintro mM sS ⟨i, rfl, hi, rfl⟩
  have hln : (cpS [.g (.int .i64 0), .g (.int .i64 0), .s []] DtSaid.cells us i).length = us.length := zs3 _ _ _ _ hi
  refine zbm ?_
  refine AW_x rfl rfl fun K hK => ?_
  simp (disch := omega) [zbi, gE, tP, DtSaid.cells, zda, zby, List.range_succ]
  repeat' first | (refine ⟨by omega, ?_⟩) | (intro _)
  refine hK _ ?_; clear hK K
  refine zbl rfl (fun hc18 => ?_) (fun hc18 => ?_)
  ·try simp at hc18
   all_goals
    have hsE : DtSaid.sz us[i] ≤ 2097152 := by have := zcn DtSaid.sz_nonneg us us[i] (List.getElem_mem _); simp only [szS] at hs; omega
    refine zbn ?_
    refine zbq ?_
    refine zbm ?_
    refine zbt ?_
    refine zcr rfl rfl fun K hK => ?_
    simp (disch := omega) [zbi, gE, tP, DtSaid.cells, zda, zby, List.range_succ]
    repeat' first | (exfalso; omega) | (refine zdq (zbh (zbz rfl) zbs) (toSaid us[i] (by omega)) rfl ?_; simp (disch := omega) [zbi, gE, tP, DtSaid.cells, zda, zby, List.range_succ]) | (refine zdr (toSaid us[i] (by omega)) (by rfl) ?_ ?_; (focus (simp (disch := omega) [zbi, gE, tP, DtSaid.cells, zda, zby, List.range_succ, zbp]; done)); simp (disch := omega) [zbi, gE, tP, DtSaid.cells, zda, zby, List.range_succ]) | (refine ⟨fun _ => ?_, fun _ => ?_⟩) | (refine ⟨by omega, ?_⟩) | (intro _)
    all_goals (refine hK _ ?_; clear hK K)
    all_goals
     refine zbq ?_
     refine zcr rfl rfl fun K hK => ?_
     simp (disch := omega) [zbi, gE, tP, DtSaid.cells, zda, zby, List.range_succ]
     repeat' first | (refine ⟨by omega, ?_⟩) | (intro _)
     refine hK _ ?_; clear hK K
     refine ⟨_, LeS.kx [(128, 128)] [(0, .sl 3 (us.map DtSaid.cells)), (3, .arr 128 0 us.length), (4, (.g (.int .i64 (((i + 1) : Nat)))))] [(128, .own 3 (cpS [.g (.int .i64 0), .g (.int .i64 0), .s []] DtSaid.cells us (i + 1)))] (by simp [KpR, renV2, renV, zbe, zbv, zbc, zbj, zj9, zff]; try (first | rfl | (omega; done))) (by simp [KpOX, renO, plO, cvO, renV, pl1, zbc, zbj, zbe, zj9, zff]; try (first | rfl | (rw [← zjv _ _ _ i (by omega)]; simp [DtSaid.cells]; done))) (by rfl) (by simp) (by simp) (by rfl) (by simp [formsX, List.range_succ, zbc, zbj]), _, ?_, i + 1, rfl, ?_, rfl⟩
     ·omega
     ·omega
  try simp at hc18
  refine zb7 ?_
  refine zbq ?_
  refine AW_x rfl rfl fun K hK => ?_
  simp (disch := omega) [zbi, gE, tP, DtSaid.cells, zda, zby, List.range_succ]
  repeat' first | (exfalso; omega) | (refine ⟨fun _ => ?_, fun _ => ?_⟩) | (refine ⟨by omega, ?_⟩) | (intro _)
  all_goals (refine hK _ ?_; clear hK K)
  all_goals
   refine zbo (zcc [128] [] (by simp [List.range_succ, zbc, zbj, zbe]) (by simp) ?_)
   simp (disch := omega) [zbi, gE, tP, DtSaid.cells, zda, zby, List.range_succ]
   all_goals (rw [cpS_n _ _ _ _ (by omega)])
def mkState (k : Int) (u : DtState) : DtState := { fCat := { fSets := mkS mkCSet cntCSet (k) u.fCat.fSets }, fSaid := mkS mkSaid cntSaid (k + cntS cntCSet u.fCat.fSets) u.fSaid }
def cntState (u : DtState) : Int := cntS cntCSet u.fCat.fSets + cntS cntSaid u.fSaid
theorem zly (u : DtState) : cntState u ≤ 16 * (1 + DtState.sz u) := by
 have := zvc zwu u.fCat.fSets
 have := zvc zww u.fSaid
 unfold cntState
 simp only [DtState.sz, DtCatalog.sz]
 omega
theorem zko (u : DtState) (hs : DtState.sz u ≤ 2097152) : XCall Tryz.prog 7 [.agg (DtState.cells u)] [] (.agg [.arr 16 0 u.fCat.fSets.length, .arr 17 0 u.fSaid.length]) [] [.own 2 (u.fCat.fSets.map DtCSet.cells), .own 3 (u.fSaid.map DtSaid.cells)] := by
 simp only [DtState.sz] at hs
 have hz1 := zc0 DtCSet.sz_nonneg u.fCat.fSets
 have hz2 := zc0 DtSaid.sz_nonneg u.fSaid
 have hz3 := DtCatalog.sz_nonneg u.fCat
 refine zbx Tryz.func7 (by rfl) (by rfl) (by rw [Tryz.ntmps7]; exact Nat.le_of_ble_eq_true rfl) rfl (by simp) rfl rfl ?_
 rw [Tryz.ntmps7]
 refine zf1   ?_
 refine AW_k [(0, _)] ⟨rfl, trivial⟩ ?_
 refine AW_x rfl rfl fun K hK => ?_
 simp (disch := omega) [zbi, gE, tP, DtState.cells, DtCatalog.cells]
 repeat' first | (refine ⟨by omega, ?_⟩) | (intro _)
 refine hK _ ?_; clear hK K
 refine AW_x rfl rfl fun K hK => ?_
 simp (disch := omega) [zbi, gE, tP, DtState.cells, DtCatalog.cells]
 repeat' first | (refine ⟨by omega, ?_⟩) | (intro _)
 refine hK _ ?_; clear hK K
 refine AW_x rfl rfl fun K hK => ?_
 simp (disch := omega) [zbi, gE, tP, DtState.cells, DtCatalog.cells]
 repeat' first | (exfalso; omega) | (refine zdm [] true [] (zwv u.fCat (by omega)) ?_ ?_ ?_; (focus (simp [List.range_succ, nmC]; done)); (focus (simp (disch := omega) [zbi, gE, tP, DtState.cells, DtCatalog.cells, zbp]; done)); simp (disch := omega) [zbi, gE, tP, DtState.cells, DtCatalog.cells]) | (refine ⟨by omega, ?_⟩) | (intro _)
 refine hK _ ?_; clear hK K
 refine AW_x rfl rfl fun K hK => ?_
 simp (disch := omega) [zbi, gE, tP, DtState.cells, DtCatalog.cells]
 repeat' first | (exfalso; omega) | (refine zdm [] true [] (toSaidSX u.fSaid (by omega)) ?_ ?_ ?_; (focus (simp [List.range_succ, nmC]; done)); (focus (simp (disch := omega) [zbi, gE, tP, DtState.cells, DtCatalog.cells, zbp]; done)); simp (disch := omega) [zbi, gE, tP, DtState.cells, DtCatalog.cells]) | (refine ⟨by omega, ?_⟩) | (intro _)
 refine hK _ ?_; clear hK K
 refine AW_x rfl rfl fun K hK => ?_
 simp (disch := omega) [zbi, gE, tP, DtState.cells, DtCatalog.cells]
 repeat' first | (refine ⟨by omega, ?_⟩) | (intro _)
 refine hK _ ?_; clear hK K
 refine zbo (zcc [112, 176] [] (by simp [List.range_succ, zbc, zbj, zbe]) (by simp) ?_)
 simp (disch := omega) [zbi, gE, tP, DtState.cells, DtCatalog.cells]
 all_goals skip
def mvState (k : Int) (u : DtState) : DtState := { fCat := { fSets := mkS mkCSet cntCSet (k) u.fCat.fSets }, fSaid := mkS mkSaid cntSaid (k + cntS cntCSet u.fCat.fSets) u.fSaid }
def cvState (u : DtState) : Int := cntS cntCSet u.fCat.fSets + cntS cntSaid u.fSaid
theorem zne (u : DtState) : 0 ≤ cvState u := by
 have := zd2 zdz u.fCat.fSets
 have := zd2 zgg u.fSaid
 unfold cvState
 omega
theorem zh5 (u : DtState) (k : Int) (hs : DtState.sz u ≤ 2097152) (hk : 0 ≤ k ∧ k + cvState u ≤ 1073741824) : XCall Tryz.prog 12 [.agg [.arr 8 0 u.fCat.fSets.length, .arr 9 0 u.fSaid.length], (.g (.int .i64 (k)))] [.own 2 (u.fCat.fSets.map DtCSet.cells), .own 3 (u.fSaid.map DtSaid.cells)] (.g (.int .i64 (k + cvState u))) [.own 2 ((mkS mkCSet cntCSet (k) u.fCat.fSets).map DtCSet.cells), .own 3 ((mkS mkSaid cntSaid (k + cntS cntCSet u.fCat.fSets) u.fSaid).map DtSaid.cells)] [] := by
 simp only [DtState.sz] at hs
 have hz1 := zc0 DtCSet.sz_nonneg u.fCat.fSets
 have hy1 := zd2 zdz u.fCat.fSets
 have hz2 := zc0 DtSaid.sz_nonneg u.fSaid
 have hy2 := zd2 zgg u.fSaid
 have hz3 := DtCatalog.sz_nonneg u.fCat
 have hq3 := DtCatalog.sz.eq_1 u.fCat
 have hw3 := zj2 u.fCat
 have hv3 := cvCatalog.eq_1 u.fCat
 simp only [cvState] at hk
 simp only [cvState]
 refine zbx Tryz.func12 (by rfl) (by rfl) (by rw [Tryz.ntmps12]; exact Nat.le_of_ble_eq_true rfl) rfl (by simp) rfl rfl ?_
 rw [Tryz.ntmps12]
 refine zzn (.own 2 (u.fCat.fSets.map DtCSet.cells)) (.own 3 (u.fSaid.map DtSaid.cells)) (by simp [cvO] <;> assumption) (by simp [cvO] <;> assumption) ?_
 refine AW_k [(0, _), (1, _)] ⟨rfl, rfl, trivial⟩ ?_
 refine AW_x rfl rfl fun K hK => ?_
 simp (disch := omega) [zbi, gE, tP, DtState.cells, DtCatalog.cells]
 repeat' first | (refine ⟨by omega, ?_⟩) | (intro _)
 refine hK _ ?_; clear hK K
 refine AW_x rfl rfl fun K hK => ?_
 simp (disch := omega) [zbi, gE, tP, DtState.cells, DtCatalog.cells]
 repeat' first | (exfalso; omega) | (refine zdm [8] true [] (zs5 u.fCat (k) (by omega) (by omega)) ?_ ?_ ?_; (focus (simp [List.range_succ, nmC]; done)); (focus (simp (disch := omega) [zbi, gE, tP, DtState.cells, DtCatalog.cells, zbp]; done)); simp (disch := omega) [zbi, gE, tP, DtState.cells, DtCatalog.cells]) | (refine ⟨by omega, ?_⟩) | (intro _)
 refine hK _ ?_; clear hK K
 refine AW_x rfl rfl fun K hK => ?_
 simp (disch := omega) [zbi, gE, tP, DtState.cells, DtCatalog.cells]
 repeat' first | (exfalso; omega) | (refine zdm [9] true [] (markSaidS u.fSaid (k + cvCatalog u.fCat) (by omega) (by omega)) ?_ ?_ ?_; (focus (simp [List.range_succ, nmC]; done)); (focus (simp (disch := omega) [zbi, gE, tP, DtState.cells, DtCatalog.cells, zbp]; done)); simp (disch := omega) [zbi, gE, tP, DtState.cells, DtCatalog.cells]) | (refine ⟨by omega, ?_⟩) | (intro _)
 refine hK _ ?_; clear hK K
 refine AW_x rfl rfl fun K hK => ?_
 simp (disch := omega) [zbi, gE, tP, DtState.cells, DtCatalog.cells]
 repeat' first | (refine ⟨by omega, ?_⟩) | (intro _)
 refine hK _ ?_; clear hK K
 refine zbo (zcc [] [] (by simp [List.range_succ, zbc, zbj, zbe]) (by simp) ?_)
 simp (disch := omega) [zbi, gE, tP, DtState.cells, DtCatalog.cells]
 all_goals (first | omega | exact ⟨by omega, rfl⟩ | exact ⟨by omega, rfl, rfl⟩ | skip)
theorem zh6 (u : DtState) (k : Int) (hs : DtState.sz u ≤ 2097152) (hk : 0 ≤ k ∧ k + cvState u ≤ 1073741824) : PCall Tryz.prog 14 [.agg (DtState.cells (mvState k u)), (.g (.int .i64 (k)))] (.g (.int .i64 (k + cvState u))) := by
 simp only [DtState.sz] at hs
 have hz1 := zc0 DtCSet.sz_nonneg u.fCat.fSets
 have hy1 := zd2 zdz u.fCat.fSets
 have hz2 := zc0 DtSaid.sz_nonneg u.fSaid
 have hy2 := zd2 zgg u.fSaid
 have hz3 := DtCatalog.sz_nonneg u.fCat
 have hq3 := DtCatalog.sz.eq_1 u.fCat
 have hw3 := zj2 u.fCat
 have hv3 := cvCatalog.eq_1 u.fCat
 simp only [cvState] at hk
 simp only [cvState]
 refine zbu Tryz.func14 (by rfl) (by rfl) (by rw [Tryz.ntmps14]; exact Nat.le_of_ble_eq_true rfl) rfl (by decide) ?_
 rw [Tryz.ntmps14]
 refine AW_k [(0, _), (1, _)] ⟨rfl, rfl, trivial⟩ ?_
 refine AW_r rfl rfl fun K hK => ?_
 simp (disch := omega) [zbi, gE, tP, DtState.cells, DtCatalog.cells, mvState, mvCatalog, cvCatalog]
 repeat' first | (refine ⟨by omega, ?_⟩) | (intro _)
 refine hK _ ?_; clear hK K
 refine AW_r rfl rfl fun K hK => ?_
 simp (disch := omega) [zbi, gE, tP, DtState.cells, DtCatalog.cells, mvState, mvCatalog, cvCatalog]
 repeat' first | (exfalso; omega) | (refine zcx (zbh (zbz rfl) (zbh zcp zbs)) (zs6 u.fCat (k) (by omega) (by omega)) rfl ?_; simp (disch := omega) [zbi, gE, tP, DtState.cells, DtCatalog.cells, mvState, mvCatalog, cvCatalog]) | (refine ⟨by omega, ?_⟩) | (intro _)
 refine hK _ ?_; clear hK K
 refine zbm ?_
 refine AW_r rfl rfl fun K hK => ?_
 simp (disch := omega) [zbi, gE, tP, DtState.cells, DtCatalog.cells, mvState, mvCatalog, cvCatalog]
 repeat' first | (refine ⟨by omega, ?_⟩) | (intro _)
 refine hK _ ?_; clear hK K
 refine zbl rfl (fun hc19 => ?_) (fun hc19 => ?_)
 ·try simp at hc19
  all_goals
   refine AW_r rfl rfl fun K hK => ?_
   simp (disch := omega) [zbi, gE, tP, DtState.cells, DtCatalog.cells, mvState, mvCatalog, cvCatalog]
   repeat' first | (exfalso; omega) | (refine ⟨fun _ => ?_, fun _ => ?_⟩) | (refine ⟨by omega, ?_⟩) | (intro _)
   all_goals (refine hK _ ?_; clear hK K)
   all_goals
    refine zbo (zb4 ?_)
    simp (disch := omega) [zbi, gE, tP, DtState.cells, DtCatalog.cells, mvState, mvCatalog, cvCatalog]
    all_goals (first | omega | skip)
 try simp at hc19
 refine zbn ?_
 refine zbq ?_
 refine AW_r rfl rfl fun K hK => ?_
 simp (disch := omega) [zbi, gE, tP, DtState.cells, DtCatalog.cells, mvState, mvCatalog, cvCatalog]
 repeat' first | (exfalso; omega) | (refine zcx (zbh zdd (zbh zcp zbs)) (heldSaidS u.fSaid (k + cvCatalog u.fCat) (by omega) (by omega)) rfl ?_; simp (disch := omega) [zbi, gE, tP, DtState.cells, DtCatalog.cells, mvState, mvCatalog, cvCatalog]) | (refine ⟨fun _ => ?_, fun _ => ?_⟩) | (refine ⟨by omega, ?_⟩) | (intro _)
 all_goals (refine hK _ ?_; clear hK K)
 all_goals
  refine zbm ?_
  refine AW_r rfl rfl fun K hK => ?_
  simp (disch := omega) [zbi, gE, tP, DtState.cells, DtCatalog.cells, mvState, mvCatalog, cvCatalog]
  repeat' first | (refine ⟨by omega, ?_⟩) | (intro _)
  refine hK _ ?_; clear hK K
  refine zbl rfl (fun hc20 => ?_) (fun hc20 => ?_)
  ·try simp at hc20
   all_goals
    refine AW_r rfl rfl fun K hK => ?_
    simp (disch := omega) [zbi, gE, tP, DtState.cells, DtCatalog.cells, mvState, mvCatalog, cvCatalog]
    repeat' first | (exfalso; omega) | (refine ⟨fun _ => ?_, fun _ => ?_⟩) | (refine ⟨by omega, ?_⟩) | (intro _)
    all_goals (refine hK _ ?_; clear hK K)
    all_goals
     refine zbo (zb4 ?_)
     simp (disch := omega) [zbi, gE, tP, DtState.cells, DtCatalog.cells, mvState, mvCatalog, cvCatalog]
     all_goals (first | omega | skip)
  try simp at hc20
  refine zbn ?_
  refine zbq ?_
  refine AW_r rfl rfl fun K hK => ?_
  simp (disch := omega) [zbi, gE, tP, DtState.cells, DtCatalog.cells, mvState, mvCatalog, cvCatalog]
  repeat' first | (exfalso; omega) | (refine ⟨fun _ => ?_, fun _ => ?_⟩) | (refine ⟨by omega, ?_⟩) | (intro _)
  all_goals (refine hK _ ?_; clear hK K)
  all_goals
   refine zbo (zb4 ?_)
   simp (disch := omega) [zbi, gE, tP, DtState.cells, DtCatalog.cells, mvState, mvCatalog, cvCatalog]
   all_goals (first | omega | skip)
end Go.Proofs.YtmheohnbkaoipaaGreat.Vs
