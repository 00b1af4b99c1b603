import Derived.Test.YtmheohnbkaoipaaSN1
import Derived.Test.YtmheohnbkaoipaaSDQ
open Go Go.Proofs Go.Proofs.Ytmheohnbkaoipaa.Vs
namespace Go.Proofs.Ytmheohnbkaoipaa.Vs
set_option linter.all false
set_option linter.unusedSimpArgs false
set_option linter.unusedVariables false
set_option maxRecDepth 100000
theorem zrj {l : List (List AV)} {i : Nat} {a b : List AV} (h : a = b) : l.set i a = l.set i b := by rw [h]
theorem zgt {α : Type} {f : α → Int} (hf : ∀ x, 0 ≤ f x) (l : List α) : (l.length : Int) ≤ szS f l := by have := zca hf l; unfold szS; omega
theorem cnt_sz {α : Type} {cnt sz : α → Int} (h : ∀ u, cnt u ≤ 16 * (1 + sz u)) : ∀ us : List α, cntS cnt us ≤ 16 * szS sz us
 | [] => by simp [zfe, szS, zdt]
 | u :: us => by
  have h1 := cnt_sz h us
  have h2 := h u
  simp only [szS, zfs, zf9, List.length_cons] at h1 ⊢
  omega
def mkCmd (k : Int) (u : DtCmd) : DtCmd := { fKind := k, fClient := k + 1, fNo := k + 1 + 1, fSet := mT (k + 1 + 1 + 1), fName := mT (k + 1 + 1 + 1 + 1), fTag := mT (k + 1 + 1 + 1 + 1 + 1), fN := k + 1 + 1 + 1 + 1 + 1 + 1, fChunks := mkL mT (k + 1 + 1 + 1 + 1 + 1 + 1 + 1) u.fChunks.length }
def cntCmd (u : DtCmd) : Int := 1 + 1 + 1 + 1 + 1 + 1 + 1 + (u.fChunks.length : Nat)
theorem toCmdX (u : DtCmd) (hs : DtCmd.sz u ≤ 1048576) : XCall Try.prog 12 [.agg (DtCmd.cells u)] [] (.agg [.g (.int .i64 u.fKind), .g (.int .i64 u.fClient), .g (.int .i64 u.fNo), .s u.fSet, .s u.fName, .s u.fTag, .g (.int .i64 u.fN), .arr 16 0 u.fChunks.length]) [] [.own 1 (u.fChunks.map cS)] := by
 simp only [DtCmd.sz] at hs
 have hz1 := zgt zck u.fChunks
 refine zbx Try.func12 (by rfl) (by rfl) (by rw [Try.ntmps12]; exact Nat.le_of_ble_eq_true rfl) rfl (by simp) rfl rfl ?_
 rw [Try.ntmps12]
 refine zgg   ?_
 refine AW_k [(0, _)] ⟨rfl, trivial⟩ ?_
 refine AW_x rfl rfl fun K hK => ?_
 simp (disch := omega) [zbk, gE, tP, DtCmd.cells]
 repeat' first | (refine ⟨by omega, ?_⟩) | (intro _)
 refine hK _ ?_; clear hK K
 refine AW_x rfl rfl fun K hK => ?_
 simp (disch := omega) [zbk, gE, tP, DtCmd.cells]
 repeat' first | (refine ⟨by omega, ?_⟩) | (intro _)
 refine hK _ ?_; clear hK K
 refine AW_x rfl rfl fun K hK => ?_
 simp (disch := omega) [zbk, gE, tP, DtCmd.cells]
 repeat' first | (refine ⟨by omega, ?_⟩) | (intro _)
 refine hK _ ?_; clear hK K
 refine AW_x rfl rfl fun K hK => ?_
 simp (disch := omega) [zbk, gE, tP, DtCmd.cells]
 repeat' first | (refine ⟨by omega, ?_⟩) | (intro _)
 refine hK _ ?_; clear hK K
 refine AW_x rfl rfl fun K hK => ?_
 simp (disch := omega) [zbk, gE, tP, DtCmd.cells]
 repeat' first | (refine ⟨by omega, ?_⟩) | (intro _)
 refine hK _ ?_; clear hK K
 refine AW_x rfl rfl fun K hK => ?_
 simp (disch := omega) [zbk, gE, tP, DtCmd.cells]
 repeat' first | (refine ⟨by omega, ?_⟩) | (intro _)
 refine hK _ ?_; clear hK K
 refine AW_x rfl rfl fun K hK => ?_
 simp (disch := omega) [zbk, gE, tP, DtCmd.cells]
 repeat' first | (refine ⟨by omega, ?_⟩) | (intro _)
 refine hK _ ?_; clear hK K
 refine AW_x rfl rfl fun K hK => ?_
 simp (disch := omega) [zbk, gE, tP, DtCmd.cells]
 repeat' first | (refine ⟨by omega, ?_⟩) | (intro _)
 refine hK _ ?_; clear hK K
 refine AW_x rfl rfl fun K hK => ?_
 simp (disch := omega) [zbk, gE, tP, DtCmd.cells]
 repeat' first | (refine ⟨by omega, ?_⟩) | (intro _)
 refine hK _ ?_; clear hK K
 refine AW_x rfl rfl fun K hK => ?_
 simp (disch := omega) [zbk, gE, tP, DtCmd.cells]
 repeat' first | (exfalso; omega) | (refine zdl [] true [] (zw6 u.fChunks (by omega)) ?_ ?_ ?_; (focus (simp [List.range_succ, nmC]; done)); (focus (simp (disch := omega) [zbk, gE, tP, DtCmd.cells, zbp]; done)); simp (disch := omega) [zbk, gE, tP, DtCmd.cells]) | (refine ⟨by omega, ?_⟩) | (intro _)
 refine hK _ ?_; clear hK K
 refine AW_x rfl rfl fun K hK => ?_
 simp (disch := omega) [zbk, gE, tP, DtCmd.cells]
 repeat' first | (refine ⟨by omega, ?_⟩) | (intro _)
 refine hK _ ?_; clear hK K
 refine zbo (zcb [448] [] (by simp [List.range_succ, zbc, zbh, zbe]) (by simp) ?_)
 simp (disch := omega) [zbk, gE, tP, DtCmd.cells]
 all_goals skip
def mvCmd (k : Int) (u : DtCmd) : DtCmd := { fKind := u.fKind, fClient := u.fClient, fNo := u.fNo, fSet := u.fSet, fName := u.fName, fTag := u.fTag, fN := u.fN, fChunks := mkL mT (k) u.fChunks.length }
def cvCmd (u : DtCmd) : Int := (u.fChunks.length : Nat)
def mkCSnap (k : Int) (u : DtCSnap) : DtCSnap := { fName := mT (k), fTag := mT (k + 1), fChunks := mkL mT (k + 1 + 1) u.fChunks.length }
def cntCSnap (u : DtCSnap) : Int := 1 + 1 + (u.fChunks.length : Nat)
def mkCSet (k : Int) (u : DtCSet) : DtCSet := { fName := mT (k), fSnaps := mkS mkCSnap cntCSnap (k + 1) u.fSnaps }
def cntCSet (u : DtCSet) : Int := 1 + cntS cntCSnap u.fSnaps
def mkCatalog (k : Int) (u : DtCatalog) : DtCatalog := { fSets := mkS mkCSet cntCSet (k) u.fSets }
def cntCatalog (u : DtCatalog) : Int := cntS cntCSet u.fSets
def mvCatalog (k : Int) (u : DtCatalog) : DtCatalog := { fSets := mkS mkCSet cntCSet (k) u.fSets }
def cvCatalog (u : DtCatalog) : Int := cntS cntCSet u.fSets
def mkSaid (k : Int) (u : DtSaid) : DtSaid := { fClient := k, fNo := k + 1, fText := mT (k + 1 + 1) }
def cntSaid (u : DtSaid) : Int := 1 + 1 + 1
def mkState (k : Int) (u : DtState) : DtState := { fCat := { fSets := mkS mkCSet cntCSet (k) u.fCat.fSets }, fSaid := mkS mkSaid cntSaid (k + cntS cntCSet u.fCat.fSets) u.fSaid }
def cntState (u : DtState) : Int := cntS cntCSet u.fCat.fSets + cntS cntSaid u.fSaid
def mvState (k : Int) (u : DtState) : DtState := { fCat := { fSets := mkS mkCSet cntCSet (k) u.fCat.fSets }, fSaid := mkS mkSaid cntSaid (k + cntS cntCSet u.fCat.fSets) u.fSaid }
def cvState (u : DtState) : Int := cntS cntCSet u.fCat.fSets + cntS cntSaid u.fSaid
def mkCall (k : Int) (u : DtCall) : DtCall := { fStart := k, fEnd := k + 1, fCmd := { fKind := k + 1 + 1, fClient := k + 1 + 1 + 1, fNo := k + 1 + 1 + 1 + 1, fSet := mT (k + 1 + 1 + 1 + 1 + 1), fName := mT (k + 1 + 1 + 1 + 1 + 1 + 1), fTag := mT (k + 1 + 1 + 1 + 1 + 1 + 1 + 1), fN := k + 1 + 1 + 1 + 1 + 1 + 1 + 1 + 1, fChunks := mkL mT (k + 1 + 1 + 1 + 1 + 1 + 1 + 1 + 1 + 1) u.fCmd.fChunks.length }, fText := mT (k + 1 + 1 + 1 + 1 + 1 + 1 + 1 + 1 + 1 + (u.fCmd.fChunks.length : Nat)) }
def cntCall (u : DtCall) : Int := 1 + 1 + 1 + 1 + 1 + 1 + 1 + 1 + 1 + (u.fCmd.fChunks.length : Nat) + 1
theorem zna (u : DtCall) : 0 ≤ cntCall u := by
 unfold cntCall
 omega
theorem zw7 (u : DtCall) : cntCall u ≤ 16 * (1 + DtCall.sz u) := by
 have := zgt zck u.fCmd.fChunks
 unfold cntCall
 simp only [DtCall.sz, DtCmd.sz]
 omega
theorem markCallS (us : List DtCall) (k : Int) (hs : szS DtCall.sz us ≤ 1048576) (hk : 0 ≤ k ∧ k + cntS cntCall us ≤ 1073741824) : XCall Try.prog 42 [.arr 8 0 us.length, (.g (.int .i64 (k)))] [.own 11 (us.map DtCall.cells)] (.g (.int .i64 (k + cntS cntCall us))) [.own 11 ((mkS mkCall cntCall k us).map DtCall.cells)] [] := by
 have hL : us.length ≤ 1048576 := by have := zgt DtCall.sz_nonneg us; omega
 refine zbx Try.func42 (by rfl) (by rfl) (by rw [Try.ntmps42]; exact Nat.le_of_ble_eq_true rfl) rfl (by simp) rfl rfl ?_
 rw [Try.ntmps42]
 refine zjy (.own 11 (us.map DtCall.cells)) (by simp [cvO] <;> assumption) ?_
 refine AW_k [(0, _), (1, _)] ⟨rfl, rfl, trivial⟩ ?_
 refine AW_x rfl rfl fun K hK => ?_
 simp (disch := omega) [zbk, gE, tP, DtCall.cells, DtCmd.cells, zch, zb6]
 repeat' first | (refine ⟨by omega, ?_⟩) | (intro _)
 refine hK _ ?_; clear hK K
 refine zbm ?_
 refine AW_x rfl rfl fun K hK => ?_
 simp (disch := omega) [zbk, gE, tP, DtCall.cells, DtCmd.cells, zch, zb6]
 repeat' first | (refine ⟨by omega, ?_⟩) | (intro _)
 refine hK _ ?_; clear hK K
 refine zbr ?_
 refine zb0 (fun mM sS => ∃ (i : Nat), mM = us.length - i ∧ (i ≤ us.length) ∧ sS = { env := lkE [(0, .arr 8 0 us.length), (1, (.g (.int .i64 (k + cntS cntCall (us.take i))))), (5, (.g (.int .i64 ((i : Nat)))))], ob := lk [(8, .own 11 ((mkSR mkCall cntCall k us i).map DtCall.cells))] }) ?_ ?_
 ·refine ⟨_, LeS.kx [(8, 8)] [(0, .arr 8 0 us.length), (1, (.g (.int .i64 (k + cntS cntCall (us.take (0)))))), (5, (.g (.int .i64 (((0) : Nat)))))] [(8, .own 11 ((mkSR mkCall cntCall k us (0)).map DtCall.cells))] (by simp [KpR, renV2, renV, zbe, zbu, zbc, zbh, zvh, zfe]; try (first | rfl | (omega; done))) (by simp [KpOX, renO, plO, cvO, renV, pl1, zbc, zbh, zbe, zvh, zfe]; try (first | rfl | (rw [← zvj mkCall cntCall k us i (by omega), List.map_set]; refine zrj ?_; simp only [DtCall.cells, DtCmd.cells, mkCall]; repeat' (first | rfl | (omega; done) | congr 1)))) (by rfl) (by simp) (by simp) (by rfl) (by simp [formsX, List.range_succ, zbc, zbh]), _, 0, rfl, ?_, rfl⟩
  ·simp
 ·rintro mM sS ⟨i, rfl, hi, rfl⟩
  have hln : (mkSR mkCall cntCall k us i).length = us.length := mkSR_len _ _ _ _ _ hi
  refine zbm ?_
  refine AW_x rfl rfl fun K hK => ?_
  simp (disch := omega) [zbk, gE, tP, DtCall.cells, DtCmd.cells, zch, zb6]
  repeat' first | (refine ⟨by omega, ?_⟩) | (intro _)
  refine hK _ ?_; clear hK K
  refine zbl rfl (fun hc22 => ?_) (fun hc22 => ?_)
  ·try simp at hc22
   all_goals
    have hcl := cntS_le zna us i (by omega)
    have hcu : cntCall us[i] = 1 + 1 + 1 + 1 + 1 + 1 + 1 + 1 + 1 + (us[i].fCmd.fChunks.length : Nat) + 1 := rfl
    have hcs := zri cntCall us i (by omega)
    have hzn1 := zgt zck us[i].fCmd.fChunks
    have hsE : DtCall.sz us[i] ≤ 1048576 := by have := zc8 DtCall.sz_nonneg us us[i] (List.getElem_mem _); simp only [szS] at hs; omega
    simp only [DtCall.sz, DtCmd.sz] at hsE
    refine zbn ?_
    refine zbq ?_
    refine zbm ?_
    refine zbr ?_
    refine AW_x rfl rfl fun K hK => ?_
    simp (disch := omega) [zbk, gE, tP, DtCall.cells, DtCmd.cells, zch, zb6]
    repeat' first | (exfalso; omega) | (refine ⟨fun _ => ?_, fun _ => ?_⟩) | (refine ⟨by omega, ?_⟩) | (intro _)
    all_goals (refine hK _ ?_; clear hK K)
    all_goals
     refine AW_x rfl rfl fun K hK => ?_
     simp (disch := omega) [zbk, gE, tP, DtCall.cells, DtCmd.cells, zch, zb6]
     repeat' first | (refine ⟨by omega, ?_⟩) | (intro _)
     refine hK _ ?_; clear hK K
     refine AW_x rfl rfl fun K hK => ?_
     simp (disch := omega) [zbk, gE, tP, DtCall.cells, DtCmd.cells, zch, zb6]
     repeat' first | (refine ⟨by omega, ?_⟩) | (intro _)
     refine hK _ ?_; clear hK K
     refine AW_x rfl rfl fun K hK => ?_
     simp (disch := omega) [zbk, gE, tP, DtCall.cells, DtCmd.cells, zch, zb6]
     repeat' first | (refine ⟨by omega, ?_⟩) | (intro _)
     refine hK _ ?_; clear hK K
     refine AW_x rfl rfl fun K hK => ?_
     simp (disch := omega) [zbk, gE, tP, DtCall.cells, DtCmd.cells, zch, zb6]
     repeat' first | (refine ⟨by omega, ?_⟩) | (intro _)
     refine hK _ ?_; clear hK K
     refine AW_x rfl rfl fun K hK => ?_
     simp (disch := omega) [zbk, gE, tP, DtCall.cells, DtCmd.cells, zch, zb6]
     repeat' first | (refine ⟨by omega, ?_⟩) | (intro _)
     refine hK _ ?_; clear hK K
     refine AW_x rfl rfl fun K hK => ?_
     simp (disch := omega) [zbk, gE, tP, DtCall.cells, DtCmd.cells, zch, zb6]
     repeat' first | (refine ⟨by omega, ?_⟩) | (intro _)
     refine hK _ ?_; clear hK K
     refine AW_x rfl rfl fun K hK => ?_
     simp (disch := omega) [zbk, gE, tP, DtCall.cells, DtCmd.cells, zch, zb6]
     repeat' first | (refine ⟨by omega, ?_⟩) | (intro _)
     refine hK _ ?_; clear hK K
     refine AW_x rfl rfl fun K hK => ?_
     simp (disch := omega) [zbk, gE, tP, DtCall.cells, DtCmd.cells, zch, zb6]
     repeat' first | (refine ⟨by omega, ?_⟩) | (intro _)
     refine hK _ ?_; clear hK K
     refine AW_x rfl rfl fun K hK => ?_
     simp (disch := omega) [zbk, gE, tP, DtCall.cells, DtCmd.cells, zch, zb6]
     repeat' first | (refine ⟨by omega, ?_⟩) | (intro _)
     refine hK _ ?_; clear hK K
     refine AW_x rfl rfl fun K hK => ?_
     simp (disch := omega) [zbk, gE, tP, DtCall.cells, DtCmd.cells, zch, zb6]
     repeat' first | (exfalso; omega) | (refine zdi (zbi zcs zbt) (zd4 _ (by omega)) rfl ?_; simp (disch := omega) [zbk, gE, tP, DtCall.cells, DtCmd.cells, zch, zb6]) | (refine zdj (zd4 _ (by omega)) (by rfl) ?_ ?_; (focus (simp (disch := omega) [zbk, gE, tP, DtCall.cells, DtCmd.cells, zch, zb6, zbp]; done)); simp (disch := omega) [zbk, gE, tP, DtCall.cells, DtCmd.cells, zch, zb6]) | (refine ⟨by omega, ?_⟩) | (intro _)
     refine hK _ ?_; clear hK K
     refine AW_x rfl rfl fun K hK => ?_
     simp (disch := omega) [zbk, gE, tP, DtCall.cells, DtCmd.cells, zch, zb6]
     repeat' first | (refine ⟨by omega, ?_⟩) | (intro _)
     refine hK _ ?_; clear hK K
     refine AW_x rfl rfl fun K hK => ?_
     simp (disch := omega) [zbk, gE, tP, DtCall.cells, DtCmd.cells, zch, zb6]
     repeat' first | (exfalso; omega) | (refine zdi (zbi zcs zbt) (zd4 _ (by omega)) rfl ?_; simp (disch := omega) [zbk, gE, tP, DtCall.cells, DtCmd.cells, zch, zb6]) | (refine zdj (zd4 _ (by omega)) (by rfl) ?_ ?_; (focus (simp (disch := omega) [zbk, gE, tP, DtCall.cells, DtCmd.cells, zch, zb6, zbp]; done)); simp (disch := omega) [zbk, gE, tP, DtCall.cells, DtCmd.cells, zch, zb6]) | (refine ⟨by omega, ?_⟩) | (intro _)
     refine hK _ ?_; clear hK K
     refine AW_x rfl rfl fun K hK => ?_
     simp (disch := omega) [zbk, gE, tP, DtCall.cells, DtCmd.cells, zch, zb6]
     repeat' first | (refine ⟨by omega, ?_⟩) | (intro _)
     refine hK _ ?_; clear hK K
     refine AW_x rfl rfl fun K hK => ?_
     simp (disch := omega) [zbk, gE, tP, DtCall.cells, DtCmd.cells, zch, zb6]
     repeat' first | (exfalso; omega) | (refine zdi (zbi zcs zbt) (zd4 _ (by omega)) rfl ?_; simp (disch := omega) [zbk, gE, tP, DtCall.cells, DtCmd.cells, zch, zb6]) | (refine zdj (zd4 _ (by omega)) (by rfl) ?_ ?_; (focus (simp (disch := omega) [zbk, gE, tP, DtCall.cells, DtCmd.cells, zch, zb6, zbp]; done)); simp (disch := omega) [zbk, gE, tP, DtCall.cells, DtCmd.cells, zch, zb6]) | (refine ⟨by omega, ?_⟩) | (intro _)
     refine hK _ ?_; clear hK K
     refine AW_x rfl rfl fun K hK => ?_
     simp (disch := omega) [zbk, gE, tP, DtCall.cells, DtCmd.cells, zch, zb6]
     repeat' first | (refine ⟨by omega, ?_⟩) | (intro _)
     refine hK _ ?_; clear hK K
     refine AW_x rfl rfl fun K hK => ?_
     simp (disch := omega) [zbk, gE, tP, DtCall.cells, DtCmd.cells, zch, zb6]
     repeat' first | (refine ⟨by omega, ?_⟩) | (intro _)
     refine hK _ ?_; clear hK K
     refine AW_x rfl rfl fun K hK => ?_
     simp (disch := omega) [zbk, gE, tP, DtCall.cells, DtCmd.cells, zch, zb6]
     repeat' first | (refine ⟨by omega, ?_⟩) | (intro _)
     refine hK _ ?_; clear hK K
     refine AW_x rfl rfl fun K hK => ?_
     simp (disch := omega) [zbk, gE, tP, DtCall.cells, DtCmd.cells, zch, zb6]
     repeat' first | (exfalso; omega) | (refine XKd_n (n := 8) (i := i) (f0 := 9) (zs9 us[i].fCmd.fChunks _ (by omega) (by omega)) ?_ ?_ ?_ ?_ rfl ?_ rfl ?_ ?_; (focus (simp; done)); (focus rfl); (focus rfl); (focus (simp [zdz, zhl]; done)); (focus (simp; done)); (focus first | exact ⟨_, zb6 _ _ _ _ (by omega), rfl⟩ | exact ⟨_, by rw [List.getElem?_map, zvi _ _ _ _ _ (by omega)]; rfl, rfl⟩); simp (disch := omega) [zbk, gE, tP, DtCall.cells, DtCmd.cells, zch, zb6]) | (refine ⟨by omega, ?_⟩) | (intro _)
     refine hK _ ?_; clear hK K
     refine AW_x rfl rfl fun K hK => ?_
     simp (disch := omega) [zbk, gE, tP, DtCall.cells, DtCmd.cells, zch, zb6]
     repeat' first | (exfalso; omega) | (refine zdi (zbi zcs zbt) (zd4 _ (by omega)) rfl ?_; simp (disch := omega) [zbk, gE, tP, DtCall.cells, DtCmd.cells, zch, zb6]) | (refine zdj (zd4 _ (by omega)) (by rfl) ?_ ?_; (focus (simp (disch := omega) [zbk, gE, tP, DtCall.cells, DtCmd.cells, zch, zb6, zbp]; done)); simp (disch := omega) [zbk, gE, tP, DtCall.cells, DtCmd.cells, zch, zb6]) | (refine ⟨by omega, ?_⟩) | (intro _)
     refine hK _ ?_; clear hK K
     refine zco rfl rfl fun K hK => ?_
     simp (disch := omega) [zbk, gE, tP, DtCall.cells, DtCmd.cells, zch, zb6]
     repeat' first | (refine ⟨by omega, ?_⟩) | (intro _)
     refine hK _ ?_; clear hK K
     refine zbq ?_
     refine zco rfl rfl fun K hK => ?_
     simp (disch := omega) [zbk, gE, tP, DtCall.cells, DtCmd.cells, zch, zb6]
     repeat' first | (refine ⟨by omega, ?_⟩) | (intro _)
     refine hK _ ?_; clear hK K
     refine ⟨_, LeS.kx [(8, 8)] [(0, .arr 8 0 us.length), (1, (.g (.int .i64 (k + cntS cntCall (us.take (i + 1)))))), (5, (.g (.int .i64 (((i + 1) : Nat)))))] [(8, .own 11 ((mkSR mkCall cntCall k us (i + 1)).map DtCall.cells))] (by simp [KpR, renV2, renV, zbe, zbu, zbc, zbh, zvh, zfe]; try (first | rfl | (omega; done))) (by simp [KpOX, renO, plO, cvO, renV, pl1, zbc, zbh, zbe, zvh, zfe]; try (first | rfl | (rw [← zvj mkCall cntCall k us i (by omega), List.map_set]; refine zrj ?_; simp only [DtCall.cells, DtCmd.cells, mkCall]; repeat' (first | rfl | (omega; done) | congr 1)))) (by rfl) (by simp) (by simp) (by rfl) (by simp [formsX, List.range_succ, zbc, zbh]), _, ?_, i + 1, rfl, ?_, rfl⟩
     ·omega
     ·omega
  try simp at hc22
  refine zb5 ?_
  refine zbq ?_
  refine AW_x rfl rfl fun K hK => ?_
  simp (disch := omega) [zbk, gE, tP, DtCall.cells, DtCmd.cells, zch, zb6]
  repeat' first | (exfalso; omega) | (refine ⟨fun _ => ?_, fun _ => ?_⟩) | (refine ⟨by omega, ?_⟩) | (intro _)
  all_goals (refine hK _ ?_; clear hK K)
  all_goals
   refine zbo (zcb [] [] (by simp [List.range_succ, zbc, zbh, zbe]) (by simp) ?_)
   simp (disch := omega) [zbk, gE, tP, DtCall.cells, DtCmd.cells, zch, zb6]
   all_goals ((have e : i = us.length := by omega); subst e; rw [mkSR_n _ _ _ _ _ (by omega), List.take_of_length_le (by omega)]; exact ⟨rfl, rfl⟩)
theorem toCallX (u : DtCall) (hs : DtCall.sz u ≤ 1048576) : XCall Try.prog 77 [.agg (DtCall.cells u)] [] (.agg [.g (.int .i64 u.fStart), .g (.int .i64 u.fEnd), .g (.int .i64 u.fCmd.fKind), .g (.int .i64 u.fCmd.fClient), .g (.int .i64 u.fCmd.fNo), .s u.fCmd.fSet, .s u.fCmd.fName, .s u.fCmd.fTag, .g (.int .i64 u.fCmd.fN), .arr 16 0 u.fCmd.fChunks.length, .s u.fText]) [] [.own 1 (u.fCmd.fChunks.map cS)] := by
 simp only [DtCall.sz] at hs
 have hz1 := zgt zck u.fCmd.fChunks
 have hz4 := DtCmd.sz_nonneg u.fCmd
 refine zbx Try.func77 (by rfl) (by rfl) (by rw [Try.ntmps77]; exact Nat.le_of_ble_eq_true rfl) rfl (by simp) rfl rfl ?_
 rw [Try.ntmps77]
 refine zgg   ?_
 refine AW_k [(0, _)] ⟨rfl, trivial⟩ ?_
 refine AW_x rfl rfl fun K hK => ?_
 simp (disch := omega) [zbk, gE, tP, DtCall.cells, DtCmd.cells]
 repeat' first | (refine ⟨by omega, ?_⟩) | (intro _)
 refine hK _ ?_; clear hK K
 refine AW_x rfl rfl fun K hK => ?_
 simp (disch := omega) [zbk, gE, tP, DtCall.cells, DtCmd.cells]
 repeat' first | (refine ⟨by omega, ?_⟩) | (intro _)
 refine hK _ ?_; clear hK K
 refine AW_x rfl rfl fun K hK => ?_
 simp (disch := omega) [zbk, gE, tP, DtCall.cells, DtCmd.cells]
 repeat' first | (refine ⟨by omega, ?_⟩) | (intro _)
 refine hK _ ?_; clear hK K
 refine AW_x rfl rfl fun K hK => ?_
 simp (disch := omega) [zbk, gE, tP, DtCall.cells, DtCmd.cells]
 repeat' first | (refine ⟨by omega, ?_⟩) | (intro _)
 refine hK _ ?_; clear hK K
 refine AW_x rfl rfl fun K hK => ?_
 simp (disch := omega) [zbk, gE, tP, DtCall.cells, DtCmd.cells]
 repeat' first | (exfalso; omega) | (refine zdl [] true [] (toCmdX u.fCmd (by omega)) ?_ ?_ ?_; (focus (simp [List.range_succ, nmC]; done)); (focus (simp (disch := omega) [zbk, gE, tP, DtCall.cells, DtCmd.cells, zbp]; done)); simp (disch := omega) [zbk, gE, tP, DtCall.cells, DtCmd.cells]) | (refine ⟨by omega, ?_⟩) | (intro _)
 refine hK _ ?_; clear hK K
 refine AW_x rfl rfl fun K hK => ?_
 simp (disch := omega) [zbk, gE, tP, DtCall.cells, DtCmd.cells]
 repeat' first | (refine ⟨by omega, ?_⟩) | (intro _)
 refine hK _ ?_; clear hK K
 refine AW_x rfl rfl fun K hK => ?_
 simp (disch := omega) [zbk, gE, tP, DtCall.cells, DtCmd.cells]
 repeat' first | (refine ⟨by omega, ?_⟩) | (intro _)
 refine hK _ ?_; clear hK K
 refine zbo (zcb [208] [] (by simp [List.range_succ, zbc, zbh, zbe]) (by simp) ?_)
 simp (disch := omega) [zbk, gE, tP, DtCall.cells, DtCmd.cells]
 all_goals skip
theorem zkg (us : List DtCall) (hs : szS DtCall.sz us ≤ 1048576) : XCall Try.prog 35 [.sl 11 (us.map DtCall.cells)] [] (.arr 16 0 us.length) [] [.own 11 (us.map DtCall.cells)] := by
 have hL : us.length ≤ 1048576 := by have := zgt DtCall.sz_nonneg us; omega
 refine zbx Try.func35 (by rfl) (by rfl) (by rw [Try.ntmps35]; exact Nat.le_of_ble_eq_true rfl) rfl (by simp) rfl rfl ?_
 rw [Try.ntmps35]
 refine zgg   ?_
 refine AW_k [(0, _)] ⟨rfl, trivial⟩ ?_
 refine AW_x rfl rfl fun K hK => ?_
 simp (disch := omega) [zbk, gE, tP, DtCall.cells, DtCmd.cells, zhh, zb6, List.range_succ]
 repeat' first | (refine ⟨by omega, ?_⟩) | (intro _)
 refine hK _ ?_; clear hK K
 refine AW_x rfl rfl fun K hK => ?_
 simp (disch := omega) [zbk, gE, tP, DtCall.cells, DtCmd.cells, zhh, zb6, List.range_succ]
 repeat' first | (refine ⟨by omega, ?_⟩) | (intro _)
 refine hK _ ?_; clear hK K
 refine zbm ?_
 refine AW_x rfl rfl fun K hK => ?_
 simp (disch := omega) [zbk, gE, tP, DtCall.cells, DtCmd.cells, zhh, zb6, List.range_succ]
 repeat' first | (refine ⟨by omega, ?_⟩) | (intro _)
 refine hK _ ?_; clear hK K
 refine zbr ?_
 refine zb0 (fun mM sS => ∃ (i : Nat), mM = us.length - i ∧ (i ≤ us.length) ∧ sS = { env := lkE [(0, .sl 11 (us.map DtCall.cells)), (3, .arr 128 0 us.length), (4, (.g (.int .i64 ((i : Nat)))))], ob := lk [(128, .own 11 (cpS [.g (.int .i64 0), .g (.int .i64 0), .g (.int .i64 0), .g (.int .i64 0), .g (.int .i64 0), .s [], .s [], .s [], .g (.int .i64 0), .g (.slice none 0 0), .s []] DtCall.cells us i))] }) ?_ ?_
 ·refine ⟨_, LeS.kx [(128, 128)] [(0, .sl 11 (us.map DtCall.cells)), (3, .arr 128 0 us.length), (4, (.g (.int .i64 (((0) : Nat)))))] [(128, .own 11 (cpS [.g (.int .i64 0), .g (.int .i64 0), .g (.int .i64 0), .g (.int .i64 0), .g (.int .i64 0), .s [], .s [], .s [], .g (.int .i64 0), .g (.slice none 0 0), .s []] DtCall.cells us (0)))] (by simp [KpR, renV2, renV, zbe, zbu, zbc, zbh, cpS_0, zpm]; try (first | rfl | (omega; done))) (by simp [KpOX, renO, plO, cvO, renV, pl1, zbc, zbh, zbe, cpS_0, zpm]; try (first | rfl | (rw [← cpS_set _ _ _ i (by omega)]; simp [DtCall.cells, DtCmd.cells]; done))) (by rfl) (by simp) (by simp) (by rfl) (by simp [formsX, List.range_succ, zbc, zbh]), _, 0, rfl, ?_, rfl⟩
  ·simp
 ·rintro mM sS ⟨i, rfl, hi, rfl⟩
  have hln : (cpS [.g (.int .i64 0), .g (.int .i64 0), .g (.int .i64 0), .g (.int .i64 0), .g (.int .i64 0), .s [], .s [], .s [], .g (.int .i64 0), .g (.slice none 0 0), .s []] DtCall.cells us i).length = us.length := cpS_len _ _ _ _ hi
  refine zbm ?_
  refine AW_x rfl rfl fun K hK => ?_
  simp (disch := omega) [zbk, gE, tP, DtCall.cells, DtCmd.cells, zhh, zb6, List.range_succ]
  repeat' first | (refine ⟨by omega, ?_⟩) | (intro _)
  refine hK _ ?_; clear hK K
  refine zbl rfl (fun hc23 => ?_) (fun hc23 => ?_)
  ·try simp at hc23
   all_goals
    have hsE : DtCall.sz us[i] ≤ 1048576 := by have := zc8 DtCall.sz_nonneg us us[i] (List.getElem_mem _); simp only [szS] at hs; omega
    refine zbn ?_
    refine zbq ?_
    refine zbm ?_
    refine zbr ?_
    refine zco rfl rfl fun K hK => ?_
    simp (disch := omega) [zbk, gE, tP, DtCall.cells, DtCmd.cells, zhh, zb6, List.range_succ]
    repeat' first | (exfalso; omega) | (refine zdl [] true [] (toCallX us[i] (by omega)) ?_ ?_ ?_; (focus (simp [List.range_succ, nmC]; done)); (focus (simp (disch := omega) [zbk, gE, tP, DtCall.cells, DtCmd.cells, zhh, zb6, List.range_succ, zbp]; done)); simp (disch := omega) [zbk, gE, tP, DtCall.cells, DtCmd.cells, zhh, zb6, List.range_succ]) | (refine ⟨fun _ => ?_, fun _ => ?_⟩) | (refine ⟨by omega, ?_⟩) | (intro _)
    all_goals (refine hK _ ?_; clear hK K)
    all_goals
     refine zbq ?_
     refine zco rfl rfl fun K hK => ?_
     simp (disch := omega) [zbk, gE, tP, DtCall.cells, DtCmd.cells, zhh, zb6, List.range_succ]
     repeat' first | (refine ⟨by omega, ?_⟩) | (intro _)
     refine hK _ ?_; clear hK K
     refine ⟨_, LeS.kx [(128, 128)] [(0, .sl 11 (us.map DtCall.cells)), (3, .arr 128 0 us.length), (4, (.g (.int .i64 (((i + 1) : Nat)))))] [(128, .own 11 (cpS [.g (.int .i64 0), .g (.int .i64 0), .g (.int .i64 0), .g (.int .i64 0), .g (.int .i64 0), .s [], .s [], .s [], .g (.int .i64 0), .g (.slice none 0 0), .s []] DtCall.cells us (i + 1)))] (by simp [KpR, renV2, renV, zbe, zbu, zbc, zbh, cpS_0, zpm]; try (first | rfl | (omega; done))) (by simp [KpOX, renO, plO, cvO, renV, pl1, zbc, zbh, zbe, cpS_0, zpm]; try (first | rfl | (rw [← cpS_set _ _ _ i (by omega)]; simp [DtCall.cells, DtCmd.cells]; done))) (by rfl) (by simp) (by simp) (by rfl) (by simp [formsX, List.range_succ, zbc, zbh]), _, ?_, i + 1, rfl, ?_, rfl⟩
     ·omega
     ·omega
  try simp at hc23
  refine zb5 ?_
  refine zbq ?_
  refine AW_x rfl rfl fun K hK => ?_
  simp (disch := omega) [zbk, gE, tP, DtCall.cells, DtCmd.cells, zhh, zb6, List.range_succ]
  repeat' first | (exfalso; omega) | (refine ⟨fun _ => ?_, fun _ => ?_⟩) | (refine ⟨by omega, ?_⟩) | (intro _)
  all_goals (refine hK _ ?_; clear hK K)
  all_goals
   refine zbo (zcb [128] [] (by simp [List.range_succ, zbc, zbh, zbe]) (by simp) ?_)
   simp (disch := omega) [zbk, gE, tP, DtCall.cells, DtCmd.cells, zhh, zb6, List.range_succ]
   all_goals (rw [cpS_n _ _ _ _ (by omega)])
end Go.Proofs.Ytmheohnbkaoipaa.Vs
