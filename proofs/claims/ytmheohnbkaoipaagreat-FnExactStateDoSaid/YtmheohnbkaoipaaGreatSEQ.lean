import Derived.Test.YtmheohnbkaoipaaGreatSIQ
import Derived.Test.YtmheohnbkaoipaaGreatSKQ
open Go Go.Proofs Go.Proofs.YtmheohnbkaoipaaGreat.Vs
namespace Go.Proofs.YtmheohnbkaoipaaGreat.Vs
set_option linter.all false
set_option linter.unusedSimpArgs false
set_option linter.unusedVariables false
set_option maxRecDepth 100000
def CatB (c : DtCatalog) : Prop := c.fSets.length ≤ 1048576 ∧ (∀ i (h : i < c.fSets.length), c.fSets[i].fSnaps.length ≤ 1048576) ∧ ∀ i (h : i < c.fSets.length) k (h2 : k < c.fSets[i].fSnaps.length), c.fSets[i].fSnaps[k].fChunks.length ≤ 1048576
theorem zpf (c : DtCatalog) (hs : DtCatalog.sz c ≤ 1048576) : CatB c := by
 have h0 := zb9 DtCSet.sz_nonneg c.fSets
 simp only [DtCatalog.sz, szS] at hs
 refine ⟨by omega, fun i h => ?_, fun i h k h2 => ?_⟩
 ·have h1 := zcn DtCSet.sz_nonneg c.fSets c.fSets[i] (List.getElem_mem _)
  have h2 := zb9 DtCSnap.sz_nonneg c.fSets[i].fSnaps
  simp only [DtCSet.sz, szS] at h1
  omega
 ·have h1 := zcn DtCSet.sz_nonneg c.fSets c.fSets[i] (List.getElem_mem _)
  have h3 := zcn DtCSnap.sz_nonneg c.fSets[i].fSnaps c.fSets[i].fSnaps[k] (List.getElem_mem _)
  have h4 := zb9 zce c.fSets[i].fSnaps[k].fChunks
  simp only [DtCSet.sz, szS] at h1
  simp only [DtCSnap.sz, szS] at h3
  omega
theorem zwx {α β : Type} (f : α → β) (l : List α) (i : Nat) (h : i < l.length) : List.take (i + 1) (l.map f) = List.take i (l.map f) ++ [f l[i]] := by
 rw [List.take_succ_eq_append_getElem (by simpa using h)]; simp
attribute [local simp] DtCatalog.cells DtCSet.cells DtCSnap.cells zbp
theorem zng (l : List (List UInt8)) (hl : l.length ≤ 1048576) : XCall Tryz.prog 83 [.sl 1 (l.map cS)] [] (.arr 16 0 l.length) [] [.own 1 (l.map cS)] := by
 refine zbx Tryz.func83 (by rfl) (by rfl) (by rw [Tryz.ntmps83]; exact Nat.le_of_ble_eq_true rfl) rfl (by simp) rfl rfl ?_
 rw [Tryz.ntmps83]
 refine zf1   ?_
 refine AW_k [(0, _)] ⟨rfl, trivial⟩ ?_
 refine AW_x rfl rfl fun K hK => ?_
 simp (disch := omega)
 repeat' first | (refine ⟨by omega, ?_⟩) | (intro _)
 refine hK _ ?_; clear hK K
 refine AW_x rfl rfl fun K hK => ?_
 simp (disch := omega)
 repeat' first | (refine ⟨by omega, ?_⟩) | (intro _)
 refine hK _ ?_; clear hK K
 refine zbo (zcc [80] [] (by simp [List.range_succ, zbc, zbj, zbe]) (by simp) ?_)
 simp (disch := omega)
 all_goals first | omega | trace_state
theorem zve (c : DtCatalog) (hb : CatB c) : XCall Tryz.prog 53 [.agg (DtCatalog.cells c)] [] (.agg [.arr 16 0 c.fSets.length]) [] [.own 2 (c.fSets.map DtCSet.cells)] := by
 obtain ⟨hb1, hb2, hb3⟩ := hb
 refine zbx Tryz.func53 (by rfl) (by rfl) (by rw [Tryz.ntmps53]; exact Nat.le_of_ble_eq_true rfl) rfl (by simp) rfl rfl ?_
 rw [Tryz.ntmps53]
 refine zf1   ?_
 refine AW_k [(0, _)] ⟨rfl, trivial⟩ ?_
 refine AW_x rfl rfl fun K hK => ?_
 simp (disch := omega)
 repeat' first | (refine ⟨by omega, ?_⟩) | (intro _)
 refine hK _ ?_; clear hK K
 refine AW_x rfl rfl fun K hK => ?_
 simp (disch := omega)
 repeat' first | (refine ⟨by omega, ?_⟩) | (simp (disch := omega)) | (intro _)
 refine hK _ ?_; clear hK K
 refine zbm ?_
 refine AW_x rfl rfl fun K hK => ?_
 simp (disch := omega)
 repeat' first | (refine ⟨by omega, ?_⟩) | (simp (disch := omega)) | (intro _)
 refine hK _ ?_; clear hK K
 refine zbt ?_
 refine zb5 (fun mM sS => ∃ (i : Nat), mM = c.fSets.length - i ∧ (i ≤ c.fSets.length) ∧ sS = { env := lkE [(2, .ptr 48 0), (3, .ptr 64 0), (11, .sl 2 (c.fSets.map DtCSet.cells)), (12, (.g (.int .i64 ((c.fSets.length : Nat))))), (13, (.g (.int .i64 ((i : Nat)))))], ob := lk [(48, .cells [.g (.slice none 0 0)]), (64, .cells [.arr 500 0 i]), (500, .own 2 ((c.fSets.take i).map DtCSet.cells))] }) ?_ ?_
 ·refine ⟨_, LeS.trans (LeS.znc (cs := [.g (.slice none 0 0)]) 500 2 64 0 (by simp [zbe, zbc, zbj, zbv]) (by simp [zbe, zbc, zbj, zbv, DtCatalog.cells, DtCSet.cells]) (by rfl)) (LeS.kx [(48, 48), (64, 64), (500, 500)] [(2, .ptr 48 0), (3, .ptr 64 0), (11, .sl 2 (c.fSets.map DtCSet.cells)), (12, (.g (.int .i64 ((c.fSets.length : Nat))))), (13, (.g (.int .i64 (((0) : Nat)))))] [(48, .cells [.g (.slice none 0 0)]), (64, .cells [.arr 500 0 (0)]), (500, .own 2 ((c.fSets.take (0)).map DtCSet.cells))] (by simp [KpR, renV2, renV, zbe, zbv, zbc, zbj, DtCatalog.cells, DtCSet.cells]; try rfl) (by simp [KpOX, renO, plO, cvO, renV, pl1, zbc, zbj, zbe, DtCatalog.cells, DtCSet.cells]; try (first | rfl | (rw [htk]; rfl))) (by rfl) (by simp) (by simp) (by rfl) (by simp [formsX, List.range_succ, zbc, zbj])), _, 0, rfl, ?_, rfl⟩
  ·simp
 ·rintro mM sS ⟨i, rfl, hi, rfl⟩
  refine AW_x rfl rfl fun K hK => ?_
  simp (disch := omega)
  repeat' first | (refine ⟨by omega, ?_⟩) | (intro _)
  refine hK _ ?_; clear hK K
  refine zbm ?_
  refine zbl rfl (fun hc1 => ?_) (fun hc1 => ?_)
  ·try simp at hc1
   all_goals
    have hn2 := hb2 i (by omega)
    have htk := zwx DtCSet.cells c.fSets i (by omega)
    refine zbn ?_
    refine zbq ?_
    refine zbm ?_
    refine zbt ?_
    refine AW_x rfl rfl fun K hK => ?_
    simp (disch := omega)
    repeat' first | (exfalso; omega) | (refine ⟨fun _ => ?_, fun _ => ?_⟩) | (refine ⟨by omega, ?_⟩) | (simp (disch := omega)) | (intro _)
    all_goals (refine hK _ ?_; clear hK K)
    all_goals
     refine AW_x rfl rfl fun K hK => ?_
     simp (disch := omega)
     repeat' first | (refine ⟨by omega, ?_⟩) | (simp (disch := omega)) | (intro _)
     refine hK _ ?_; clear hK K
     refine zbm ?_
     refine AW_x rfl rfl fun K hK => ?_
     simp (disch := omega)
     repeat' first | (refine ⟨by omega, ?_⟩) | (simp (disch := omega)) | (intro _)
     refine hK _ ?_; clear hK K
     refine zbt ?_
     refine zb5 (fun mM sS => ∃ (j : Nat), mM = c.fSets[i].fSnaps.length - j ∧ (j ≤ c.fSets[i].fSnaps.length) ∧ sS = { env := lkE [(2, .ptr 48 0), (3, .ptr 64 0), (6, .ptr 112 0), (11, .sl 2 (c.fSets.map DtCSet.cells)), (12, (.g (.int .i64 ((c.fSets.length : Nat))))), (13, (.g (.int .i64 ((i : Nat))))), (21, .sl 3 (c.fSets[i].fSnaps.map DtCSnap.cells)), (22, (.g (.int .i64 ((c.fSets[i].fSnaps.length : Nat))))), (23, (.g (.int .i64 ((j : Nat)))))], ob := lk [(48, .cells [.g (.slice none 0 0)]), (64, .cells [.arr 500 0 i]), (500, .own 2 ((c.fSets.take i).map DtCSet.cells)), (112, .cells [.s c.fSets[i].fName, .arr 501 0 j]), (501, .own 3 ((c.fSets[i].fSnaps.take j).map DtCSnap.cells))] }) ?_ ?_
     ·refine ⟨_, LeS.trans (LeS.znc (cs := [.s c.fSets[i].fName, .g (.slice none 0 0)]) 501 3 112 1 (by simp [zbe, zbc, zbj, zbv]) (by simp [zbe, zbc, zbj, zbv, DtCatalog.cells, DtCSet.cells, DtCSnap.cells]) (by rfl)) (LeS.kx [(48, 48), (64, 64), (500, 500), (112, 112), (501, 501)] [(2, .ptr 48 0), (3, .ptr 64 0), (6, .ptr 112 0), (11, .sl 2 (c.fSets.map DtCSet.cells)), (12, (.g (.int .i64 ((c.fSets.length : Nat))))), (13, (.g (.int .i64 ((i : Nat))))), (21, .sl 3 (c.fSets[i].fSnaps.map DtCSnap.cells)), (22, (.g (.int .i64 ((c.fSets[i].fSnaps.length : Nat))))), (23, (.g (.int .i64 (((0) : Nat)))))] [(48, .cells [.g (.slice none 0 0)]), (64, .cells [.arr 500 0 i]), (500, .own 2 ((c.fSets.take i).map DtCSet.cells)), (112, .cells [.s c.fSets[i].fName, .arr 501 0 (0)]), (501, .own 3 ((c.fSets[i].fSnaps.take (0)).map DtCSnap.cells))] (by simp [KpR, renV2, renV, zbe, zbv, zbc, zbj, DtCatalog.cells, DtCSet.cells, DtCSnap.cells]; try rfl) (by simp [KpOX, renO, plO, cvO, renV, pl1, zbc, zbj, zbe, DtCatalog.cells, DtCSet.cells, DtCSnap.cells]; try (first | rfl | (rw [htk2]; rfl))) (by rfl) (by simp) (by simp) (by rfl) (by simp [formsX, List.range_succ, zbc, zbj])), _, 0, rfl, ?_, rfl⟩
      ·simp
     ·rintro mM sS ⟨j, rfl, hj, rfl⟩
      refine AW_x rfl rfl fun K hK => ?_
      simp (disch := omega)
      repeat' first | (refine ⟨by omega, ?_⟩) | (intro _)
      refine hK _ ?_; clear hK K
      refine zbm ?_
      refine zbl rfl (fun hc2 => ?_) (fun hc2 => ?_)
      ·try simp at hc2
       all_goals
        have hn3 := hb3 i (by omega) j (by omega)
        have htk2 := zwx DtCSnap.cells c.fSets[i].fSnaps j (by omega)
        refine zbn ?_
        refine zbq ?_
        refine zbm ?_
        refine zbt ?_
        refine AW_x rfl rfl fun K hK => ?_
        simp (disch := omega)
        repeat' first | (exfalso; omega) | (refine ⟨fun _ => ?_, fun _ => ?_⟩) | (refine ⟨by omega, ?_⟩) | (simp (disch := omega)) | (intro _)
        all_goals (refine hK _ ?_; clear hK K)
        all_goals
         refine zz3 rfl mix (by kernel_rfl) (by kernel_rfl) fun K hK => ?_
         simp (disch := omega)
         repeat' first | (exfalso; omega) | (refine zhm [] true [] (zng (c.fSets[i].fSnaps[j].fChunks) (by omega)) ?_ (fun st' hst => ?_) ?_; (focus (simp [List.range_succ, nmC]; done)); (focus (simp (disch := omega) [nmC, List.range_succ] at hst; simp (disch := omega) [hst, zbp, nmC, List.range_succ]; done)); simp (disch := omega)) | (refine ⟨by omega, ?_⟩) | (simp (disch := omega)) | (intro _)
         refine hK _ _ (by kernel_rfl) ?_; clear hK K
         refine zbq ?_
         refine zcr rfl rfl fun K hK => ?_
         simp (disch := omega)
         repeat' first | (refine ⟨by omega, ?_⟩) | (intro _)
         refine hK _ ?_; clear hK K
         refine ⟨_, LeS.kx [(48, 48), (64, 64), (500, 500), (112, 112), (501, 624)] [(2, .ptr 48 0), (3, .ptr 64 0), (6, .ptr 112 0), (11, .sl 2 (c.fSets.map DtCSet.cells)), (12, (.g (.int .i64 ((c.fSets.length : Nat))))), (13, (.g (.int .i64 ((i : Nat))))), (21, .sl 3 (c.fSets[i].fSnaps.map DtCSnap.cells)), (22, (.g (.int .i64 ((c.fSets[i].fSnaps.length : Nat))))), (23, (.g (.int .i64 (((j + 1) : Nat)))))] [(48, .cells [.g (.slice none 0 0)]), (64, .cells [.arr 500 0 i]), (500, .own 2 ((c.fSets.take i).map DtCSet.cells)), (112, .cells [.s c.fSets[i].fName, .arr 501 0 (j + 1)]), (501, .own 3 ((c.fSets[i].fSnaps.take (j + 1)).map DtCSnap.cells))] (by simp [KpR, renV2, renV, zbe, zbv, zbc, zbj, DtCatalog.cells, DtCSet.cells, DtCSnap.cells]; try rfl) (by simp [KpOX, renO, plO, cvO, renV, pl1, zbc, zbj, zbe, DtCatalog.cells, DtCSet.cells, DtCSnap.cells]; try (first | rfl | (rw [htk2]; rfl))) (by rfl) (by simp) (by simp) (by rfl) (by simp [formsX, List.range_succ, zbc, zbj]), _, ?_, j + 1, rfl, ?_, rfl⟩
         ·omega
         ·omega
      try simp at hc2
      have hj2 : j = c.fSets[i].fSnaps.length := by omega
      subst hj2
      refine zb7 ?_
      refine zbq ?_
      refine zcr rfl rfl fun K hK => ?_
      simp (disch := omega)
      repeat' first | (exfalso; omega) | (refine ⟨fun _ => ?_, fun _ => ?_⟩) | (refine ⟨by omega, ?_⟩) | (simp (disch := omega)) | (intro _)
      all_goals (refine hK _ ?_; clear hK K)
      all_goals
       refine zbq ?_
       refine zcr rfl rfl fun K hK => ?_
       simp (disch := omega)
       repeat' first | (refine ⟨by omega, ?_⟩) | (intro _)
       refine hK _ ?_; clear hK K
       refine ⟨_, LeS.kx [(48, 48), (64, 64), (500, 736)] [(2, .ptr 48 0), (3, .ptr 64 0), (11, .sl 2 (c.fSets.map DtCSet.cells)), (12, (.g (.int .i64 ((c.fSets.length : Nat))))), (13, (.g (.int .i64 (((i + 1) : Nat)))))] [(48, .cells [.g (.slice none 0 0)]), (64, .cells [.arr 500 0 (i + 1)]), (500, .own 2 ((c.fSets.take (i + 1)).map DtCSet.cells))] (by simp [KpR, renV2, renV, zbe, zbv, zbc, zbj, DtCatalog.cells, DtCSet.cells]; try rfl) (by simp [KpOX, renO, plO, cvO, renV, pl1, zbc, zbj, zbe, DtCatalog.cells, DtCSet.cells]; try (first | rfl | (rw [htk]; rfl))) (by rfl) (by simp) (by simp) (by rfl) (by simp [formsX, List.range_succ, zbc, zbj]), _, ?_, i + 1, rfl, ?_, rfl⟩
       ·omega
       ·omega
  try simp at hc1
  refine zb7 ?_
  refine zbq ?_
  refine AW_x rfl rfl fun K hK => ?_
  simp (disch := omega)
  repeat' first | (exfalso; omega) | (refine ⟨fun _ => ?_, fun _ => ?_⟩) | (refine ⟨by omega, ?_⟩) | (simp (disch := omega)) | (intro _)
  all_goals (refine hK _ ?_; clear hK K)
  all_goals
   refine zbo (zcc [500] [] (by simp [List.range_succ, zbc, zbj, zbe]) (by simp) ?_)
   simp (disch := omega)
   all_goals first | omega | trace_state
theorem zvf (c : DtCatalog) (hb : CatB c) : XCall Tryz.prog 45 [.agg (DtCatalog.cells c)] [] (.agg [.arr 16 0 c.fSets.length]) [] [.own 2 (c.fSets.map DtCSet.cells)] := by
 obtain ⟨hb1, hb2, hb3⟩ := hb
 refine zbx Tryz.func45 (by rfl) (by rfl) (by rw [Tryz.ntmps45]; exact Nat.le_of_ble_eq_true rfl) rfl (by simp) rfl rfl ?_
 rw [Tryz.ntmps45]
 refine zf1   ?_
 refine AW_k [(0, _)] ⟨rfl, trivial⟩ ?_
 refine AW_x rfl rfl fun K hK => ?_
 simp (disch := omega)
 repeat' first | (refine ⟨by omega, ?_⟩) | (intro _)
 refine hK _ ?_; clear hK K
 refine AW_x rfl rfl fun K hK => ?_
 simp (disch := omega)
 repeat' first | (refine ⟨by omega, ?_⟩) | (simp (disch := omega)) | (intro _)
 refine hK _ ?_; clear hK K
 refine zbm ?_
 refine AW_x rfl rfl fun K hK => ?_
 simp (disch := omega)
 repeat' first | (refine ⟨by omega, ?_⟩) | (intro _)
 refine hK _ ?_; clear hK K
 refine zbt ?_
 refine zb5 (fun mM sS => ∃ (i : Nat), mM = c.fSets.length - i ∧ (i ≤ c.fSets.length) ∧ sS = { env := lkE [(1, .ptr 32 0), (2, .ptr 48 0), (3, .ptr 64 0), (4, (.g (.int .i64 ((i : Nat)))))], ob := lk [(32, .cells (DtCatalog.cells c)), (48, .cells [.g (.slice none 0 0)]), (64, .cells [.arr 500 0 i]), (500, .own 2 ((c.fSets.take i).map DtCSet.cells))] }) ?_ ?_
 ·refine ⟨_, LeS.trans (LeS.znc (cs := [.g (.slice none 0 0)]) 500 2 64 0 (by simp [zbe, zbc, zbj, zbv]) (by simp [zbe, zbc, zbj, zbv, DtCatalog.cells, DtCSet.cells]) (by rfl)) (LeS.kx [(32, 32), (48, 48), (64, 64), (500, 500)] [(1, .ptr 32 0), (2, .ptr 48 0), (3, .ptr 64 0), (4, (.g (.int .i64 (((0) : Nat)))))] [(32, .cells (DtCatalog.cells c)), (48, .cells [.g (.slice none 0 0)]), (64, .cells [.arr 500 0 (0)]), (500, .own 2 ((c.fSets.take (0)).map DtCSet.cells))] (by simp [KpR, renV2, renV, zbe, zbv, zbc, zbj, DtCatalog.cells, DtCSet.cells]; try rfl) (by simp [KpOX, renO, plO, cvO, renV, pl1, zbc, zbj, zbe, DtCatalog.cells, DtCSet.cells]; try (first | rfl | (rw [htk]; rfl))) (by rfl) (by simp) (by simp) (by rfl) (by simp [formsX, List.range_succ, zbc, zbj])), _, 0, rfl, ?_, rfl⟩
  ·simp
 ·rintro mM sS ⟨i, rfl, hi, rfl⟩
  refine zbm ?_
  refine AW_x rfl rfl fun K hK => ?_
  simp (disch := omega)
  repeat' first | (refine ⟨by omega, ?_⟩) | (simp (disch := omega)) | (intro _)
  refine hK _ ?_; clear hK K
  refine zbl rfl (fun hc3 => ?_) (fun hc3 => ?_)
  ·try simp at hc3
   all_goals
    have hn2 := hb2 i (by omega)
    have htk := zwx DtCSet.cells c.fSets i (by omega)
    refine zbn ?_
    refine zbq ?_
    refine zbm ?_
    refine zbt ?_
    refine AW_x rfl rfl fun K hK => ?_
    simp (disch := omega)
    repeat' first | (exfalso; omega) | (refine ⟨fun _ => ?_, fun _ => ?_⟩) | (refine ⟨by omega, ?_⟩) | (simp (disch := omega)) | (intro _)
    all_goals (refine hK _ ?_; clear hK K)
    all_goals
     refine zbm ?_
     refine AW_x rfl rfl fun K hK => ?_
     simp (disch := omega)
     repeat' first | (refine ⟨by omega, ?_⟩) | (intro _)
     refine hK _ ?_; clear hK K
     refine zbt ?_
     refine zb5 (fun mM sS => ∃ (j : Nat), mM = c.fSets[i].fSnaps.length - j ∧ (j ≤ c.fSets[i].fSnaps.length) ∧ sS = { env := lkE [(1, .ptr 32 0), (2, .ptr 48 0), (3, .ptr 64 0), (4, (.g (.int .i64 ((i : Nat))))), (5, .ptr 96 0), (6, (.g (.int .i64 ((j : Nat)))))], ob := lk [(32, .cells (DtCatalog.cells c)), (48, .cells [.g (.slice none 0 0)]), (64, .cells [.arr 500 0 i]), (500, .own 2 ((c.fSets.take i).map DtCSet.cells)), (96, .cells [.s c.fSets[i].fName, .arr 501 0 j]), (501, .own 3 ((c.fSets[i].fSnaps.take j).map DtCSnap.cells))] }) ?_ ?_
     ·refine ⟨_, LeS.trans (LeS.znc (cs := [.s c.fSets[i].fName, .g (.slice none 0 0)]) 501 3 96 1 (by simp [zbe, zbc, zbj, zbv]) (by simp [zbe, zbc, zbj, zbv, DtCatalog.cells, DtCSet.cells, DtCSnap.cells]) (by rfl)) (LeS.kx [(32, 32), (48, 48), (64, 64), (500, 500), (96, 96), (501, 501)] [(1, .ptr 32 0), (2, .ptr 48 0), (3, .ptr 64 0), (4, (.g (.int .i64 ((i : Nat))))), (5, .ptr 96 0), (6, (.g (.int .i64 (((0) : Nat)))))] [(32, .cells (DtCatalog.cells c)), (48, .cells [.g (.slice none 0 0)]), (64, .cells [.arr 500 0 i]), (500, .own 2 ((c.fSets.take i).map DtCSet.cells)), (96, .cells [.s c.fSets[i].fName, .arr 501 0 (0)]), (501, .own 3 ((c.fSets[i].fSnaps.take (0)).map DtCSnap.cells))] (by simp [KpR, renV2, renV, zbe, zbv, zbc, zbj, DtCatalog.cells, DtCSet.cells, DtCSnap.cells]; try rfl) (by simp [KpOX, renO, plO, cvO, renV, pl1, zbc, zbj, zbe, DtCatalog.cells, DtCSet.cells, DtCSnap.cells]; try (first | rfl | (rw [htk2]; rfl))) (by rfl) (by simp) (by simp) (by rfl) (by simp [formsX, List.range_succ, zbc, zbj])), _, 0, rfl, ?_, rfl⟩
      ·simp
     ·rintro mM sS ⟨j, rfl, hj, rfl⟩
      refine zbm ?_
      refine AW_x rfl rfl fun K hK => ?_
      simp (disch := omega)
      repeat' first | (refine ⟨by omega, ?_⟩) | (simp (disch := omega)) | (intro _)
      refine hK _ ?_; clear hK K
      refine zbl rfl (fun hc4 => ?_) (fun hc4 => ?_)
      ·try simp at hc4
       all_goals
        have hn3 := hb3 i (by omega) j (by omega)
        have htk2 := zwx DtCSnap.cells c.fSets[i].fSnaps j (by omega)
        refine zbn ?_
        refine zbq ?_
        refine zbm ?_
        refine zbt ?_
        refine AW_x rfl rfl fun K hK => ?_
        simp (disch := omega)
        repeat' first | (exfalso; omega) | (refine ⟨fun _ => ?_, fun _ => ?_⟩) | (refine ⟨by omega, ?_⟩) | (simp (disch := omega)) | (intro _)
        all_goals (refine hK _ ?_; clear hK K)
        all_goals
         refine AW_x rfl rfl fun K hK => ?_
         simp (disch := omega)
         repeat' first | (refine ⟨by omega, ?_⟩) | (simp (disch := omega)) | (intro _)
         refine hK _ ?_; clear hK K
         refine zcr rfl rfl fun K hK => ?_
         simp (disch := omega)
         repeat' first | (refine ⟨by omega, ?_⟩) | (simp (disch := omega)) | (intro _)
         refine hK _ ?_; clear hK K
         refine zbq ?_
         refine zcr rfl rfl fun K hK => ?_
         simp (disch := omega)
         repeat' first | (refine ⟨by omega, ?_⟩) | (intro _)
         refine hK _ ?_; clear hK K
         refine ⟨_, LeS.kx [(32, 32), (48, 48), (64, 64), (500, 500), (96, 96), (501, 848)] [(1, .ptr 32 0), (2, .ptr 48 0), (3, .ptr 64 0), (4, (.g (.int .i64 ((i : Nat))))), (5, .ptr 96 0), (6, (.g (.int .i64 (((j + 1) : Nat)))))] [(32, .cells (DtCatalog.cells c)), (48, .cells [.g (.slice none 0 0)]), (64, .cells [.arr 500 0 i]), (500, .own 2 ((c.fSets.take i).map DtCSet.cells)), (96, .cells [.s c.fSets[i].fName, .arr 501 0 (j + 1)]), (501, .own 3 ((c.fSets[i].fSnaps.take (j + 1)).map DtCSnap.cells))] (by simp [KpR, renV2, renV, zbe, zbv, zbc, zbj, DtCatalog.cells, DtCSet.cells, DtCSnap.cells]; try rfl) (by simp [KpOX, renO, plO, cvO, renV, pl1, zbc, zbj, zbe, DtCatalog.cells, DtCSet.cells, DtCSnap.cells]; try (first | rfl | (rw [htk2]; rfl))) (by rfl) (by simp) (by simp) (by rfl) (by simp [formsX, List.range_succ, zbc, zbj]), _, ?_, j + 1, rfl, ?_, rfl⟩
         ·omega
         ·omega
      try simp at hc4
      have hj2 : j = c.fSets[i].fSnaps.length := by omega
      subst hj2
      refine zb7 ?_
      refine zbq ?_
      refine zcr rfl rfl fun K hK => ?_
      simp (disch := omega)
      repeat' first | (exfalso; omega) | (refine ⟨fun _ => ?_, fun _ => ?_⟩) | (refine ⟨by omega, ?_⟩) | (simp (disch := omega)) | (intro _)
      all_goals (refine hK _ ?_; clear hK K)
      all_goals
       refine zbq ?_
       refine zcr rfl rfl fun K hK => ?_
       simp (disch := omega)
       repeat' first | (refine ⟨by omega, ?_⟩) | (intro _)
       refine hK _ ?_; clear hK K
       refine ⟨_, LeS.kx [(32, 32), (48, 48), (64, 64), (500, 944)] [(1, .ptr 32 0), (2, .ptr 48 0), (3, .ptr 64 0), (4, (.g (.int .i64 (((i + 1) : Nat)))))] [(32, .cells (DtCatalog.cells c)), (48, .cells [.g (.slice none 0 0)]), (64, .cells [.arr 500 0 (i + 1)]), (500, .own 2 ((c.fSets.take (i + 1)).map DtCSet.cells))] (by simp [KpR, renV2, renV, zbe, zbv, zbc, zbj, DtCatalog.cells, DtCSet.cells]; try rfl) (by simp [KpOX, renO, plO, cvO, renV, pl1, zbc, zbj, zbe, DtCatalog.cells, DtCSet.cells]; try (first | rfl | (rw [htk]; rfl))) (by rfl) (by simp) (by simp) (by rfl) (by simp [formsX, List.range_succ, zbc, zbj]), _, ?_, i + 1, rfl, ?_, rfl⟩
       ·omega
       ·omega
  try simp at hc3
  refine zb7 ?_
  refine zbq ?_
  refine AW_x rfl rfl fun K hK => ?_
  simp (disch := omega)
  repeat' first | (exfalso; omega) | (refine ⟨fun _ => ?_, fun _ => ?_⟩) | (refine ⟨by omega, ?_⟩) | (simp (disch := omega)) | (intro _)
  all_goals (refine hK _ ?_; clear hK K)
  all_goals
   refine zbo (zcc [500] [] (by simp [List.range_succ, zbc, zbj, zbe]) (by simp) ?_)
   simp (disch := omega)
   all_goals first | omega | trace_state
end Go.Proofs.YtmheohnbkaoipaaGreat.Vs
