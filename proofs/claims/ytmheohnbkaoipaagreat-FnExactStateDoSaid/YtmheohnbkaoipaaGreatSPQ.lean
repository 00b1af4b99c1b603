import Derived.Test.YtmheohnbkaoipaaGreatSWQ
open Go Go.Proofs Go.Proofs.YtmheohnbkaoipaaGreat.Vs
namespace Go.Proofs.YtmheohnbkaoipaaGreat.Vs
set_option linter.all false
set_option linter.unusedSimpArgs false
set_option linter.unusedVariables false
set_option maxRecDepth 100000
def SnapP (p : DtCSnap) : Prop := Word p.fName ∧ (p.fTag = [] ∨ Word p.fTag) ∧ 1 ≤ p.fChunks.length ∧ p.fChunks.length ≤ 4 ∧ ∀ (j : Nat) c, p.fChunks[j]? = some c → c.length = 8
noncomputable def findN (l : List DtCSnap) (name : List UInt8) : Int := idxZ (fun p => eqB p.fName name) l
def SetP (s : DtCSet) : Prop := Word s.fName ∧ s.fSnaps.length ≤ 5 ∧ ∀ (k : Nat) p, s.fSnaps[k]? = some p → SnapP p ∧ findN s.fSnaps p.fName = k
def CatP (c : DtCatalog) : Prop := c.fSets.length ≤ 5 ∧ ∀ (i : Nat) s, c.fSets[i]? = some s → SetP s ∧ ∀ t, 0 < i → c.fSets[i - 1]? = some t → Op.bytesLess t.fName s.fName = true
theorem l15Snap (p : DtCSnap) : PCall Tryz.prog 76 [.agg (DtCSnap.cells p)] (.g (.bool (decB (SnapP p)))) := by
 refine zbu Tryz.func76 (by rfl) (by rfl) (by rw [Tryz.ntmps76]; exact Nat.le_of_ble_eq_true rfl) rfl (by decide) ?_
 rw [Tryz.ntmps76]
 refine AW_k [(0, _)] ⟨rfl, trivial⟩ ?_
 refine AW_r rfl rfl fun K hK => ?_
 simp (disch := omega) [zbi, gE, tP, DtCSnap.cells, zba, zbb]
 repeat' first | (refine ⟨by omega, ?_⟩) | (intro _)
 refine hK _ ?_; clear hK K
 refine zbm ?_
 refine AW_r rfl rfl fun K hK => ?_
 simp (disch := omega) [zbi, gE, tP, DtCSnap.cells, zba, zbb]
 repeat' first | (exfalso; omega) | (refine zcx (zbh zgv zbs) (l4Word _) rfl ?_; simp (disch := omega) [zbi, gE, tP, DtCSnap.cells, zba, zbb]) | (refine zcx (zbh zcp (zbh zcp (zbh zcp zbs))) (l1In _ _ _) rfl ?_; simp (disch := omega) [zbi, gE, tP, DtCSnap.cells, zba, zbb]) | (refine ⟨fun _ => ?_, fun _ => ?_⟩) | (refine ⟨by omega, ?_⟩) | (intro _)
 all_goals (refine hK _ ?_; clear hK K)
 all_goals
  refine zbl rfl (fun hc1 => ?_) (fun hc1 => ?_)
  ·try simp at hc1
   all_goals
    refine AW_r rfl rfl fun K hK => ?_
    simp (disch := omega) [zbi, gE, tP, DtCSnap.cells, zba, zbb]
    repeat' first | (exfalso; omega) | (refine ⟨fun _ => ?_, fun _ => ?_⟩) | (refine ⟨by omega, ?_⟩) | (intro _)
    all_goals (refine hK _ ?_; clear hK K)
    all_goals
     refine zbo (zb4 ?_)
     simp (disch := omega) [zbi, gE, tP, DtCSnap.cells, zba, zbb]
     all_goals first | grind [SnapP] | (refine zdp fun h => ?_; grind [SnapP]) | (refine zck ?_; grind [SnapP])
  ·try simp at hc1
   all_goals
    refine zbn ?_
    refine zbq ?_
    refine zbm ?_
    refine AW_r rfl rfl fun K hK => ?_
    simp (disch := omega) [zbi, gE, tP, DtCSnap.cells, zba, zbb]
    repeat' first | (exfalso; omega) | (refine ⟨fun _ => ?_, fun _ => ?_⟩) | (refine ⟨by omega, ?_⟩) | (intro _)
    all_goals (refine hK _ ?_; clear hK K)
    all_goals
     refine zbt ?_
     refine zb5 (fun mM sS => ∃ (i : Nat), mM = p.fChunks.length - i ∧ (i ≤ p.fChunks.length ∧ ∀ j c, j < i → p.fChunks[j]? = some c → c.length = 8) ∧ sS = { env := lkE [(1, .ptr 32 0), (3, (.g (.int .i64 ((i : Nat)))))], ob := upd (formOb [] []) 32 (some (.cells (DtCSnap.cells p))) }) ?_ ?_
     ·refine ⟨_, LeS.kp [(1, .ptr 32 0), (3, (.g (.int .i64 (((0) : Nat)))))] (by simp [KpE, zbe, zbv, zbc]; try rfl), _, 0, rfl, ?_, rfl⟩
      ·simp
     ·rintro mM sS ⟨i, rfl, ⟨hi, hpre⟩, rfl⟩
      refine zbm ?_
      refine AW_r rfl rfl fun K hK => ?_
      simp (disch := omega) [zbi, gE, tP, DtCSnap.cells, zba, zbb, cS]
      repeat' first | (refine ⟨by omega, ?_⟩) | (intro _)
      refine hK _ ?_; clear hK K
      refine zbl rfl (fun hc2 => ?_) (fun hc2 => ?_)
      ·try simp at hc2
       all_goals
        have hg : p.fChunks[i]? = some p.fChunks[i] := List.getElem?_eq_getElem (by omega)
        refine zbn ?_
        refine zbq ?_
        refine zbm ?_
        refine zbt ?_
        refine AW_r rfl rfl fun K hK => ?_
        simp (disch := omega) [zbi, gE, tP, DtCSnap.cells, zba, zbb, cS]
        repeat' first | (exfalso; omega) | (refine ⟨fun _ => ?_, fun _ => ?_⟩) | (refine ⟨by omega, ?_⟩) | (intro _)
        all_goals (refine hK _ ?_; clear hK K)
        all_goals
         refine zbl rfl (fun hc3 => ?_) (fun hc3 => ?_)
         ·try simp at hc3
          all_goals
           refine AW_r rfl rfl fun K hK => ?_
           simp (disch := omega) [zbi, gE, tP, DtCSnap.cells, zba, zbb, cS]
           repeat' first | (exfalso; omega) | (refine ⟨fun _ => ?_, fun _ => ?_⟩) | (refine ⟨by omega, ?_⟩) | (intro _)
           all_goals (refine hK _ ?_; clear hK K)
           all_goals
            refine zbo (zb4 ?_)
            simp (disch := omega) [zbi, gE, tP, DtCSnap.cells, zba, zbb, cS]
            all_goals first | grind [SnapP] | (refine zdp fun h => ?_; grind [SnapP]) | (refine zck ?_; grind [SnapP])
         ·try simp at hc3
          all_goals
           refine zbn ?_
           refine zbq ?_
           refine zc6 rfl rfl fun K hK => ?_
           simp (disch := omega) [zbi, gE, tP, DtCSnap.cells, zba, zbb, cS]
           repeat' first | (exfalso; omega) | (refine ⟨fun _ => ?_, fun _ => ?_⟩) | (refine ⟨by omega, ?_⟩) | (intro _)
           all_goals (refine hK _ ?_; clear hK K)
           all_goals
            refine ⟨_, LeS.kp [(1, .ptr 32 0), (3, (.g (.int .i64 (((i + 1) : Nat)))))] (by simp [KpE, zbe, zbv, zbc]; try rfl), _, ?_, i + 1, rfl, ?_, rfl⟩
            ·omega
            ·refine ⟨by omega, ?_⟩; grind
      ·try simp at hc2
       all_goals
        refine zb7 ?_
        refine zbq ?_
        refine AW_r rfl rfl fun K hK => ?_
        simp (disch := omega) [zbi, gE, tP, DtCSnap.cells, zba, zbb, cS]
        repeat' first | (exfalso; omega) | (refine ⟨fun _ => ?_, fun _ => ?_⟩) | (refine ⟨by omega, ?_⟩) | (intro _)
        all_goals (refine hK _ ?_; clear hK K)
        all_goals
         refine zbo (zb4 ?_)
         simp (disch := omega) [zbi, gE, tP, DtCSnap.cells, zba, zbb, cS]
         all_goals first | grind [SnapP] | (refine zdp fun h => ?_; grind [SnapP]) | (refine zck ?_; grind [SnapP])
theorem zs7 (s : DtCSet) (name : List UInt8) (hs : s.fSnaps.length ≤ 1048576) : PCall Tryz.prog 77 [.agg (DtCSet.cells s), .s name] (.g (.int .i64 (findN s.fSnaps name))) := by
 refine zbu Tryz.func77 (by rfl) (by rfl) (by rw [Tryz.ntmps77]; exact Nat.le_of_ble_eq_true rfl) rfl (by decide) ?_
 rw [Tryz.ntmps77]
 refine AW_k [(0, _), (1, _)] ⟨rfl, rfl, trivial⟩ ?_
 refine AW_r rfl rfl fun K hK => ?_
 simp (disch := omega) [zbi, gE, tP, DtCSet.cells]
 repeat' first | (refine ⟨by omega, ?_⟩) | (intro _)
 refine hK _ ?_; clear hK K
 refine zbm ?_
 refine AW_r rfl rfl fun K hK => ?_
 simp (disch := omega) [zbi, gE, tP, DtCSet.cells]
 repeat' first | (refine ⟨by omega, ?_⟩) | (intro _)
 refine hK _ ?_; clear hK K
 refine zbt ?_
 refine zb5 (fun mM sS => ∃ (i : Nat), mM = s.fSnaps.length - i ∧ (i ≤ s.fSnaps.length ∧ ∀ j x, j < i → s.fSnaps[j]? = some x → eqB x.fName name = false) ∧ sS = { env := lkE [(1, .s name), (2, .ptr 48 0), (5, (.g (.int .i64 ((i : Nat)))))], ob := upd (formOb [] []) 48 (some (.cells (DtCSet.cells s))) }) ?_ ?_
 ·refine ⟨_, LeS.kp [(1, .s name), (2, .ptr 48 0), (5, (.g (.int .i64 (((0) : Nat)))))] (by simp [KpE, zbe, zbv, zbc]; try rfl), _, 0, rfl, ?_, rfl⟩
  ·simp
 ·rintro mM sS ⟨i, rfl, ⟨hi, hpre⟩, rfl⟩
  refine zbm ?_
  refine AW_r rfl rfl fun K hK => ?_
  simp (disch := omega) [zbi, gE, tP, DtCSet.cells, DtCSnap.cells]
  repeat' first | (refine ⟨by omega, ?_⟩) | (intro _)
  refine hK _ ?_; clear hK K
  refine zbl rfl (fun hc4 => ?_) (fun hc4 => ?_)
  ·try simp at hc4
   all_goals
    have hg : s.fSnaps[i]? = some s.fSnaps[i] := List.getElem?_eq_getElem (by omega)
    refine zbn ?_
    refine zbq ?_
    refine zbm ?_
    refine zbt ?_
    refine AW_r rfl rfl fun K hK => ?_
    simp (disch := omega) [zbi, gE, tP, DtCSet.cells, DtCSnap.cells]
    repeat' first | (exfalso; omega) | (refine ⟨fun _ => ?_, fun _ => ?_⟩) | (refine ⟨by omega, ?_⟩) | (intro _)
    all_goals (refine hK _ ?_; clear hK K)
    all_goals
     refine zbl rfl (fun hc5 => ?_) (fun hc5 => ?_)
     ·try simp at hc5
      all_goals
       refine AW_r rfl rfl fun K hK => ?_
       simp (disch := omega) [zbi, gE, tP, DtCSet.cells, DtCSnap.cells]
       repeat' first | (exfalso; omega) | (refine ⟨fun _ => ?_, fun _ => ?_⟩) | (refine ⟨by omega, ?_⟩) | (intro _)
       all_goals (refine hK _ ?_; clear hK K)
       all_goals
        refine zbo (zb4 ?_)
        simp (disch := omega) [zbi, gE, tP, DtCSet.cells, DtCSnap.cells]
        all_goals first | (unfold findN; rw [zc1 (by assumption) (by simp_all [zbf]) hpre]; done) | (unfold findN; exact (zc1 (by assumption) (by simp_all [zbf]) hpre)) | (unfold findN; exact zdv (fun j x h => hpre j x (by omega)))
     ·try simp at hc5
      all_goals
       refine zbn ?_
       refine zbq ?_
       refine zc6 rfl rfl fun K hK => ?_
       simp (disch := omega) [zbi, gE, tP, DtCSet.cells, DtCSnap.cells]
       repeat' first | (exfalso; omega) | (refine ⟨fun _ => ?_, fun _ => ?_⟩) | (refine ⟨by omega, ?_⟩) | (intro _)
       all_goals (refine hK _ ?_; clear hK K)
       all_goals
        refine ⟨_, LeS.kp [(1, .s name), (2, .ptr 48 0), (5, (.g (.int .i64 (((i + 1) : Nat)))))] (by simp [KpE, zbe, zbv, zbc]; try rfl), _, ?_, i + 1, rfl, ?_, rfl⟩
        ·omega
        ·refine ⟨by omega, ?_⟩; grind [zbd]
  ·try simp at hc4
   all_goals
    refine zb7 ?_
    refine zbq ?_
    refine AW_r rfl rfl fun K hK => ?_
    simp (disch := omega) [zbi, gE, tP, DtCSet.cells, DtCSnap.cells]
    repeat' first | (exfalso; omega) | (refine ⟨fun _ => ?_, fun _ => ?_⟩) | (refine ⟨by omega, ?_⟩) | (intro _)
    all_goals (refine hK _ ?_; clear hK K)
    all_goals
     refine zbo (zb4 ?_)
     simp (disch := omega) [zbi, gE, tP, DtCSet.cells, DtCSnap.cells]
     all_goals first | (unfold findN; rw [zc1 (by assumption) (by simp_all [zbf]) hpre]; done) | (unfold findN; exact (zc1 (by assumption) (by simp_all [zbf]) hpre)) | (unfold findN; exact zdv (fun j x h => hpre j x (by omega)))
theorem zlz (c : DtCatalog) (hs : DtCatalog.sz c ≤ 1048576) : PCall Tryz.prog 43 [.agg (DtCatalog.cells c)] (.g (.bool (decB (CatP c)))) := by
 have hl : c.fSets.length ≤ 1048576 := by have := zb9 DtCSet.sz_nonneg c.fSets; simp only [DtCatalog.sz, szS] at hs; omega
 have hl2 : ∀ i (h : i < c.fSets.length), c.fSets[i].fSnaps.length ≤ 1048576 := by
  intro i h
  have h1 := zcn DtCSet.sz_nonneg c.fSets c.fSets[i] (List.getElem_mem _)
  have h2 := zb9 DtCSnap.sz_nonneg c.fSets[i].fSnaps
  simp only [DtCatalog.sz, szS] at hs
  simp only [DtCSet.sz, szS] at h1
  omega
 refine zbu Tryz.func43 (by rfl) (by rfl) (by rw [Tryz.ntmps43]; exact Nat.le_of_ble_eq_true rfl) rfl (by decide) ?_
 rw [Tryz.ntmps43]
 refine AW_k [(0, _)] ⟨rfl, trivial⟩ ?_
 refine AW_r rfl rfl fun K hK => ?_
 simp (disch := omega) [zbi, gE, tP, DtCatalog.cells, DtCSet.cells, DtCSnap.cells, zba, zbb]
 repeat' first | (refine ⟨by omega, ?_⟩) | (intro _)
 refine hK _ ?_; clear hK K
 refine zbm ?_
 refine AW_r rfl rfl fun K hK => ?_
 simp (disch := omega) [zbi, gE, tP, DtCatalog.cells, DtCSet.cells, DtCSnap.cells, zba, zbb]
 repeat' first | (refine ⟨by omega, ?_⟩) | (intro _)
 refine hK _ ?_; clear hK K
 refine zbl rfl (fun hc6 => ?_) (fun hc6 => ?_)
 ·try simp at hc6
  all_goals
   refine AW_r rfl rfl fun K hK => ?_
   simp (disch := omega) [zbi, gE, tP, DtCatalog.cells, DtCSet.cells, DtCSnap.cells, zba, zbb]
   repeat' first | (exfalso; omega) | (refine ⟨fun _ => ?_, fun _ => ?_⟩) | (refine ⟨by omega, ?_⟩) | (intro _)
   all_goals (refine hK _ ?_; clear hK K)
   all_goals
    refine zbo (zb4 ?_)
    simp (disch := omega) [zbi, gE, tP, DtCatalog.cells, DtCSet.cells, DtCSnap.cells, zba, zbb]
    all_goals first | grind [CatP, SetP] | (refine zdp fun h => ?_; grind [CatP, SetP]) | (refine zck ?_; grind [CatP, SetP])
 ·try simp at hc6
  all_goals
   refine zbn ?_
   refine zbq ?_
   refine zbm ?_
   refine AW_r rfl rfl fun K hK => ?_
   simp (disch := omega) [zbi, gE, tP, DtCatalog.cells, DtCSet.cells, DtCSnap.cells, zba, zbb]
   repeat' first | (exfalso; omega) | (refine ⟨fun _ => ?_, fun _ => ?_⟩) | (refine ⟨by omega, ?_⟩) | (intro _)
   all_goals (refine hK _ ?_; clear hK K)
   all_goals
    refine zbt ?_
    refine zb5 (fun mM sS => ∃ (i : Nat), mM = c.fSets.length - i ∧ (i ≤ c.fSets.length ∧ ∀ j s, j < i → c.fSets[j]? = some s → SetP s ∧ ∀ t, 0 < j → c.fSets[j - 1]? = some t → Op.bytesLess t.fName s.fName = true) ∧ sS = { env := lkE [(1, .ptr 32 0), (3, (.g (.int .i64 ((i : Nat)))))], ob := lk [(32, .cells (DtCatalog.cells c))] }) ?_ ?_
    ·refine ⟨_, LeS.ko [(1, .ptr 32 0), (3, (.g (.int .i64 (((0) : Nat)))))] [(32, .cells (DtCatalog.cells c))] (by simp [KpE, zbe, zbv, zbc, DtCatalog.cells, DtCSet.cells]; try rfl) (by simp [KpO, zbe, zbc, zbj, zcl, DtCatalog.cells, DtCSet.cells]; try rfl) (by rfl) (by simp) (by rfl), _, 0, rfl, ?_, rfl⟩
     ·simp
    ·rintro mM sS ⟨i, rfl, ⟨hi, hpre⟩, rfl⟩
     refine zbm ?_
     refine AW_r rfl rfl fun K hK => ?_
     simp (disch := omega) [zbi, gE, tP, DtCatalog.cells, DtCSet.cells, DtCSnap.cells, zba, zbb]
     repeat' first | (refine ⟨by omega, ?_⟩) | (intro _)
     refine hK _ ?_; clear hK K
     refine zbl rfl (fun hc7 => ?_) (fun hc7 => ?_)
     ·try simp at hc7
      all_goals
       have hg : c.fSets[i]? = some (c.fSets[i]) := List.getElem?_eq_getElem (by omega)
       have hg' : c.fSets[i - 1]? = some (c.fSets[i - 1]) := List.getElem?_eq_getElem (by omega)
       have hl2' := hl2 i (by omega)
       rcases Nat.eq_zero_or_pos i with hi0 | hi0
       all_goals
        refine zbn ?_
        refine zbq ?_
        refine zbm ?_
        refine zbt ?_
        refine AW_r rfl rfl fun K hK => ?_
        simp (disch := omega) [zbi, gE, tP, DtCatalog.cells, DtCSet.cells, DtCSnap.cells, zba, zbb]
        repeat' first | (exfalso; omega) | (refine ⟨fun _ => ?_, fun _ => ?_⟩) | (refine ⟨by omega, ?_⟩) | (intro _)
        all_goals (refine hK _ ?_; clear hK K)
        all_goals
         refine zbm ?_
         refine AW_q rfl mix (by kernel_rfl) rfl fun K hK => ?_
         simp (disch := omega) [zbi, gE, tP, DtCatalog.cells, DtCSet.cells, DtCSnap.cells, zba, zbb]
         repeat' first | (exfalso; omega) | (refine zcx (zbh zgv zbs) (l4Word _) rfl ?_; simp (disch := omega) [zbi, gE, tP, DtCatalog.cells, DtCSet.cells, DtCSnap.cells, zba, zbb]) | (refine ⟨fun _ => ?_, fun _ => ?_⟩) | (refine ⟨by omega, ?_⟩) | (intro _)
         all_goals (refine hK _ ?_; clear hK K)
         all_goals
          refine zbl rfl (fun hc8 => ?_) (fun hc8 => ?_)
          ·try simp at hc8
           all_goals
            refine AW_r rfl rfl fun K hK => ?_
            simp (disch := omega) [zbi, gE, tP, DtCatalog.cells, DtCSet.cells, DtCSnap.cells, zba, zbb]
            repeat' first | (exfalso; omega) | (refine ⟨fun _ => ?_, fun _ => ?_⟩) | (refine ⟨by omega, ?_⟩) | (intro _)
            all_goals (refine hK _ ?_; clear hK K)
            all_goals
             refine zbo (zb4 ?_)
             simp (disch := omega) [zbi, gE, tP, DtCatalog.cells, DtCSet.cells, DtCSnap.cells, zba, zbb]
             all_goals first | grind [CatP, SetP] | (refine zdp fun h => ?_; grind [CatP, SetP]) | (refine zck ?_; grind [CatP, SetP])
          ·try simp at hc8
           all_goals
            refine zbn ?_
            refine zbq ?_
            refine AW_r rfl rfl fun K hK => ?_
            simp (disch := omega) [zbi, gE, tP, DtCatalog.cells, DtCSet.cells, DtCSnap.cells, zba, zbb]
            repeat' first | (exfalso; omega) | (refine ⟨fun _ => ?_, fun _ => ?_⟩) | (refine ⟨by omega, ?_⟩) | (intro _)
            all_goals (refine hK _ ?_; clear hK K)
            all_goals
             refine zbt ?_
             refine zb5 (fun mM sS => ∃ (k : Nat), mM = (c.fSets[i]).fSnaps.length - k ∧ (k ≤ (c.fSets[i]).fSnaps.length ∧ ∀ j p, j < k → (c.fSets[i]).fSnaps[j]? = some p → SnapP p ∧ findN (c.fSets[i]).fSnaps p.fName = j) ∧ sS = { env := lkE [(1, .ptr 32 0), (3, (.g (.int .i64 ((i : Nat))))), (4, .ptr 80 0), (5, (.g (.int .i64 ((k : Nat)))))], ob := lk [(32, .cells (DtCatalog.cells c)), (80, .cells (DtCSet.cells c.fSets[i]))] }) ?_ ?_
             ·refine ⟨_, LeS.ko [(1, .ptr 32 0), (3, (.g (.int .i64 ((i : Nat))))), (4, .ptr 80 0), (5, (.g (.int .i64 (((0) : Nat)))))] [(32, .cells (DtCatalog.cells c)), (80, .cells (DtCSet.cells c.fSets[i]))] (by simp [KpE, zbe, zbv, zbc, DtCatalog.cells, DtCSet.cells]; try rfl) (by simp [KpO, zbe, zbc, zbj, zcl, DtCatalog.cells, DtCSet.cells]; try rfl) (by rfl) (by simp) (by rfl), _, 0, rfl, ?_, rfl⟩
              ·simp
             ·rintro mM sS ⟨k, rfl, ⟨hk, hkre⟩, rfl⟩
              refine zbm ?_
              refine AW_r rfl rfl fun K hK => ?_
              simp (disch := omega) [zbi, gE, tP, DtCatalog.cells, DtCSet.cells, DtCSnap.cells, zba, zbb]
              repeat' first | (refine ⟨by omega, ?_⟩) | (intro _)
              refine hK _ ?_; clear hK K
              refine zbl rfl (fun hc9 => ?_) (fun hc9 => ?_)
              ·try simp at hc9
               all_goals
                have hg2 : (c.fSets[i]).fSnaps[k]? = some ((c.fSets[i]).fSnaps[k]) := List.getElem?_eq_getElem (by omega)
                refine zbn ?_
                refine zbq ?_
                refine zbm ?_
                refine zbt ?_
                refine AW_q rfl mix (by kernel_rfl) rfl fun K hK => ?_
                simp (disch := omega) [zbi, gE, tP, DtCatalog.cells, DtCSet.cells, DtCSnap.cells, zba, zbb]
                repeat' first | (exfalso; omega) | (refine zcx (zbh (zbz rfl) zbs) (l15Snap _) rfl ?_; simp (disch := omega) [zbi, gE, tP, DtCatalog.cells, DtCSet.cells, DtCSnap.cells, zba, zbb]) | (refine zcx (zbh (zbz rfl) (zbh zgv zbs)) (zs7 _ _ (by omega)) rfl ?_; simp (disch := omega) [zbi, gE, tP, DtCatalog.cells, DtCSet.cells, DtCSnap.cells, zba, zbb]) | (refine ⟨fun _ => ?_, fun _ => ?_⟩) | (refine ⟨by omega, ?_⟩) | (intro _)
                all_goals (refine hK _ ?_; clear hK K)
                all_goals
                 refine zbl rfl (fun hc10 => ?_) (fun hc10 => ?_)
                 ·try simp at hc10
                  all_goals
                   refine AW_r rfl rfl fun K hK => ?_
                   simp (disch := omega) [zbi, gE, tP, DtCatalog.cells, DtCSet.cells, DtCSnap.cells, zba, zbb]
                   repeat' first | (exfalso; omega) | (refine ⟨fun _ => ?_, fun _ => ?_⟩) | (refine ⟨by omega, ?_⟩) | (intro _)
                   all_goals (refine hK _ ?_; clear hK K)
                   all_goals
                    refine zbo (zb4 ?_)
                    simp (disch := omega) [zbi, gE, tP, DtCatalog.cells, DtCSet.cells, DtCSnap.cells, zba, zbb]
                    all_goals first | grind [CatP, SetP] | (refine zdp fun h => ?_; grind [CatP, SetP]) | (refine zck ?_; grind [CatP, SetP])
                 ·try simp at hc10
                  all_goals
                   refine zbn ?_
                   refine zbq ?_
                   refine zc6 rfl rfl fun K hK => ?_
                   simp (disch := omega) [zbi, gE, tP, DtCatalog.cells, DtCSet.cells, DtCSnap.cells, zba, zbb]
                   repeat' first | (exfalso; omega) | (refine ⟨fun _ => ?_, fun _ => ?_⟩) | (refine ⟨by omega, ?_⟩) | (intro _)
                   all_goals (refine hK _ ?_; clear hK K)
                   all_goals
                    refine ⟨_, LeS.ko [(1, .ptr 32 0), (3, (.g (.int .i64 ((i : Nat))))), (4, .ptr 80 0), (5, (.g (.int .i64 (((k + 1) : Nat)))))] [(32, .cells (DtCatalog.cells c)), (80, .cells (DtCSet.cells c.fSets[i]))] (by simp [KpE, zbe, zbv, zbc, DtCatalog.cells, DtCSet.cells]; try rfl) (by simp [KpO, zbe, zbc, zbj, zcl, DtCatalog.cells, DtCSet.cells]; try rfl) (by rfl) (by simp) (by rfl), _, ?_, k + 1, rfl, ?_, rfl⟩
                    ·omega
                    ·refine ⟨by omega, ?_⟩; clear hl2; grind
              ·try simp at hc9
               all_goals
                refine zb7 ?_
                refine zbq ?_
                refine zc6 rfl rfl fun K hK => ?_
                simp (disch := omega) [zbi, gE, tP, DtCatalog.cells, DtCSet.cells, DtCSnap.cells, zba, zbb]
                repeat' first | (exfalso; omega) | (refine ⟨fun _ => ?_, fun _ => ?_⟩) | (refine ⟨by omega, ?_⟩) | (intro _)
                all_goals (refine hK _ ?_; clear hK K)
                all_goals
                 refine ⟨_, LeS.ko [(1, .ptr 32 0), (3, (.g (.int .i64 (((i + 1) : Nat)))))] [(32, .cells (DtCatalog.cells c))] (by simp [KpE, zbe, zbv, zbc, DtCatalog.cells, DtCSet.cells]; try rfl) (by simp [KpO, zbe, zbc, zbj, zcl, DtCatalog.cells, DtCSet.cells]; try rfl) (by rfl) (by simp) (by rfl), _, ?_, i + 1, rfl, ?_, rfl⟩
                 ·omega
                 ·refine ⟨by omega, ?_⟩; clear hg' hl2; grind [SetP]
     ·try simp at hc7
      all_goals
       refine zb7 ?_
       refine zbq ?_
       refine AW_r rfl rfl fun K hK => ?_
       simp (disch := omega) [zbi, gE, tP, DtCatalog.cells, DtCSet.cells, DtCSnap.cells, zba, zbb]
       repeat' first | (exfalso; omega) | (refine ⟨fun _ => ?_, fun _ => ?_⟩) | (refine ⟨by omega, ?_⟩) | (intro _)
       all_goals (refine hK _ ?_; clear hK K)
       all_goals
        refine zbo (zb4 ?_)
        simp (disch := omega) [zbi, gE, tP, DtCatalog.cells, DtCSet.cells, DtCSnap.cells, zba, zbb]
        all_goals first | grind [CatP, SetP] | (refine zdp fun h => ?_; grind [CatP, SetP]) | (refine zck ?_; grind [CatP, SetP])
def Ch8 (l : List (List UInt8)) : Prop := ∀ (j : Nat) c, l[j]? = some c → c.length = 8
theorem zrd (l : List (List UInt8)) (hs : l.length ≤ 1048576) : PCall Tryz.prog 58 [.sl 1 (l.map cS)] (.g (.bool (decB (Ch8 l)))) := by
 refine zbu Tryz.func58 (by rfl) (by rfl) (by rw [Tryz.ntmps58]; exact Nat.le_of_ble_eq_true rfl) rfl (by decide) ?_
 rw [Tryz.ntmps58]
 refine AW_k [(0, _)] ⟨rfl, trivial⟩ ?_
 refine AW_r rfl rfl fun K hK => ?_
 simp (disch := omega) [zbi, gE, tP, cS]
 repeat' first | (refine ⟨by omega, ?_⟩) | (intro _)
 refine hK _ ?_; clear hK K
 refine zbm ?_
 refine AW_r rfl rfl fun K hK => ?_
 simp (disch := omega) [zbi, gE, tP, cS]
 repeat' first | (refine ⟨by omega, ?_⟩) | (intro _)
 refine hK _ ?_; clear hK K
 refine zbt ?_
 refine zb5 (fun mM sS => ∃ (i : Nat), mM = l.length - i ∧ (i ≤ l.length ∧ ∀ (j : Nat) c, j < i → l[j]? = some c → c.length = 8) ∧ sS = { env := lkE [(5, .sl 1 (l.map cS)), (6, (.g (.int .i64 ((l.length : Nat))))), (7, (.g (.int .i64 ((i : Nat)))))], ob := formOb [] [] }) ?_ ?_
 ·refine ⟨_, LeS.kp [(5, .sl 1 (l.map cS)), (6, (.g (.int .i64 ((l.length : Nat))))), (7, (.g (.int .i64 (((0) : Nat)))))] (by simp [KpE, zbe, zbv, zbc]; try rfl), _, 0, rfl, ?_, rfl⟩
  ·simp
 ·rintro mM sS ⟨i, rfl, ⟨hi, hpre⟩, rfl⟩
  refine AW_r rfl rfl fun K hK => ?_
  simp (disch := omega) [zbi, gE, tP, cS]
  repeat' first | (refine ⟨by omega, ?_⟩) | (intro _)
  refine hK _ ?_; clear hK K
  refine zbm ?_
  refine zbl rfl (fun hc11 => ?_) (fun hc11 => ?_)
  ·try simp at hc11
   all_goals
    have hg : l[i]? = some (l[i]) := List.getElem?_eq_getElem (by omega)
    refine zbn ?_
    refine zbq ?_
    refine zbm ?_
    refine zbt ?_
    refine AW_r rfl rfl fun K hK => ?_
    simp (disch := omega) [zbi, gE, tP, cS]
    repeat' first | (exfalso; omega) | (refine ⟨fun _ => ?_, fun _ => ?_⟩) | (refine ⟨by omega, ?_⟩) | (intro _)
    all_goals (refine hK _ ?_; clear hK K)
    all_goals
     refine AW_r rfl rfl fun K hK => ?_
     simp (disch := omega) [zbi, gE, tP, cS]
     repeat' first | (refine ⟨by omega, ?_⟩) | (intro _)
     refine hK _ ?_; clear hK K
     refine zbl rfl (fun hc12 => ?_) (fun hc12 => ?_)
     ·try simp at hc12
      all_goals
       refine AW_r rfl rfl fun K hK => ?_
       simp (disch := omega) [zbi, gE, tP, cS]
       repeat' first | (exfalso; omega) | (refine ⟨fun _ => ?_, fun _ => ?_⟩) | (refine ⟨by omega, ?_⟩) | (intro _)
       all_goals (refine hK _ ?_; clear hK K)
       all_goals
        refine zbo (zb4 ?_)
        simp (disch := omega) [zbi, gE, tP, cS]
        all_goals first | (refine zdp fun h => ?_; grind [Ch8]) | (refine zck ?_; grind [Ch8])
     ·try simp at hc12
      all_goals
       refine zbn ?_
       refine zbq ?_
       refine zc6 rfl rfl fun K hK => ?_
       simp (disch := omega) [zbi, gE, tP, cS]
       repeat' first | (exfalso; omega) | (refine ⟨fun _ => ?_, fun _ => ?_⟩) | (refine ⟨by omega, ?_⟩) | (intro _)
       all_goals (refine hK _ ?_; clear hK K)
       all_goals
        refine ⟨_, LeS.kp [(5, .sl 1 (l.map cS)), (6, (.g (.int .i64 ((l.length : Nat))))), (7, (.g (.int .i64 (((i + 1) : Nat)))))] (by simp [KpE, zbe, zbv, zbc]; try rfl), _, ?_, i + 1, rfl, ?_, rfl⟩
        ·omega
        ·refine ⟨by omega, ?_⟩; grind
  ·try simp at hc11
   all_goals
    refine zb7 ?_
    refine zbq ?_
    refine AW_r rfl rfl fun K hK => ?_
    simp (disch := omega) [zbi, gE, tP, cS]
    repeat' first | (exfalso; omega) | (refine ⟨fun _ => ?_, fun _ => ?_⟩) | (refine ⟨by omega, ?_⟩) | (intro _)
    all_goals (refine hK _ ?_; clear hK K)
    all_goals
     refine zbo (zb4 ?_)
     simp (disch := omega) [zbi, gE, tP, cS]
     all_goals first | (refine zdp fun h => ?_; grind [Ch8]) | (refine zck ?_; grind [Ch8])
theorem snap1 (p : DtCSnap) (name : List UInt8) : GCall Tryz.prog 102 [.agg (DtCSnap.cells p), .ptr 0 0] [[.s name]] [] (.g (.bool (eqB p.fName name))) [] := by
 refine zbu Tryz.func102 (by rfl) (by rfl) (by rw [Tryz.ntmps102]; exact Nat.le_of_ble_eq_true rfl) rfl (by decide) ?_
 rw [Tryz.ntmps102]
 refine AW_k [(0, _), (1, _)] ⟨rfl, rfl, trivial⟩ ?_
 refine AW_r rfl rfl fun K hK => ?_
 simp [DtCSnap.cells]
 repeat' first | (refine ⟨by omega, ?_⟩) | (intro _)
 refine hK _ ?_; clear hK K
 refine AW_r rfl rfl fun K hK => ?_
 simp [DtCSnap.cells]
 repeat' first | (refine ⟨by omega, ?_⟩) | (intro _)
 refine hK _ ?_; clear hK K
 refine zbo (zb4 ?_)
 simp [DtCSnap.cells]
 all_goals first | (rw [Bool.eq_iff_iff, zbf]; simp; done) | (rw [eqB]; simp)
theorem zmr {F : FuncId} {name : List UInt8} {p : DtCSnap → Bool} (xs : List DtCSnap) (hn : xs.length ≤ 1048576) (hf : ∀ x, GCall Tryz.prog F [.agg (DtCSnap.cells x), .ptr 0 0] [[.s name]] [] (.g (.bool (p x))) []) : GCall Tryz.prog 101 [.sl 3 (xs.map DtCSnap.cells), .fn F [] [.ptr 0 0]] [[.s name]] [] (.g (.int .i64 (idxZ p xs))) [] := by
 refine zbu Tryz.func101 (by rfl) (by rfl) (by rw [Tryz.ntmps101]; exact Nat.le_of_ble_eq_true rfl) rfl (by decide) ?_
 rw [Tryz.ntmps101]
 refine AW_k [(0, _), (1, _)] ⟨rfl, rfl, trivial⟩ ?_
 refine AW_r rfl rfl fun K hK => ?_
 simp (disch := omega) [zbi, gE, tP, DtCSnap.cells]
 repeat' first | (refine zdh 0 (.inr rfl) (zcb [.s name] rfl) (zbh (zbz rfl) (zbh zcv zbs)) (hf _) rfl ?_; try simp (disch := omega) [zbi, gE, tP, DtCSnap.cells]) | (refine ⟨by omega, ?_⟩) | (intro _)
 refine hK _ ?_; clear hK K
 refine zbm ?_
 refine AW_r rfl rfl fun K hK => ?_
 simp (disch := omega) [zbi, gE, tP, DtCSnap.cells]
 repeat' first | (refine zdh 0 (.inr rfl) (zcb [.s name] rfl) (zbh (zbz rfl) (zbh zcv zbs)) (hf _) rfl ?_; try simp (disch := omega) [zbi, gE, tP, DtCSnap.cells]) | (refine ⟨by omega, ?_⟩) | (intro _)
 refine hK _ ?_; clear hK K
 refine zbt ?_
 refine zb5 (fun mM sS => ∃ (i : Nat), mM = xs.length - i ∧ (i ≤ xs.length ∧ ∀ j x, j < i → xs[j]? = some x → p x = false) ∧ sS = { env := lkE [(0, .sl 3 (xs.map DtCSnap.cells)), (1, .fn F [] [.ptr 0 0]), (6, .sl 3 (xs.map DtCSnap.cells)), (7, (.g (.int .i64 ((xs.length : Nat))))), (8, (.g (.int .i64 ((i : Nat)))))], ob := formOb [[.s name]] [] }) ?_ ?_
 ·refine ⟨_, LeS.kp [(0, .sl 3 (xs.map DtCSnap.cells)), (1, .fn F [] [.ptr 0 0]), (6, .sl 3 (xs.map DtCSnap.cells)), (7, (.g (.int .i64 ((xs.length : Nat))))), (8, (.g (.int .i64 (((0) : Nat)))))] (by simp [KpE, zbe, zbv, zbc]; try rfl), _, 0, rfl, ?_, rfl⟩
  ·simp
 ·rintro mM sS ⟨i, rfl, ⟨hi, hpre⟩, rfl⟩
  refine AW_r rfl rfl fun K hK => ?_
  simp (disch := omega) [zbi, gE, tP, DtCSnap.cells]
  repeat' first | (refine zdh 0 (.inr rfl) (zcb [.s name] rfl) (zbh (zbz rfl) (zbh zcv zbs)) (hf _) rfl ?_; try simp (disch := omega) [zbi, gE, tP, DtCSnap.cells]) | (refine ⟨by omega, ?_⟩) | (intro _)
  refine hK _ ?_; clear hK K
  refine zbm ?_
  refine zbl rfl (fun hc13 => ?_) (fun hc13 => ?_)
  ·try simp at hc13
   all_goals
    have hg : xs[i]? = some (xs[i]) := List.getElem?_eq_getElem (by omega)
    refine zbn ?_
    refine zbq ?_
    refine zbm ?_
    refine zbt ?_
    refine AW_r rfl rfl fun K hK => ?_
    simp (disch := omega) [zbi, gE, tP, DtCSnap.cells]
    repeat' first | (exfalso; omega) | (refine zdh 0 (.inr rfl) (zcb [.s name] rfl) (zbh (zbz rfl) (zbh zcv zbs)) (hf _) rfl ?_; try simp (disch := omega) [zbi, gE, tP, DtCSnap.cells]) | (refine ⟨fun _ => ?_, fun _ => ?_⟩) | (refine ⟨by omega, ?_⟩) | (intro _)
    all_goals (refine hK _ ?_; clear hK K)
    all_goals
     refine AW_r rfl rfl fun K hK => ?_
     simp (disch := omega) [zbi, gE, tP, DtCSnap.cells]
     repeat' first | (refine zdh 0 (.inr rfl) (zcb [.s name] rfl) (zbh (zbz rfl) (zbh zcv zbs)) (hf _) rfl ?_; try simp (disch := omega) [zbi, gE, tP, DtCSnap.cells]) | (refine ⟨by omega, ?_⟩) | (intro _)
     refine hK _ ?_; clear hK K
     refine zbl rfl (fun hc14 => ?_) (fun hc14 => ?_)
     ·try simp at hc14
      all_goals
       refine AW_r rfl rfl fun K hK => ?_
       simp (disch := omega) [zbi, gE, tP, DtCSnap.cells]
       repeat' first | (exfalso; omega) | (refine zdh 0 (.inr rfl) (zcb [.s name] rfl) (zbh (zbz rfl) (zbh zcv zbs)) (hf _) rfl ?_; try simp (disch := omega) [zbi, gE, tP, DtCSnap.cells]) | (refine ⟨fun _ => ?_, fun _ => ?_⟩) | (refine ⟨by omega, ?_⟩) | (intro _)
       all_goals (refine hK _ ?_; clear hK K)
       all_goals
        refine zbo (zb4 ?_)
        simp (disch := omega) [zbi, gE, tP, DtCSnap.cells]
        all_goals first | (exact zc1 (by assumption) (by assumption) hpre) | (exact zdv (fun j x h => hpre j x (by omega)))
     ·try simp at hc14
      all_goals
       refine zbn ?_
       refine zbq ?_
       refine zc6 rfl rfl fun K hK => ?_
       simp (disch := omega) [zbi, gE, tP, DtCSnap.cells]
       repeat' first | (exfalso; omega) | (refine zdh 0 (.inr rfl) (zcb [.s name] rfl) (zbh (zbz rfl) (zbh zcv zbs)) (hf _) rfl ?_; try simp (disch := omega) [zbi, gE, tP, DtCSnap.cells]) | (refine ⟨fun _ => ?_, fun _ => ?_⟩) | (refine ⟨by omega, ?_⟩) | (intro _)
       all_goals (refine hK _ ?_; clear hK K)
       all_goals
        refine ⟨_, LeS.kp [(0, .sl 3 (xs.map DtCSnap.cells)), (1, .fn F [] [.ptr 0 0]), (6, .sl 3 (xs.map DtCSnap.cells)), (7, (.g (.int .i64 ((xs.length : Nat))))), (8, (.g (.int .i64 (((i + 1) : Nat)))))] (by simp [KpE, zbe, zbv, zbc]; try rfl), _, ?_, i + 1, rfl, ?_, rfl⟩
        ·omega
        ·refine ⟨by omega, ?_⟩; grind
  ·try simp at hc13
   all_goals
    refine zb7 ?_
    refine zbq ?_
    refine AW_r rfl rfl fun K hK => ?_
    simp (disch := omega) [zbi, gE, tP, DtCSnap.cells]
    repeat' first | (exfalso; omega) | (refine zdh 0 (.inr rfl) (zcb [.s name] rfl) (zbh (zbz rfl) (zbh zcv zbs)) (hf _) rfl ?_; try simp (disch := omega) [zbi, gE, tP, DtCSnap.cells]) | (refine ⟨fun _ => ?_, fun _ => ?_⟩) | (refine ⟨by omega, ?_⟩) | (intro _)
    all_goals (refine hK _ ?_; clear hK K)
    all_goals
     refine zbo (zb4 ?_)
     simp (disch := omega) [zbi, gE, tP, DtCSnap.cells]
     all_goals first | (exact zc1 (by assumption) (by assumption) hpre) | (exact zdv (fun j x h => hpre j x (by omega)))
theorem snap (s : DtCSet) (name : List UInt8) (hs : s.fSnaps.length ≤ 1048576) : PCall Tryz.prog 91 [.agg (DtCSet.cells s), .s name] (.g (.int .i64 (findN s.fSnaps name))) := by
 refine zbu Tryz.func91 (by rfl) (by rfl) (by rw [Tryz.ntmps91]; exact Nat.le_of_ble_eq_true rfl) rfl (by decide) ?_
 rw [Tryz.ntmps91]
 refine AW_k [(0, _), (1, _)] ⟨rfl, rfl, trivial⟩ ?_
 refine AW_r rfl rfl fun K hK => ?_
 simp [DtCSet.cells]
 repeat' first | (refine ⟨by omega, ?_⟩) | (intro _)
 refine hK _ ?_; clear hK K
 refine AW_r rfl rfl fun K hK => ?_
 simp [DtCSet.cells]
 repeat' first | (refine zdh 64 (.inl rfl) (zcb [.s name] rfl) (zbh zdd (zbh zsl zbs)) (zmr _ hs (fun x => snap1 x name)) rfl ?_; simp [DtCSet.cells]) | (refine ⟨by omega, ?_⟩) | (intro _)
 refine hK _ ?_; clear hK K
 refine zbo (zb4 ?_)
 simp [DtCSet.cells, findN]
 all_goals first | omega | (simp_all; done) | (simp [List.take_of_length_le]; done) | ((try simp_all); (try simp (disch := omega) only [zbi, Int.tdiv_eq_ediv_of_nonneg, Int.tmod_eq_emod_of_nonneg, and_true, true_and]); done) | ((try simp_all); (try simp (disch := omega) only [zbi, Int.tdiv_eq_ediv_of_nonneg, Int.tmod_eq_emod_of_nonneg, and_true, true_and] at *); omega)
theorem setOk (s : DtCSet) (hs : DtCSet.sz s ≤ 1048576) : PCall Tryz.prog 84 [.agg (DtCSet.cells s)] (.g (.bool (decB (SetP s)))) := by
 have hl : s.fSnaps.length ≤ 1048576 := by have := zb9 DtCSnap.sz_nonneg s.fSnaps; simp only [DtCSet.sz, szS] at hs; omega
 have hw : s.fName.length ≤ 1048576 := by have := zb9 DtCSnap.sz_nonneg s.fSnaps; simp only [DtCSet.sz, szS] at hs; omega
 have hsn : ∀ k (h : k < s.fSnaps.length), s.fSnaps[k].fName.length ≤ 1048576 ∧ s.fSnaps[k].fTag.length ≤ 1048576 ∧ s.fSnaps[k].fChunks.length ≤ 1048576 := by
  intro k h
  have h1 := zcn DtCSnap.sz_nonneg s.fSnaps s.fSnaps[k] (List.getElem_mem _)
  have h2 := zb9 zce s.fSnaps[k].fChunks
  simp only [DtCSet.sz, szS] at hs
  simp only [DtCSnap.sz, szS] at h1
  omega
 refine zbu Tryz.func84 (by rfl) (by rfl) (by rw [Tryz.ntmps84]; exact Nat.le_of_ble_eq_true rfl) rfl (by decide) ?_
 rw [Tryz.ntmps84]
 refine AW_k [(0, _)] ⟨rfl, trivial⟩ ?_
 refine AW_r rfl rfl fun K hK => ?_
 simp (disch := omega) [zbi, gE, tP, DtCSet.cells, DtCSnap.cells, zba, zbb]
 repeat' first | (refine ⟨by omega, ?_⟩) | (intro _)
 refine hK _ ?_; clear hK K
 refine zbm ?_
 refine AW_r rfl rfl fun K hK => ?_
 simp (disch := omega) [zbi, gE, tP, DtCSet.cells, DtCSnap.cells, zba, zbb]
 repeat' first | (refine ⟨by omega, ?_⟩) | (intro _)
 refine hK _ ?_; clear hK K
 refine zbt ?_
 refine zb5 (fun mM sS => ∃ (k : Nat), mM = s.fSnaps.length - k ∧ (k ≤ s.fSnaps.length ∧ ∀ j p, j < k → s.fSnaps[j]? = some p → SnapP p ∧ findN s.fSnaps p.fName = j) ∧ sS = { env := lkE [(1, .ptr 32 0), (6, .sl 3 (s.fSnaps.map DtCSnap.cells)), (7, (.g (.int .i64 ((s.fSnaps.length : Nat))))), (8, (.g (.int .i64 ((k : Nat)))))], ob := lk [(32, .cells (DtCSet.cells s))] }) ?_ ?_
 ·refine ⟨_, LeS.ko [(1, .ptr 32 0), (6, .sl 3 (s.fSnaps.map DtCSnap.cells)), (7, (.g (.int .i64 ((s.fSnaps.length : Nat))))), (8, (.g (.int .i64 (((0) : Nat)))))] [(32, .cells (DtCSet.cells s))] (by simp [KpE, zbe, zbv, zbc, DtCSet.cells]; try rfl) (by simp [KpO, zbe, zbc, zbj, zcl, DtCSet.cells]; try rfl) (by rfl) (by simp) (by rfl), _, 0, rfl, ?_, rfl⟩
  ·simp
 ·rintro mM sS ⟨k, rfl, ⟨hk, hkre⟩, rfl⟩
  refine AW_r rfl rfl fun K hK => ?_
  simp (disch := omega) [zbi, gE, tP, DtCSet.cells, DtCSnap.cells, zba, zbb]
  repeat' first | (refine ⟨by omega, ?_⟩) | (intro _)
  refine hK _ ?_; clear hK K
  refine zbm ?_
  refine zbl rfl (fun hc15 => ?_) (fun hc15 => ?_)
  ·try simp at hc15
   all_goals
    have hg2 : s.fSnaps[k]? = some (s.fSnaps[k]) := List.getElem?_eq_getElem (by omega)
    have hm := hsn k (by omega)
    refine zbn ?_
    refine zbq ?_
    refine zbm ?_
    refine zbt ?_
    refine AW_r rfl rfl fun K hK => ?_
    simp (disch := omega) [zbi, gE, tP, DtCSet.cells, DtCSnap.cells, zba, zbb]
    repeat' first | (exfalso; omega) | (refine ⟨fun _ => ?_, fun _ => ?_⟩) | (refine ⟨by omega, ?_⟩) | (intro _)
    all_goals (refine hK _ ?_; clear hK K)
    all_goals
     refine AW_r rfl rfl fun K hK => ?_
     simp (disch := omega) [zbi, gE, tP, DtCSet.cells, DtCSnap.cells, zba, zbb]
     repeat' first | (exfalso; omega) | (refine zcx (zbh zgv zbs) (isWord _ (by omega)) rfl ?_; simp (disch := omega) [zbi, gE, tP, DtCSet.cells, DtCSnap.cells, zba, zbb]) | (refine zcx (zbh zcp (zbh zcp (zbh zcp zbs))) (znf _ _ _) rfl ?_; simp (disch := omega) [zbi, gE, tP, DtCSet.cells, DtCSnap.cells, zba, zbb]) | (refine zcx (zbh zdd zbs) (zrd _ (by omega)) rfl ?_; simp (disch := omega) [zbi, gE, tP, DtCSet.cells, DtCSnap.cells, zba, zbb]) | (refine zcx (zbh (zbz rfl) (zbh zgv zbs)) (snap _ _ (by omega)) rfl ?_; simp (disch := omega) [zbi, gE, tP, DtCSet.cells, DtCSnap.cells, zba, zbb]) | (refine ⟨fun _ => ?_, fun _ => ?_⟩) | (refine ⟨by omega, ?_⟩) | (intro _)
     all_goals (refine hK _ ?_; clear hK K)
     all_goals
      refine zbl rfl (fun hc16 => ?_) (fun hc16 => ?_)
      ·try simp at hc16
       all_goals
        refine AW_r rfl rfl fun K hK => ?_
        simp (disch := omega) [zbi, gE, tP, DtCSet.cells, DtCSnap.cells, zba, zbb]
        repeat' first | (exfalso; omega) | (refine ⟨fun _ => ?_, fun _ => ?_⟩) | (refine ⟨by omega, ?_⟩) | (intro _)
        all_goals (refine hK _ ?_; clear hK K)
        all_goals
         refine zbo (zb4 ?_)
         simp (disch := omega) [zbi, gE, tP, DtCSet.cells, DtCSnap.cells, zba, zbb]
         all_goals first | grind [SetP, SnapP, Ch8] | (refine zdp fun h => ?_; grind [SetP, SnapP, Ch8]) | (refine zck ?_; grind [SetP, SnapP, Ch8]) | (rw [Bool.eq_iff_iff, zba]; simp [zba]; grind [SetP, SnapP, Ch8])
      ·try simp at hc16
       all_goals
        refine zbn ?_
        refine zbq ?_
        refine zc6 rfl rfl fun K hK => ?_
        simp (disch := omega) [zbi, gE, tP, DtCSet.cells, DtCSnap.cells, zba, zbb]
        repeat' first | (exfalso; omega) | (refine ⟨fun _ => ?_, fun _ => ?_⟩) | (refine ⟨by omega, ?_⟩) | (intro _)
        all_goals (refine hK _ ?_; clear hK K)
        all_goals
         refine ⟨_, LeS.ko [(1, .ptr 32 0), (6, .sl 3 (s.fSnaps.map DtCSnap.cells)), (7, (.g (.int .i64 ((s.fSnaps.length : Nat))))), (8, (.g (.int .i64 (((k + 1) : Nat)))))] [(32, .cells (DtCSet.cells s))] (by simp [KpE, zbe, zbv, zbc, DtCSet.cells]; try rfl) (by simp [KpO, zbe, zbc, zbj, zcl, DtCSet.cells]; try rfl) (by rfl) (by simp) (by rfl), _, ?_, k + 1, rfl, ?_, rfl⟩
         ·omega
         ·refine ⟨by omega, ?_⟩; clear hsn; grind [SnapP, Ch8]
  ·try simp at hc15
   all_goals
    refine zb7 ?_
    refine zbq ?_
    refine AW_r rfl rfl fun K hK => ?_
    simp (disch := omega) [zbi, gE, tP, DtCSet.cells, DtCSnap.cells, zba, zbb]
    repeat' first | (exfalso; omega) | (refine zcx (zbh zgv zbs) (isWord _ (by omega)) rfl ?_; simp (disch := omega) [zbi, gE, tP, DtCSet.cells, DtCSnap.cells, zba, zbb]) | (refine ⟨fun _ => ?_, fun _ => ?_⟩) | (refine ⟨by omega, ?_⟩) | (intro _)
    all_goals (refine hK _ ?_; clear hK K)
    all_goals
     refine zbo (zb4 ?_)
     simp (disch := omega) [zbi, gE, tP, DtCSet.cells, DtCSnap.cells, zba, zbb]
     all_goals first | grind [SetP, SnapP, Ch8] | (refine zdp fun h => ?_; grind [SetP, SnapP, Ch8]) | (refine zck ?_; grind [SetP, SnapP, Ch8]) | (rw [Bool.eq_iff_iff, zba]; simp [zba]; grind [SetP, SnapP, Ch8])
theorem zl0 (c : DtCatalog) (hs : DtCatalog.sz c ≤ 1048576) : PCall Tryz.prog 55 [.agg (DtCatalog.cells c)] (.g (.bool (decB (CatP c)))) := by
 have hl : c.fSets.length ≤ 1048576 := by have := zb9 DtCSet.sz_nonneg c.fSets; simp only [DtCatalog.sz, szS] at hs; omega
 have hl2 : ∀ i (h : i < c.fSets.length), DtCSet.sz c.fSets[i] ≤ 1048576 := by
  intro i h
  have h1 := zcn DtCSet.sz_nonneg c.fSets c.fSets[i] (List.getElem_mem _)
  simp only [DtCatalog.sz, szS] at hs
  omega
 refine zbu Tryz.func55 (by rfl) (by rfl) (by rw [Tryz.ntmps55]; exact Nat.le_of_ble_eq_true rfl) rfl (by decide) ?_
 rw [Tryz.ntmps55]
 refine AW_k [(0, _)] ⟨rfl, trivial⟩ ?_
 refine AW_r rfl rfl fun K hK => ?_
 simp (disch := omega) [zbi, gE, tP, DtCatalog.cells, DtCSet.cells, DtCSnap.cells, zba, zbb]
 repeat' first | (refine ⟨by omega, ?_⟩) | (intro _)
 refine hK _ ?_; clear hK K
 refine zbm ?_
 refine AW_r rfl rfl fun K hK => ?_
 simp (disch := omega) [zbi, gE, tP, DtCatalog.cells, DtCSet.cells, DtCSnap.cells, zba, zbb]
 repeat' first | (refine ⟨by omega, ?_⟩) | (intro _)
 refine hK _ ?_; clear hK K
 refine zbt ?_
 refine zb5 (fun mM sS => ∃ (i : Nat), mM = c.fSets.length - i ∧ (i ≤ c.fSets.length ∧ ∀ j s, j < i → c.fSets[j]? = some s → SetP s ∧ ∀ t, 0 < j → c.fSets[j - 1]? = some t → Op.bytesLess t.fName s.fName = true) ∧ sS = { env := lkE [(1, .ptr 32 0), (6, .sl 2 (c.fSets.map DtCSet.cells)), (7, (.g (.int .i64 ((c.fSets.length : Nat))))), (8, (.g (.int .i64 ((i : Nat)))))], ob := lk [(32, .cells (DtCatalog.cells c))] }) ?_ ?_
 ·refine ⟨_, LeS.ko [(1, .ptr 32 0), (6, .sl 2 (c.fSets.map DtCSet.cells)), (7, (.g (.int .i64 ((c.fSets.length : Nat))))), (8, (.g (.int .i64 (((0) : Nat)))))] [(32, .cells (DtCatalog.cells c))] (by simp [KpE, zbe, zbv, zbc, DtCatalog.cells, DtCSet.cells]; try rfl) (by simp [KpO, zbe, zbc, zbj, zcl, DtCatalog.cells, DtCSet.cells]; try rfl) (by rfl) (by simp) (by rfl), _, 0, rfl, ?_, rfl⟩
  ·simp
 ·rintro mM sS ⟨i, rfl, ⟨hi, hpre⟩, rfl⟩
  refine AW_r rfl rfl fun K hK => ?_
  simp (disch := omega) [zbi, gE, tP, DtCatalog.cells, DtCSet.cells, DtCSnap.cells, zba, zbb]
  repeat' first | (refine ⟨by omega, ?_⟩) | (intro _)
  refine hK _ ?_; clear hK K
  refine zbm ?_
  refine zbl rfl (fun hc17 => ?_) (fun hc17 => ?_)
  ·try simp at hc17
   all_goals
    have hg : c.fSets[i]? = some (c.fSets[i]) := List.getElem?_eq_getElem (by omega)
    have hg' : c.fSets[i - 1]? = some (c.fSets[i - 1]) := List.getElem?_eq_getElem (by omega)
    have hm := hl2 i (by omega)
    rcases Nat.eq_zero_or_pos i with hi0 | hi0
    all_goals
     refine zbn ?_
     refine zbq ?_
     refine zbm ?_
     refine zbt ?_
     refine AW_r rfl rfl fun K hK => ?_
     simp (disch := omega) [zbi, gE, tP, DtCatalog.cells, DtCSet.cells, DtCSnap.cells, zba, zbb]
     repeat' first | (exfalso; omega) | (refine ⟨fun _ => ?_, fun _ => ?_⟩) | (refine ⟨by omega, ?_⟩) | (intro _)
     all_goals (refine hK _ ?_; clear hK K)
     all_goals
      refine AW_q rfl mix (by kernel_rfl) rfl fun K hK => ?_
      simp (disch := omega) [zbi, gE, tP, DtCatalog.cells, DtCSet.cells, DtCSnap.cells, zba, zbb]
      repeat' first | (exfalso; omega) | (refine zcx (zbh (zbz rfl) zbs) (setOk _ (by first | assumption | omega)) rfl ?_; simp (disch := omega) [zbi, gE, tP, DtCatalog.cells, DtCSet.cells, DtCSnap.cells, zba, zbb]) | (refine ⟨fun _ => ?_, fun _ => ?_⟩) | (refine ⟨by omega, ?_⟩) | (intro _)
      all_goals (refine hK _ ?_; clear hK K)
      all_goals
       refine zbl rfl (fun hc18 => ?_) (fun hc18 => ?_)
       ·try simp at hc18
        all_goals
         refine AW_r rfl rfl fun K hK => ?_
         simp (disch := omega) [zbi, gE, tP, DtCatalog.cells, DtCSet.cells, DtCSnap.cells, zba, zbb]
         repeat' first | (exfalso; omega) | (refine ⟨fun _ => ?_, fun _ => ?_⟩) | (refine ⟨by omega, ?_⟩) | (intro _)
         all_goals (refine hK _ ?_; clear hK K)
         all_goals
          refine zbo (zb4 ?_)
          simp (disch := omega) [zbi, gE, tP, DtCatalog.cells, DtCSet.cells, DtCSnap.cells, zba, zbb]
          all_goals first | grind [CatP] | (refine zdp fun h => ?_; grind [CatP]) | (refine zck ?_; grind [CatP]) | (rw [Bool.eq_iff_iff, zba]; simp; grind [CatP])
       ·try simp at hc18
        all_goals
         refine zbn ?_
         refine zbq ?_
         refine zc6 rfl rfl fun K hK => ?_
         simp (disch := omega) [zbi, gE, tP, DtCatalog.cells, DtCSet.cells, DtCSnap.cells, zba, zbb]
         repeat' first | (exfalso; omega) | (refine ⟨fun _ => ?_, fun _ => ?_⟩) | (refine ⟨by omega, ?_⟩) | (intro _)
         all_goals (refine hK _ ?_; clear hK K)
         all_goals
          refine ⟨_, LeS.ko [(1, .ptr 32 0), (6, .sl 2 (c.fSets.map DtCSet.cells)), (7, (.g (.int .i64 ((c.fSets.length : Nat))))), (8, (.g (.int .i64 (((i + 1) : Nat)))))] [(32, .cells (DtCatalog.cells c))] (by simp [KpE, zbe, zbv, zbc, DtCatalog.cells, DtCSet.cells]; try rfl) (by simp [KpO, zbe, zbc, zbj, zcl, DtCatalog.cells, DtCSet.cells]; try rfl) (by rfl) (by simp) (by rfl), _, ?_, i + 1, rfl, ?_, rfl⟩
          ·omega
          ·refine ⟨by omega, ?_⟩; clear hg' hl2; grind
  ·try simp at hc17
   all_goals
    refine zb7 ?_
    refine zbq ?_
    refine AW_r rfl rfl fun K hK => ?_
    simp (disch := omega) [zbi, gE, tP, DtCatalog.cells, DtCSet.cells, DtCSnap.cells, zba, zbb]
    repeat' first | (exfalso; omega) | (refine ⟨fun _ => ?_, fun _ => ?_⟩) | (refine ⟨by omega, ?_⟩) | (intro _)
    all_goals (refine hK _ ?_; clear hK K)
    all_goals
     refine zbo (zb4 ?_)
     simp (disch := omega) [zbi, gE, tP, DtCatalog.cells, DtCSet.cells, DtCSnap.cells, zba, zbb]
     all_goals first | grind [CatP] | (refine zdp fun h => ?_; grind [CatP]) | (refine zck ?_; grind [CatP]) | (rw [Bool.eq_iff_iff, zba]; simp; grind [CatP])
end Go.Proofs.YtmheohnbkaoipaaGreat.Vs
