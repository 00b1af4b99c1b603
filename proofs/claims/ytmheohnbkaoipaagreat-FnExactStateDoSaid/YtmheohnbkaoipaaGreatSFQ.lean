import Derived.Test.YtmheohnbkaoipaaGreatSEQ
open Go Go.Proofs Go.Proofs.YtmheohnbkaoipaaGreat.Vs
namespace Go.Proofs.YtmheohnbkaoipaaGreat.Vs
set_option linter.all false
set_option linter.unusedSimpArgs false
set_option linter.unusedVariables false
set_option maxRecDepth 100000
noncomputable def findS (l : List DtCSet) (name : List UInt8) : Int := idxZ (fun p => eqB p.fName name) l
attribute [local simp] DtCSet.cells
theorem set1 (p : DtCSet) (name : List UInt8) : GCall Tryz.prog 90 [.agg (DtCSet.cells p), .ptr 0 0] [[.s name]] [] (.g (.bool (eqB p.fName name))) [] := by
 refine zbu Tryz.func90 (by rfl) (by rfl) (by rw [Tryz.ntmps90]; exact Nat.le_of_ble_eq_true rfl) rfl (by decide) ?_
 rw [Tryz.ntmps90]
 refine AW_k [(0, _), (1, _)] ⟨rfl, rfl, trivial⟩ ?_
 refine AW_r rfl rfl fun K hK => ?_
 simp
 repeat' first | (refine ⟨by omega, ?_⟩) | (intro _)
 refine hK _ ?_; clear hK K
 refine AW_r rfl rfl fun K hK => ?_
 simp
 repeat' first | (refine ⟨by omega, ?_⟩) | (intro _)
 refine hK _ ?_; clear hK K
 refine zbo (zb4 ?_)
 simp
 all_goals first | (rw [Bool.eq_iff_iff, zbf]; simp; done) | (rw [eqB]; simp)
theorem zpg {F : FuncId} {name : List UInt8} {p : DtCSet → Bool} (xs : List DtCSet) (hn : xs.length ≤ 1048576) (hf : ∀ x, GCall Tryz.prog F [.agg (DtCSet.cells x), .ptr 0 0] [[.s name]] [] (.g (.bool (p x))) []) : GCall Tryz.prog 89 [.sl 2 (xs.map DtCSet.cells), .fn F [] [.ptr 0 0]] [[.s name]] [] (.g (.int .i64 (idxZ p xs))) [] := by
 refine zbu Tryz.func89 (by rfl) (by rfl) (by rw [Tryz.ntmps89]; exact Nat.le_of_ble_eq_true rfl) rfl (by decide) ?_
 rw [Tryz.ntmps89]
 refine AW_k [(0, _), (1, _)] ⟨rfl, rfl, trivial⟩ ?_
 refine AW_r rfl rfl fun K hK => ?_
 simp (disch := omega)
 repeat' first | (refine zdh 0 (.inr rfl) (zcb [.s name] rfl) (zbh (zbz rfl) (zbh zcv zbs)) (hf _) rfl ?_; try simp (disch := omega)) | (refine ⟨by omega, ?_⟩) | (intro _)
 refine hK _ ?_; clear hK K
 refine zbm ?_
 refine AW_r rfl rfl fun K hK => ?_
 simp (disch := omega)
 repeat' first | (refine zdh 0 (.inr rfl) (zcb [.s name] rfl) (zbh (zbz rfl) (zbh zcv zbs)) (hf _) rfl ?_; try simp (disch := omega)) | (refine ⟨by omega, ?_⟩) | (intro _)
 refine hK _ ?_; clear hK K
 refine zbt ?_
 refine zb5 (fun mM sS => ∃ (i : Nat), mM = xs.length - i ∧ (i ≤ xs.length ∧ ∀ j x, j < i → xs[j]? = some x → p x = false) ∧ sS = { env := lkE [(0, .sl 2 (xs.map DtCSet.cells)), (1, .fn F [] [.ptr 0 0]), (6, .sl 2 (xs.map DtCSet.cells)), (7, (.g (.int .i64 ((xs.length : Nat))))), (8, (.g (.int .i64 ((i : Nat)))))], ob := formOb [[.s name]] [] }) ?_ ?_
 ·refine ⟨_, LeS.kp [(0, .sl 2 (xs.map DtCSet.cells)), (1, .fn F [] [.ptr 0 0]), (6, .sl 2 (xs.map DtCSet.cells)), (7, (.g (.int .i64 ((xs.length : Nat))))), (8, (.g (.int .i64 (((0) : Nat)))))] (by simp [KpE, zbe, zbv, zbc]; try rfl), _, 0, rfl, ?_, rfl⟩
  ·simp
 ·rintro mM sS ⟨i, rfl, ⟨hi, hpre⟩, rfl⟩
  refine AW_r rfl rfl fun K hK => ?_
  simp (disch := omega)
  repeat' first | (refine zdh 0 (.inr rfl) (zcb [.s name] rfl) (zbh (zbz rfl) (zbh zcv zbs)) (hf _) rfl ?_; try simp (disch := omega)) | (refine ⟨by omega, ?_⟩) | (intro _)
  refine hK _ ?_; clear hK K
  refine zbm ?_
  refine zbl rfl (fun hc1 => ?_) (fun hc1 => ?_)
  ·try simp [zba, zbb, zbf, zbd] at hc1
   all_goals
    have hg : xs[i]? = some (xs[i]) := List.getElem?_eq_getElem (by omega)
    refine zbn ?_
    refine zbq ?_
    refine zbm ?_
    refine zbt ?_
    refine AW_r rfl rfl fun K hK => ?_
    simp (disch := omega)
    repeat' first | (exfalso; omega) | (refine zdh 0 (.inr rfl) (zcb [.s name] rfl) (zbh (zbz rfl) (zbh zcv zbs)) (hf _) rfl ?_; try simp (disch := omega)) | (refine ⟨fun _ => ?_, fun _ => ?_⟩) | (refine ⟨by omega, ?_⟩) | (intro _)
    all_goals (refine hK _ ?_; clear hK K)
    all_goals
     refine AW_r rfl rfl fun K hK => ?_
     simp (disch := omega)
     repeat' first | (refine zdh 0 (.inr rfl) (zcb [.s name] rfl) (zbh (zbz rfl) (zbh zcv zbs)) (hf _) rfl ?_; try simp (disch := omega)) | (refine ⟨by omega, ?_⟩) | (intro _)
     refine hK _ ?_; clear hK K
     refine zbl rfl (fun hc2 => ?_) (fun hc2 => ?_)
     ·try simp [zba, zbb, zbf, zbd] at hc2
      all_goals
       refine AW_r rfl rfl fun K hK => ?_
       simp (disch := omega)
       repeat' first | (exfalso; omega) | (refine zdh 0 (.inr rfl) (zcb [.s name] rfl) (zbh (zbz rfl) (zbh zcv zbs)) (hf _) rfl ?_; try simp (disch := omega)) | (refine ⟨fun _ => ?_, fun _ => ?_⟩) | (refine ⟨by omega, ?_⟩) | (intro _)
       all_goals (refine hK _ ?_; clear hK K)
       all_goals
        refine zbo (zb4 ?_)
        simp (disch := omega)
        all_goals first | (exact zc1 (by assumption) (by assumption) hpre) | (exact zdv (fun j x h => hpre j x (by omega)))
     try simp [zba, zbb, zbf, zbd] at hc2
     refine zbn ?_
     refine zbq ?_
     refine zc6 rfl rfl fun K hK => ?_
     simp (disch := omega)
     repeat' first | (exfalso; omega) | (refine zdh 0 (.inr rfl) (zcb [.s name] rfl) (zbh (zbz rfl) (zbh zcv zbs)) (hf _) rfl ?_; try simp (disch := omega)) | (refine ⟨fun _ => ?_, fun _ => ?_⟩) | (refine ⟨by omega, ?_⟩) | (intro _)
     all_goals (refine hK _ ?_; clear hK K)
     all_goals
      refine ⟨_, LeS.kp [(0, .sl 2 (xs.map DtCSet.cells)), (1, .fn F [] [.ptr 0 0]), (6, .sl 2 (xs.map DtCSet.cells)), (7, (.g (.int .i64 ((xs.length : Nat))))), (8, (.g (.int .i64 (((i + 1) : Nat)))))] (by simp [KpE, zbe, zbv, zbc]; try rfl), _, ?_, i + 1, rfl, ?_, rfl⟩
      ·omega
      ·refine ⟨by omega, ?_⟩; grind
  try simp [zba, zbb, zbf, zbd] at hc1
  refine zb7 ?_
  refine zbq ?_
  refine AW_r rfl rfl fun K hK => ?_
  simp (disch := omega)
  repeat' first | (exfalso; omega) | (refine zdh 0 (.inr rfl) (zcb [.s name] rfl) (zbh (zbz rfl) (zbh zcv zbs)) (hf _) rfl ?_; try simp (disch := omega)) | (refine ⟨fun _ => ?_, fun _ => ?_⟩) | (refine ⟨by omega, ?_⟩) | (intro _)
  all_goals (refine hK _ ?_; clear hK K)
  all_goals
   refine zbo (zb4 ?_)
   simp (disch := omega)
   all_goals first | (exact zc1 (by assumption) (by assumption) hpre) | (exact zdv (fun j x h => hpre j x (by omega)))
attribute [local simp] DtCatalog.cells
attribute [-simp] DtCSet.cells
theorem zvg (c : DtCatalog) (name : List UInt8) (hs : c.fSets.length ≤ 1048576) : PCall Tryz.prog 61 [.agg (DtCatalog.cells c), .s name] (.g (.int .i64 (findS c.fSets name))) := by
 refine zbu Tryz.func61 (by rfl) (by rfl) (by rw [Tryz.ntmps61]; exact Nat.le_of_ble_eq_true rfl) rfl (by decide) ?_
 rw [Tryz.ntmps61]
 refine AW_k [(0, _), (1, _)] ⟨rfl, rfl, trivial⟩ ?_
 refine AW_r rfl rfl fun K hK => ?_
 simp
 repeat' first | (refine ⟨by omega, ?_⟩) | (intro _)
 refine hK _ ?_; clear hK K
 refine AW_r rfl rfl fun K hK => ?_
 simp
 repeat' first | (refine zdh 64 (.inl rfl) (zcb [.s name] rfl) (zbh zdd (zbh zsl zbs)) (zpg _ hs (fun x => set1 x name)) rfl ?_; simp) | (refine ⟨by omega, ?_⟩) | (intro _)
 refine hK _ ?_; clear hK K
 refine zbo (zb4 ?_)
 simp [findS]
 all_goals first | omega | (simp_all; done) | (simp [List.take_of_length_le]; done) | ((try simp_all); (try simp (disch := omega) only [zbi, Int.tdiv_eq_ediv_of_nonneg, Int.tmod_eq_emod_of_nonneg, and_true, true_and]); done) | ((try simp_all); (try simp (disch := omega) only [zbi, Int.tdiv_eq_ediv_of_nonneg, Int.tmod_eq_emod_of_nonneg, and_true, true_and] at *); omega)
theorem l15At (c : DtCatalog) (name : List UInt8) (hs : c.fSets.length ≤ 1048576) : PCall Tryz.prog 49 [.agg (DtCatalog.cells c), .s name] (.g (.int .i64 (findS c.fSets name))) := by
 refine zbu Tryz.func49 (by rfl) (by rfl) (by rw [Tryz.ntmps49]; exact Nat.le_of_ble_eq_true rfl) rfl (by decide) ?_
 rw [Tryz.ntmps49]
 refine AW_k [(0, _), (1, _)] ⟨rfl, rfl, trivial⟩ ?_
 refine AW_r rfl rfl fun K hK => ?_
 simp (disch := omega) [DtCatalog.cells]
 repeat' first | (refine ⟨by omega, ?_⟩) | (intro _)
 refine hK _ ?_; clear hK K
 refine zbm ?_
 refine AW_r rfl rfl fun K hK => ?_
 simp (disch := omega) [DtCatalog.cells]
 repeat' first | (refine ⟨by omega, ?_⟩) | (intro _)
 refine hK _ ?_; clear hK K
 refine zbt ?_
 refine zb5 (fun mM sS => ∃ (i : Nat), mM = c.fSets.length - i ∧ (i ≤ c.fSets.length ∧ ∀ j x, j < i → c.fSets[j]? = some x → eqB x.fName name = false) ∧ sS = { env := lkE [(1, .s name), (2, .ptr 48 0), (5, (.g (.int .i64 ((i : Nat)))))], ob := upd (formOb [] []) 48 (some (.cells (DtCatalog.cells c))) }) ?_ ?_
 ·refine ⟨_, LeS.kp [(1, .s name), (2, .ptr 48 0), (5, (.g (.int .i64 (((0) : Nat)))))] (by simp [KpE, zbe, zbv, zbc]; try rfl), _, 0, rfl, ?_, rfl⟩
  ·simp
 ·rintro mM sS ⟨i, rfl, ⟨hi, hpre⟩, rfl⟩
  refine zbm ?_
  refine AW_r rfl rfl fun K hK => ?_
  simp (disch := omega) [DtCatalog.cells, DtCSet.cells]
  repeat' first | (refine ⟨by omega, ?_⟩) | (intro _)
  refine hK _ ?_; clear hK K
  refine zbl rfl (fun hc3 => ?_) (fun hc3 => ?_)
  ·try simp [zba, zbb, zbf, zbd] at hc3
   all_goals
    have hg : c.fSets[i]? = some c.fSets[i] := List.getElem?_eq_getElem (by omega)
    refine zbn ?_
    refine zbq ?_
    refine zbm ?_
    refine zbt ?_
    refine AW_r rfl rfl fun K hK => ?_
    simp (disch := omega) [DtCatalog.cells, DtCSet.cells]
    repeat' first | (exfalso; omega) | (refine ⟨fun _ => ?_, fun _ => ?_⟩) | (refine ⟨by omega, ?_⟩) | (intro _)
    all_goals (refine hK _ ?_; clear hK K)
    all_goals
     refine zbl rfl (fun hc4 => ?_) (fun hc4 => ?_)
     ·try simp [zba, zbb, zbf, zbd] at hc4
      all_goals
       refine AW_r rfl rfl fun K hK => ?_
       simp (disch := omega) [DtCatalog.cells, DtCSet.cells]
       repeat' first | (exfalso; omega) | (refine ⟨fun _ => ?_, fun _ => ?_⟩) | (refine ⟨by omega, ?_⟩) | (intro _)
       all_goals (refine hK _ ?_; clear hK K)
       all_goals
        refine zbo (zb4 ?_)
        simp (disch := omega) [DtCatalog.cells, DtCSet.cells]
        all_goals first | (unfold findS; rw [zc1 (by assumption) (by simp_all [zbf]) hpre]; done) | (unfold findS; exact (zc1 (by assumption) (by simp_all [zbf]) hpre)) | (unfold findS; exact zdv (fun j x h => hpre j x (by omega)))
     try simp [zba, zbb, zbf, zbd] at hc4
     refine zbn ?_
     refine zbq ?_
     refine zc6 rfl rfl fun K hK => ?_
     simp (disch := omega) [DtCatalog.cells, DtCSet.cells]
     repeat' first | (exfalso; omega) | (refine ⟨fun _ => ?_, fun _ => ?_⟩) | (refine ⟨by omega, ?_⟩) | (intro _)
     all_goals (refine hK _ ?_; clear hK K)
     all_goals
      refine ⟨_, LeS.kp [(1, .s name), (2, .ptr 48 0), (5, (.g (.int .i64 (((i + 1) : Nat)))))] (by simp [KpE, zbe, zbv, zbc]; try rfl), _, ?_, i + 1, rfl, ?_, rfl⟩
      ·omega
      ·refine ⟨by omega, ?_⟩; grind [zbd]
  try simp [zba, zbb, zbf, zbd] at hc3
  refine zb7 ?_
  refine zbq ?_
  refine AW_r rfl rfl fun K hK => ?_
  simp (disch := omega) [DtCatalog.cells, DtCSet.cells]
  repeat' first | (exfalso; omega) | (refine ⟨fun _ => ?_, fun _ => ?_⟩) | (refine ⟨by omega, ?_⟩) | (intro _)
  all_goals (refine hK _ ?_; clear hK K)
  all_goals
   refine zbo (zb4 ?_)
   simp (disch := omega) [DtCatalog.cells, DtCSet.cells]
   all_goals first | (unfold findS; rw [zc1 (by assumption) (by simp_all [zbf]) hpre]; done) | (unfold findS; exact (zc1 (by assumption) (by simp_all [zbf]) hpre)) | (unfold findS; exact zdv (fun j x h => hpre j x (by omega)))
attribute [local simp] cS
attribute [-simp] DtCatalog.cells
def spc : List (List UInt8) → List UInt8
 | [] => []
 | x :: l => x ++ l.flatMap (fun t => 32 :: t)
theorem spc_snoc (l : List (List UInt8)) (x : List UInt8) : spc (l ++ [x]) = if l = [] then x else spc l ++ (32 :: x) := by
 cases l with
 | nil => simp [spc]
 | cons y l => simp [spc]
theorem zkp (l : List (List UInt8)) (i : Nat) (h : i < l.length) : spc (l.take (i + 1)) = if i = 0 then l[i] else spc (l.take i) ++ (32 :: l[i]) := by
 rw [List.take_succ_eq_append_getElem h, spc_snoc]
 cases i with
 | zero => simp
 | succ i =>
  have : l.take (i + 1) ≠ [] := by
   intro e
   have h2 : (l.take (i + 1)).length = i + 1 := by rw [List.length_take]; omega
   rw [e] at h2; simp at h2
  rw [if_neg this, if_neg (by omega)]
theorem spc_pre (l : List (List UInt8)) (i : Nat) : (spc (l.take i)).length ≤ (spc l).length := by
 cases l with
 | nil => simp
 | cons x l =>
  cases i with
  | zero => simp [spc]
  | succ i =>
   rw [List.take_succ_cons]
   show (x ++ (l.take i).flatMap _).length ≤ (x ++ l.flatMap _).length
   have e : l.flatMap (fun t => (32 : UInt8) :: t) = (l.take i).flatMap (fun t => 32 :: t) ++ (l.drop i).flatMap (fun t => 32 :: t) := by rw [← List.flatMap_append, List.take_append_drop]
   rw [e]; simp
theorem zvh (l : List (List UInt8)) (i : Nat) (h : i < l.length) (hb : (spc l).length ≤ 1073741824) : (spc (l.take i)).length + l[i].length ≤ 1073741824 ∧ (0 < i → (spc (l.take i)).length + 1 + l[i].length ≤ 1073741824) := by
 have h1 := spc_pre l (i + 1)
 rw [zkp l i h] at h1
 split at h1
 ·rename_i h0; subst h0; simp [spc]; omega
 ·simp at h1; omega
theorem zph (l : List (List UInt8)) (hs : l.length ≤ 1048576) (hb : (spc l).length ≤ 1073741824) : PCall Tryz.prog 88 [.sl 1 (l.map cS)] (.s (spc l)) := by
 refine zbu Tryz.func88 (by rfl) (by rfl) (by rw [Tryz.ntmps88]; exact Nat.le_of_ble_eq_true rfl) rfl (by decide) ?_
 rw [Tryz.ntmps88]
 refine AW_k [(0, _)] ⟨rfl, trivial⟩ ?_
 refine AW_r rfl rfl fun K hK => ?_
 simp (disch := omega)
 repeat' first | (refine ⟨by omega, ?_⟩) | (intro _)
 refine hK _ ?_; clear hK K
 refine AW_r rfl rfl fun K hK => ?_
 simp (disch := omega)
 repeat' first | (refine ⟨by omega, ?_⟩) | (intro _)
 refine hK _ ?_; clear hK K
 refine zbm ?_
 refine AW_r rfl rfl fun K hK => ?_
 simp (disch := omega)
 repeat' first | (refine ⟨by omega, ?_⟩) | (intro _)
 refine hK _ ?_; clear hK K
 refine zbt ?_
 refine zb5 (fun mM sS => ∃ (i : Nat), mM = l.length - i ∧ (i ≤ l.length) ∧ sS = { env := lkE [(3, .s (spc (l.take i))), (6, .sl 1 (l.map cS)), (7, (.g (.int .i64 ((l.length : Nat))))), (8, (.g (.int .i64 ((i : Nat)))))], ob := formOb [] [] }) ?_ ?_
 ·refine ⟨_, LeS.kp [(3, .s (spc (l.take (0)))), (6, .sl 1 (l.map cS)), (7, (.g (.int .i64 ((l.length : Nat))))), (8, (.g (.int .i64 (((0) : Nat)))))] (by simp [KpE, zbe, zbv, zbc]; all_goals first | rfl | (rw [hsp]; split <;> first | rfl | (simp [spc]; done) | (subst_vars; simp [spc]; done) | (exfalso; omega) | (simp_all; done))), _, 0, rfl, ?_, rfl⟩
  ·simp
 ·rintro mM sS ⟨i, rfl, hi, rfl⟩
  refine AW_r rfl rfl fun K hK => ?_
  simp (disch := omega)
  repeat' first | (refine ⟨by omega, ?_⟩) | (intro _)
  refine hK _ ?_; clear hK K
  refine zbm ?_
  refine zbl rfl (fun hc5 => ?_) (fun hc5 => ?_)
  ·try simp [zba, zbb, zbf, zbd] at hc5
   all_goals
    have hsp := zkp l i (by omega)
    have ⟨hbd1, hbd2⟩ := zvh l i (by omega) hb
    refine zbn ?_
    refine zbq ?_
    refine zbm ?_
    refine zbt ?_
    refine AW_r rfl rfl fun K hK => ?_
    simp (disch := omega)
    repeat' first | (exfalso; omega) | (refine ⟨fun _ => ?_, fun _ => ?_⟩) | (refine ⟨by omega, ?_⟩) | (intro _)
    all_goals (refine hK _ ?_; clear hK K)
    all_goals
     refine zbm ?_
     refine AW_r rfl rfl fun K hK => ?_
     simp (disch := omega)
     repeat' first | (refine ⟨by omega, ?_⟩) | (intro _)
     refine hK _ ?_; clear hK K
     refine zbl rfl (fun hc6 => ?_) (fun hc6 => ?_)
     ·try simp [zba, zbb, zbf, zbd] at hc6
      all_goals
       refine zc6 rfl rfl fun K hK => ?_
       simp (disch := omega)
       repeat' first | (exfalso; omega) | (refine ⟨fun _ => ?_, fun _ => ?_⟩) | (refine ⟨by omega, ?_⟩) | (intro _)
       all_goals (refine hK _ ?_; clear hK K)
       all_goals
        refine zbq ?_
        refine zc6 rfl rfl fun K hK => ?_
        simp (disch := omega)
        repeat' first | (refine ⟨by omega, ?_⟩) | (intro _)
        refine hK _ ?_; clear hK K
        refine zbq ?_
        refine zc6 rfl rfl fun K hK => ?_
        simp (disch := omega)
        repeat' first | (refine ⟨by omega, ?_⟩) | (intro _)
        refine hK _ ?_; clear hK K
        refine ⟨_, LeS.kp [(3, .s (spc (l.take (i + 1)))), (6, .sl 1 (l.map cS)), (7, (.g (.int .i64 ((l.length : Nat))))), (8, (.g (.int .i64 (((i + 1) : Nat)))))] (by simp [KpE, zbe, zbv, zbc]; all_goals first | rfl | (rw [hsp]; split <;> first | rfl | (simp [spc]; done) | (subst_vars; simp [spc]; done) | (exfalso; omega) | (simp_all; done))), _, ?_, i + 1, rfl, ?_, rfl⟩
        ·omega
        ·omega
     try simp [zba, zbb, zbf, zbd] at hc6
     refine zbn ?_
     refine zbq ?_
     refine zc6 rfl rfl fun K hK => ?_
     simp (disch := omega)
     repeat' first | (exfalso; omega) | (refine ⟨fun _ => ?_, fun _ => ?_⟩) | (refine ⟨by omega, ?_⟩) | (intro _)
     all_goals (refine hK _ ?_; clear hK K)
     all_goals
      refine zbq ?_
      refine zc6 rfl rfl fun K hK => ?_
      simp (disch := omega)
      repeat' first | (refine ⟨by omega, ?_⟩) | (intro _)
      refine hK _ ?_; clear hK K
      refine ⟨_, LeS.kp [(3, .s (spc (l.take (i + 1)))), (6, .sl 1 (l.map cS)), (7, (.g (.int .i64 ((l.length : Nat))))), (8, (.g (.int .i64 (((i + 1) : Nat)))))] (by simp [KpE, zbe, zbv, zbc]; all_goals first | rfl | (rw [hsp]; split <;> first | rfl | (simp [spc]; done) | (subst_vars; simp [spc]; done) | (exfalso; omega) | (simp_all; done))), _, ?_, i + 1, rfl, ?_, rfl⟩
      ·omega
      ·omega
  try simp [zba, zbb, zbf, zbd] at hc5
  refine zb7 ?_
  refine zbq ?_
  refine AW_r rfl rfl fun K hK => ?_
  simp (disch := omega)
  repeat' first | (exfalso; omega) | (refine ⟨fun _ => ?_, fun _ => ?_⟩) | (refine ⟨by omega, ?_⟩) | (intro _)
  all_goals (refine hK _ ?_; clear hK K)
  all_goals
   refine zbo (zb4 ?_)
   simp (disch := omega)
   all_goals ((have e : i = l.length := by omega); subst e; simp)
end Go.Proofs.YtmheohnbkaoipaaGreat.Vs
