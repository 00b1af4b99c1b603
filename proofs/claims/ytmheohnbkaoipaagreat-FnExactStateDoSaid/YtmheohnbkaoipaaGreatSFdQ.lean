import Derived.Test.YtmheohnbkaoipaaGreatSToldQ
open Go Go.Proofs Go.Proofs.YtmheohnbkaoipaaGreat.Vs
namespace Go.Proofs.YtmheohnbkaoipaaGreat.Vs
set_option linter.all false
set_option linter.unusedSimpArgs false
set_option linter.unusedVariables false
set_option maxRecDepth 100000
attribute [local simp] DtCSet.cells DtCSnap.cells
theorem tld_at (s : DtCSet) (i : Nat) (h : i < s.fSnaps.length) (hb : (spc (tldL s)).length ≤ 1073741824) : spc ((tldL s).take (i + 1)) = (if i = 0 then [] else spc ((tldL s).take i) ++ [32]) ++ s.fSnaps[i].fName ++ 58 :: s.fSnaps[i].fTag ∧ (spc ((tldL s).take i)).length + s.fSnaps[i].fName.length + s.fSnaps[i].fTag.length + 1 ≤ 1073741824 := by
 have hl : i < (tldL s).length := by simpa [tldL] using h
 have e : (tldL s)[i] = s.fSnaps[i].fName ++ 58 :: s.fSnaps[i].fTag := by simp [tldL]
 have h1 := zkp (tldL s) i hl
 have h2 := (zvh (tldL s) i hl hb).1
 rw [e] at h2
 refine ⟨?_, by simp at h2; omega⟩
 rw [h1, e]
 split <;> simp
theorem l15Read (s : DtCSet) (hs : s.fSnaps.length ≤ 1048576) (hb : (spc (tldL s)).length ≤ 1073741824) : PCall Tryz.prog 81 [.agg (DtCSet.cells s)] (.s (spc (tldL s))) := by
 refine zbu Tryz.func81 (by rfl) (by rfl) (by rw [Tryz.ntmps81]; exact Nat.le_of_ble_eq_true rfl) rfl (by decide) ?_
 rw [Tryz.ntmps81]
 refine AW_k [(0, _)] ⟨rfl, trivial⟩ ?_
 refine AW_r rfl rfl fun K hK => ?_
 simp (disch := omega)
 repeat' first | (refine ⟨by omega, ?_⟩) | (intro _)
 refine hK _ ?_; clear hK K
 refine AW_r rfl rfl fun K hK => ?_
 simp (disch := omega)
 repeat' first | (refine ⟨by omega, ?_⟩) | (intro _)
 refine hK _ ?_; clear hK K
 refine zbm ?_
 refine AW_r rfl rfl fun K hK => ?_
 simp (disch := omega)
 repeat' first | (refine ⟨by omega, ?_⟩) | (intro _)
 refine hK _ ?_; clear hK K
 refine zbt ?_
 refine zb5 (fun mM sS => ∃ (i : Nat), mM = s.fSnaps.length - i ∧ (i ≤ s.fSnaps.length) ∧ sS = { env := lkE [(1, .ptr 32 0), (3, .s (spc ((tldL s).take i))), (4, (.g (.int .i64 ((i : Nat)))))], ob := upd (formOb [] []) 32 (some (.cells (DtCSet.cells s))) }) ?_ ?_
 ·refine ⟨_, LeS.kp [(1, .ptr 32 0), (3, .s (spc ((tldL s).take (0)))), (4, (.g (.int .i64 (((0) : Nat)))))] (by simp [KpE, zbe, zbv, zbc]; all_goals first | rfl | (rw [htk]; split <;> first | rfl | (simp [spc]; done) | (subst_vars; simp [spc]; done) | (exfalso; omega) | (simp_all; done))), _, 0, rfl, ?_, rfl⟩
  ·simp
 ·rintro mM sS ⟨i, rfl, hi, rfl⟩
  refine zbm ?_
  refine AW_r rfl rfl fun K hK => ?_
  simp (disch := omega)
  repeat' first | (refine ⟨by omega, ?_⟩) | (intro _)
  refine hK _ ?_; clear hK K
  refine zbl rfl (fun hc1 => ?_) (fun hc1 => ?_)
  ·try simp [zba, zbb, zbf, zbd] at hc1
   all_goals
    have hg : s.fSnaps[i]? = some s.fSnaps[i] := List.getElem?_eq_getElem (by omega)
    have ⟨htk, hbd⟩ := tld_at s i (by omega) hb
    refine zbn ?_
    refine zbq ?_
    refine zbm ?_
    refine zbt ?_
    refine zbm ?_
    refine AW_r rfl rfl fun K hK => ?_
    simp (disch := omega)
    repeat' first | (exfalso; omega) | (refine ⟨fun _ => ?_, fun _ => ?_⟩) | (refine ⟨by omega, ?_⟩) | (intro _)
    all_goals (refine hK _ ?_; clear hK K)
    all_goals
     refine zbl rfl (fun hc2 => ?_) (fun hc2 => ?_)
     ·try simp [zba, zbb, zbf, zbd] at hc2
      all_goals
       refine zc6 rfl rfl fun K hK => ?_
       simp (disch := omega)
       repeat' first | (exfalso; omega) | (refine ⟨fun _ => ?_, fun _ => ?_⟩) | (refine ⟨by omega, ?_⟩) | (intro _)
       all_goals (refine hK _ ?_; clear hK K)
       all_goals
        refine zbq ?_
        refine AW_qe rfl mix (by kernel_rfl) rfl fun K hK => ?_
        simp (disch := omega)
        repeat' first | (refine ⟨by omega, ?_⟩) | (intro _)
        refine hK _ ?_; clear hK K
        refine zbq ?_
        refine zc6 rfl rfl fun K hK => ?_
        simp (disch := omega)
        repeat' first | (refine ⟨by omega, ?_⟩) | (intro _)
        refine hK _ ?_; clear hK K
        refine ⟨_, LeS.kp [(1, .ptr 32 0), (3, .s (spc ((tldL s).take (i + 1)))), (4, (.g (.int .i64 (((i + 1) : Nat)))))] (by simp [KpE, zbe, zbv, zbc]; all_goals first | rfl | (rw [htk]; split <;> first | rfl | (simp [spc]; done) | (subst_vars; simp [spc]; done) | (exfalso; omega) | (simp_all; done))), _, ?_, i + 1, rfl, ?_, rfl⟩
        ·omega
        ·omega
     try simp [zba, zbb, zbf, zbd] at hc2
     refine zbn ?_
     refine zbq ?_
     refine AW_qe rfl mix (by kernel_rfl) rfl fun K hK => ?_
     simp (disch := omega)
     repeat' first | (exfalso; omega) | (refine ⟨fun _ => ?_, fun _ => ?_⟩) | (refine ⟨by omega, ?_⟩) | (intro _)
     all_goals (refine hK _ ?_; clear hK K)
     all_goals
      refine zbq ?_
      refine zc6 rfl rfl fun K hK => ?_
      simp (disch := omega)
      repeat' first | (refine ⟨by omega, ?_⟩) | (intro _)
      refine hK _ ?_; clear hK K
      refine ⟨_, LeS.kp [(1, .ptr 32 0), (3, .s (spc ((tldL s).take (i + 1)))), (4, (.g (.int .i64 (((i + 1) : Nat)))))] (by simp [KpE, zbe, zbv, zbc]; all_goals first | rfl | (rw [htk]; split <;> first | rfl | (simp [spc]; done) | (subst_vars; simp [spc]; done) | (exfalso; omega) | (simp_all; done))), _, ?_, i + 1, rfl, ?_, rfl⟩
      ·omega
      ·omega
  try simp [zba, zbb, zbf, zbd] at hc1
  have hi3 : i = s.fSnaps.length := by omega
  have htf : (tldL s).take i = tldL s := List.take_of_length_le (by simp [tldL]; omega)
  refine zb7 ?_
  refine zbq ?_
  refine AW_r rfl rfl fun K hK => ?_
  simp (disch := omega)
  repeat' first | (exfalso; omega) | (refine ⟨fun _ => ?_, fun _ => ?_⟩) | (refine ⟨by omega, ?_⟩) | (intro _)
  all_goals (refine hK _ ?_; clear hK K)
  all_goals
   refine zbo (zb4 ?_)
   simp (disch := omega)
   all_goals (rw [htf])
end Go.Proofs.YtmheohnbkaoipaaGreat.Vs
