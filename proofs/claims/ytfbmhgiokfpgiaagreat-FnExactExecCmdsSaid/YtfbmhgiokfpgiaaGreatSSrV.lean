import Derived.Test.YtfbmhgiokfpgiaaGreatSBfV
import Derived.Test.YtfbmhgiokfpgiaaGreatVs9
open Go Go.Proofs Go.Proofs.YtfbmhgiokfpgiaaGreat.Vs
namespace Go.Proofs.YtfbmhgiokfpgiaaGreat.Vs
set_option linter.all false
set_option linter.unusedSimpArgs false
set_option linter.unusedVariables false
theorem zfk (a b : DtId) : ltOf cmpI a b = decB (idLt a b) := by
 rw [Bool.eq_iff_iff, zbc, ← zbq]
 unfold ltOf
 simp
theorem srt_mem {l : List DtId} (x : DtId) : x ∈ srt cmpI l ↔ x ∈ l := List.mem_mergeSort
theorem srt_srt {l : List DtId} (hn : l.Nodup) : Srt (srt cmpI l) := by
 have h1 : (srt cmpI l).Pairwise fun a b => (!(ltOf cmpI) b a) = true := by
  refine List.pairwise_mergeSort (fun a b c hab hbc => ?_) (fun a b => ?_) l
  ·rw [Bool.not_eq_true', zfk, zbb] at hab hbc ⊢
   intro hca
   by_cases e : b = a
   ·subst e; exact hbc hca
   ·exact hbc (zdl hca (zhr hab e))
  ·rw [Bool.or_eq_true, Bool.not_eq_true', Bool.not_eq_true', zfk, zfk, zbb, zbb]
   by_cases h : idLt b a
   ·exact .inr fun h2 => zgd _ (zdl h h2)
   ·exact .inl h
 have h2 : (srt cmpI l).Nodup := (List.mergeSort_perm _ _).nodup_iff.2 hn
 refine List.Pairwise.imp₂ (fun a b h3 h4 => ?_) h1 h2
 rw [Bool.not_eq_true', zfk, zbb] at h3
 exact zhr h3 (fun e => h4 e.symm)
theorem zrx {l : List DtInst} (h : InstsP l) {id : DtId} {off : Nat} {zs out : List DtId} (hb : Bf l id none [] off zs out) (ho : zs.length ≤ off) : srt cmpI out = reachL l id := by
 obtain ⟨h1, h2⟩ := zdj h id
 refine ztq _ _ (srt_srt hb.hn) h1 fun x => ?_
 rw [srt_mem, h2, bf_end hb ho]
end Go.Proofs.YtfbmhgiokfpgiaaGreat.Vs
