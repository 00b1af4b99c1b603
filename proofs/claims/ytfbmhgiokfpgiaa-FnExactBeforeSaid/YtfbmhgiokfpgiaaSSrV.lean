import Derived.Test.YtfbmhgiokfpgiaaSBfV
import Derived.Test.YtfbmhgiokfpgiaaVs9
open Go Go.Proofs Go.Proofs.Ytfbmhgiokfpgiaa.Vs
namespace Go.Proofs.Ytfbmhgiokfpgiaa.Vs
set_option linter.all false
set_option linter.unusedSimpArgs false
set_option linter.unusedVariables false
theorem zd9 (a b : DtId) : ltOf cmpI a b = decB (idLt a b) := by
 rw [Bool.eq_iff_iff, zbb, ← zbp]
 unfold ltOf
 simp
theorem srt_mem {l : List DtId} (x : DtId) : x ∈ srt cmpI l ↔ x ∈ l := List.mem_mergeSort
theorem srt_srt {l : List DtId} (hn : l.Nodup) : Srt (srt cmpI l) := by
 have h1 : (srt cmpI l).Pairwise fun a b => (!(ltOf cmpI) b a) = true := by
  refine List.pairwise_mergeSort (fun a b c hab hbc => ?_) (fun a b => ?_) l
  ·rw [Bool.not_eq_true', zd9, zba] at hab hbc ⊢
   intro hca
   by_cases e : b = a
   ·subst e; exact hbc hca
   ·exact hbc (zdc hca (zha hab e))
  ·rw [Bool.or_eq_true, Bool.not_eq_true', Bool.not_eq_true', zd9, zd9, zba, zba]
   by_cases h : idLt b a
   ·exact .inr fun h2 => zf0 _ (zdc h h2)
   ·exact .inl h
 have h2 : (srt cmpI l).Nodup := (List.mergeSort_perm _ _).nodup_iff.2 hn
 refine List.Pairwise.imp₂ (fun a b h3 h4 => ?_) h1 h2
 rw [Bool.not_eq_true', zd9, zba] at h3
 exact zha h3 (fun e => h4 e.symm)
theorem zq6 {l : List DtInst} (h : InstsP l) {id : DtId} {off : Nat} {zs out : List DtId} (hb : Bf l id none [] off zs out) (ho : zs.length ≤ off) : srt cmpI out = reachL l id := by
 obtain ⟨h1, h2⟩ := zc9 h id
 refine zsy _ _ (srt_srt hb.hn) h1 fun x => ?_
 rw [srt_mem, h2, bf_end hb ho]
end Go.Proofs.Ytfbmhgiokfpgiaa.Vs
