import Derived.Test.YtfbmhgiokfpgiaaSSrV
import Derived.Test.YtfbmhgiokfpgiaaSSlQ
import Derived.Test.YtfbmhgiokfpgiaaSReQ
open Go Go.Proofs.Ytfbmhgiokfpgiaa.Vs Go.Proofs Go.Sort
namespace Go.Proofs.Ytfbmhgiokfpgiaa.Vs
set_option linter.all false
set_option linter.unusedSimpArgs false
set_option linter.unusedVariables false
def encId (x : DtId) : List Value := [.int .i64 x.fRep, .int .i64 x.fSlot]
theorem swo_id : SWO (ltOf cmpI) := by
 refine ⟨fun x => ?_, fun x y z h1 h2 => ?_, fun x y z h1 h2 => ?_⟩
 ·rw [zd9, zba]; exact zf0 x
 ·rw [zd9, zbb] at h1 h2 ⊢; exact zdc h1 h2
 ·rw [zd9, zba] at h1 h2 ⊢
  intro h
  by_cases e : y = x
  ·subst e; exact h2 h
  ·exact h2 (zdc (zha h1 (fun e2 => e e2.symm)) h)
instance : Inhabited DtId := ⟨⟨0, 0⟩⟩
theorem sortIds (l : List DtId) (hl : l.length ≤ 1048576) : XCall Try.prog 60 [.arr 8 0 l.length, .fn 40 [] []] [.own 2 (l.map DtId.cells)] (.tup []) [.own 2 ((srt cmpI l).map DtId.cells)] [] := by
 refine zzn (enc := encId) (fun _ => rfl) (fun x v hv => ?_) (cf := cmpI) ⟨_, Try.func60, by kernel_rfl, by kernel_rfl⟩ (fun cb blk cap d w hcmp hH hblk hsz => ?_) (fun p cap fv w => ?_) (fun x y => ?_) l hl
 ·simp only [encId, List.mem_cons, List.not_mem_nil, or_false] at hv
  rcases hv with rfl | rfl <;> rfl
 ·exact Go.Proofs.AnyQ.slices_SortFunc_total Try.laysSort 2 (fun w => Try.isAgg36 w) (fun w => Try.sizeOf36 w) encId (fun _ => rfl) (fun x v hv => by
   simp only [encId, List.mem_cons, List.not_mem_nil, or_false] at hv
   rcases hv with rfl | rfl <;> rfl) cmpI swo_id _ cb blk 0 cap d w (fun args w => enters_of Try.func40 (by kernel_rfl) rfl args w) hcmp hH hblk hsz (fun x y h1 h2 => by
    rw [zd9, zba] at h1 h2
    exact Classical.byContradiction fun h => h2 (zha h1 h))
 ·exact Go.Proofs.AnyF.slices_SortFunc_none Try.laysSort p cap fv w
 ·exact zg9 x y
end Go.Proofs.Ytfbmhgiokfpgiaa.Vs
