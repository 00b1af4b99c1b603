import Derived.Test.YtfbmhgiokfpgiaaGreatSSrV
import Derived.Test.YtfbmhgiokfpgiaaGreatSSlQ
import Derived.Test.YtfbmhgiokfpgiaaGreatSReQ
open Go Go.Proofs.YtfbmhgiokfpgiaaGreat.Vs Go.Proofs Go.Sort
namespace Go.Proofs.YtfbmhgiokfpgiaaGreat.Vs
set_option linter.all false
set_option linter.unusedSimpArgs false
set_option linter.unusedVariables false
def encId (x : DtId) : List Value := [.int .i64 x.fRep, .int .i64 x.fSlot]
theorem swo_id : SWO (ltOf cmpI) := by
 refine ⟨fun x => ?_, fun x y z h1 h2 => ?_, fun x y z h1 h2 => ?_⟩
 ·rw [zfk, zbb]; exact zgd x
 ·rw [zfk, zbc] at h1 h2 ⊢; exact zdl h1 h2
 ·rw [zfk, zbb] at h1 h2 ⊢
  intro h
  by_cases e : y = x
  ·subst e; exact h2 h
  ·exact h2 (zdl (zhr h1 (fun e2 => e e2.symm)) h)
instance : Inhabited DtId := ⟨⟨0, 0⟩⟩
theorem sortIds (l : List DtId) (hl : l.length ≤ 1048576) : XCall Tryz.prog 69 [.arr 8 0 l.length, .fn 66 [] []] [.own 2 (l.map DtId.cells)] (.tup []) [.own 2 ((srt cmpI l).map DtId.cells)] [] := by
 refine sortFX_of (enc := encId) (fun _ => rfl) (fun x v hv => ?_) (cf := cmpI) ⟨_, Tryz.func69, by kernel_rfl, by kernel_rfl⟩ (fun cb blk cap d w hcmp hH hblk hsz => ?_) (fun p cap fv w => ?_) (fun x y => ?_) l hl
 ·simp only [encId, List.mem_cons, List.not_mem_nil, or_false] at hv
  rcases hv with rfl | rfl <;> rfl
 ·exact Go.Proofs.AnyQ.slices_SortFunc_total Tryz.laysSort 2 (fun w => Tryz.isAgg44 w) (fun w => Tryz.sizeOf44 w) encId (fun _ => rfl) (fun x v hv => by
   simp only [encId, List.mem_cons, List.not_mem_nil, or_false] at hv
   rcases hv with rfl | rfl <;> rfl) cmpI swo_id _ cb blk 0 cap d w (fun args w => enters_of Tryz.func66 (by kernel_rfl) rfl args w) hcmp hH hblk hsz (fun x y h1 h2 => by
    rw [zfk, zbb] at h1 h2
    exact Classical.byContradiction fun h => h2 (zhr h1 h))
 ·exact Go.Proofs.AnyF.slices_SortFunc_none Tryz.laysSort p cap fv w
 ·exact zhp x y
end Go.Proofs.YtfbmhgiokfpgiaaGreat.Vs
