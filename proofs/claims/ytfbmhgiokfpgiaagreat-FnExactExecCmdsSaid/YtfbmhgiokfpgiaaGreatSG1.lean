import Derived.Test.YtfbmhgiokfpgiaaGreatSE2
open Go Go.Proofs Go.Proofs.YtfbmhgiokfpgiaaGreat.Vs
namespace Go.Proofs.YtfbmhgiokfpgiaaGreat.Vs
set_option linter.all false
set_option linter.unusedSimpArgs false
set_option linter.unusedVariables false
set_option maxRecDepth 100000
theorem tkm {α β : Type} (l : List α) (f : α → β) : List.take l.length (l.map f) = l.map f := List.take_of_length_le (by simp)
def zeroInst (id : DtId) : DtInst := ⟨id, -1, -1, 0, zeroCmd, 0, [], false⟩
noncomputable def instAt (l : List DtInst) (id : DtId) : DtInst := (l.find? fun x => eqB x.fId id).getD (zeroInst id)
theorem zkn {l : List DtInst} {id : DtId} {i : Nat} (hi : i < l.length) (h : l[i].fId = id) (hb : ∀ (j : Nat) x, j < i → l[j]? = some x → ¬ x.fId = id) : instAt l id = l[i] := by
 have : l.find? (fun x => eqB x.fId id) = some l[i] := by
  rw [List.find?_eq_some_iff_getElem]
  refine ⟨by rw [zbg]; exact h, i, hi, rfl, fun j hj => ?_⟩
  have := hb j l[j] hj (List.getElem?_eq_getElem (by omega))
  simp [zci this]
 rw [instAt, this]; rfl
def InstSm (x : DtInst) : Prop := x.fCmd.fChunks.length ≤ 1048576 ∧ x.fDeps.length ≤ 1048576 ∧ DtCmd.sz x.fCmd ≤ 1048576
end Go.Proofs.YtfbmhgiokfpgiaaGreat.Vs
