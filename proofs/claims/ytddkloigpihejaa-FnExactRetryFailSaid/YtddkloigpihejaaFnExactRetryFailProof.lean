/- The program's RetryFail returns what the reference's returns, for all arguments; there is no further condition. -/
import Derived.Test.YtddkloigpihejaaSR2
import Derived.Test.YtddkloigpihejaaRows
import Derived.WalkKit
import Derived.ProofKit
import Derived.OpenShut
namespace Go.Proofs.Ytddkloigpihejaa.fnExactRetryFail
set_option linter.unusedVariables false
set_option linter.unusedSimpArgs false
set_option linter.unusedSectionVars false
set_option linter.unnecessarySimpa false
set_option linter.all false
open Go.ChangeShapes Go.WideShapes Go.ChangeAt Go.RowKit Go.Proofs.Ytddkloigpihejaa.Vs
set_option linter.unusedVariables false
theorem own : ownKnob Try.prog.godebug = none := by kernel_rfl
theorem laid : laidOutB Try.prog = true := by kernel_rfl
theorem c3 : Try.prog.cellsOf 3 = 1 := by kernel_rfl
theorem walk : ∀ l, shpA Try.prog 6 [23, 3] l → PCall Try.prog 8 l (.g (.bool true)) := by
  rintro l ⟨cs0, l0, rfl, h100, cs1, l1, rfl, h101, rfl⟩
  have e0 : argA Try.prog 23 cs0 = .agg cs0 := by unfold argA; rw [Try.underlying23]
  have e1 : argA Try.prog 3 cs1 = cs1.headD .undef := by unfold argA; rw [Try.underlying3]
  rw [e0, e1]
  unfold shp at h100
  rw [Try.underlying23] at h100
  simp only [shpF, shp, Try.underlying3, Try.underlying23, c3] at h100
  obtain ⟨_, _, rfl, -, ⟨x1, rfl, -⟩, _, _, rfl, -, ⟨x2, rfl, -⟩, _, _, rfl, -, ⟨x3, rfl, -⟩, _, _, rfl, -, ⟨x4, rfl, -⟩, rfl⟩ := h100
  unfold shp at h101
  rw [Try.underlying3] at h101
  obtain ⟨x5, rfl, -⟩ := h101
  try rw [c3]
  exact lawRetryFail x1 x2 x3 x4 x5
set_option maxRecDepth 100000 in
theorem lifted (os : Os) (started : os.Started) (H : Type) (enc : TypeId × Value → H) :
    ReturnsInHanded {} Try.checked os 8 .any (Rows.fnExactRetryFailSpec.pre6 enc Try.prog Try.f8 Rows.fnExactRetryFailRow.domain false) (Rows.fnExactRetryFailSpec.post enc Try.prog Try.f8 false true false false) := by
  refine returnsInHanded_of_change (C := Try.checked) own started (by kernel_rfl) Try.func8
    (ChangeSpec.witness6 (enc := enc) (C := Try.checked) false ⟨#[], #[.agg #[.int .i64 0, .int .i64 0, .int .i64 0, .int .i64 0], .int .i64 0], []⟩ 8 (by kernel_rfl) (by kernel_rfl) (by kernel_rfl) (by kernel_rfl)) ?_
  intro W base args ds gs before hval hW hcnd _
  refine law_post (n := 6) (tb := 4) rfl laid (by kernel_rfl) ?_ rfl Try.underlying4 ?_ ?_ hval hW
  · rw [Try.params8]
    intro t ht
    have : t = 23 ∨ t = 3 := by simpa using ht
    rcases this with rfl | rfl
    · exact ⟨by kernel_rfl, of_decide_eq_true (by kernel_rfl)⟩
    · exact ⟨by kernel_rfl, of_decide_eq_true (by kernel_rfl)⟩
  · intro ds hds
    rw [Try.params8] at hds
    match ds, hds with
    | [d0, d1], _ => exact ⟨rfl, rfl, rfl⟩
  · rw [Try.params8]
    exact walk
theorem over : Rows.fnExactRetryFailRow.holds Try.pinned (OpenSpec.ofChange Rows.fnExactRetryFailSpec) :=
  OpenClaim.holds_of_wide 8 Try.f8 rfl rfl rfl rfl rfl rfl rfl ⟨rfl, rfl, rfl, rfl, rfl⟩ rfl rfl rfl rfl rfl (by kernel_rfl) Try.func8 (by kernel_rfl)
    (of_decide_eq_true (by kernel_rfl)) (by unfold Func.isWrapper; first | (rw [if_pos (by decide +kernel)]; kernel_rfl) | (rw [if_neg (by decide +kernel)]; exact ⟨rfl, rfl⟩))
    (fun os started H enc _ => lifted os started H enc)
theorem proved : Rows.FnExactRetryFailSaid :=
  over
#print axioms proved
end Go.Proofs.Ytddkloigpihejaa.fnExactRetryFail
