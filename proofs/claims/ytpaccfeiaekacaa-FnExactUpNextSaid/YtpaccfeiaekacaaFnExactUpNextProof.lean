/- The program's UpNext returns what the reference's returns, for all arguments; there is no further condition. -/
import Derived.Test.YtpaccfeiaekacaaSL8
import Derived.Test.YtpaccfeiaekacaaRows
import Derived.WalkKit
import Derived.ProofKit
import Derived.OpenShut
namespace Go.Proofs.Ytpaccfeiaekacaa.fnExactUpNext
set_option linter.unusedVariables false
set_option linter.unusedSimpArgs false
set_option linter.unusedSectionVars false
set_option linter.unnecessarySimpa false
set_option linter.all false
open Go.ChangeShapes Go.WideShapes Go.ChangeAt Go.RowKit Go.Proofs.Ytpaccfeiaekacaa.Vs
set_option linter.unusedVariables false
set_option maxRecDepth 100000
theorem own : ownKnob Try.prog.godebug = none := by kernel_rfl
theorem laid : laidOutB Try.prog = true := by kernel_rfl
theorem c3 : Try.prog.cellsOf 3 = 1 := by kernel_rfl
theorem c91 : Try.prog.cellsOf 91 = 3 := by kernel_rfl
theorem of_91 (n : Nat) : ∀ x, shp Try.prog (n + 2) 91 x → ∃ u : DtUp, x = DtUp.cells u ∧ DtUp.wf u := by
  intro x hx
  unfold shp at hx
  rw [Try.underlying91] at hx
  simp only [shpF] at hx
  obtain ⟨a0, _, rfl, -, h0, a1, _, rfl, -, h1, a2, _, rfl, -, h2, rfl⟩ := hx
  obtain ⟨u0, rfl, w0⟩ := (of_str Try.underlying9) _ h0
  obtain ⟨u1, rfl, w1⟩ := (of_row Try.underlying22 c3 (of_int Try.underlying3)) _ h1
  obtain ⟨u2, rfl, w2⟩ := (of_int Try.underlying3) _ h2
  exact ⟨⟨u0, u1, u2⟩, rfl, w0, w1, w2⟩
theorem of_43 (n : Nat) : ∀ x, shp Try.prog (n + 4) 43 x → ∃ u : DtUps, x = DtUps.cells u ∧ DtUps.wf u := by
  intro x hx
  unfold shp at hx
  rw [Try.underlying43] at hx
  simp only [shpF] at hx
  obtain ⟨a0, _, rfl, -, h0, a1, _, rfl, -, h1, rfl⟩ := hx
  obtain ⟨u0, rfl, w0⟩ := (of_int Try.underlying3) _ h0
  obtain ⟨u1, rfl, w1⟩ := (of_row Try.underlying41 c91 (of_91 _)) _ h1
  exact ⟨⟨u0, u1⟩, rfl, w0, w1⟩
theorem walk : ∀ l, shpA Try.prog 7 [43] l → PCall Try.prog 6 l (.g (.bool true)) := by
  rintro l ⟨cs0, l0, rfl, h0, rfl⟩
  have e0 : argA Try.prog 43 cs0 = .agg cs0 := by unfold argA; rw [Try.underlying43]
  rw [e0]
  obtain ⟨u0, rfl, w0⟩ := (of_43 _) _ h0
  exact lawUpNext u0 w0
set_option maxRecDepth 100000 in
theorem lifted (os : Os) (started : os.Started) (H : Type) (enc : TypeId × Value → H) :
    ReturnsInHanded {} Try.checked os 6 .any (Rows.fnExactUpNextSpec.pre6 enc Try.prog Try.f6 Rows.fnExactUpNextRow.domain false) (Rows.fnExactUpNextSpec.post enc Try.prog Try.f6 false true false false) := by
  refine returnsInHanded_of_change (C := Try.checked) own started (by kernel_rfl) Try.func6
    (ChangeSpec.witness6 (enc := enc) (C := Try.checked) false ⟨#[], #[.agg #[.int .i64 0, .slice none 0 0]], []⟩ 8 (by kernel_rfl) (by kernel_rfl) (by kernel_rfl) (by kernel_rfl)) ?_
  intro W base args ds gs before hval hW hcnd _
  refine law_post (n := 7) (tb := 4) rfl laid (by kernel_rfl) ?_ rfl Try.underlying4 ?_ ?_ hval hW
  · rw [Try.params6]
    intro t ht
    have : t = 43 := by simpa using ht
    rcases this with rfl
    · exact ⟨by kernel_rfl, of_decide_eq_true (by kernel_rfl)⟩
  · intro ds hds
    rw [Try.params6] at hds
    match ds, hds with
    | [d0], _ => exact ⟨rfl, rfl, rfl⟩
  · rw [Try.params6]
    exact walk
theorem over : Rows.fnExactUpNextRow.holds Try.pinned (OpenSpec.ofChange Rows.fnExactUpNextSpec) :=
  OpenClaim.holds_of_wide 6 Try.f6 rfl rfl rfl rfl rfl rfl rfl ⟨rfl, rfl, rfl, rfl, rfl⟩ rfl rfl rfl rfl rfl (by kernel_rfl) Try.func6 (by kernel_rfl)
    (of_decide_eq_true (by kernel_rfl)) (by unfold Func.isWrapper; first | (rw [if_pos (by decide +kernel)]; kernel_rfl) | (rw [if_neg (by decide +kernel)]; exact ⟨rfl, rfl⟩))
    (fun os started H enc _ => lifted os started H enc)
theorem proved : Rows.FnExactUpNextSaid :=
  over
#print axioms proved
end Go.Proofs.Ytpaccfeiaekacaa.fnExactUpNext
