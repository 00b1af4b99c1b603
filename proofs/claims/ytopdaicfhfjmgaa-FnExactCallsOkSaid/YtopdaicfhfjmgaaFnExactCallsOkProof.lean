/- The program's CallsOk returns what the reference's returns, for all arguments; there is no further condition. -/
import Derived.Test.YtopdaicfhfjmgaaSK2
import Derived.Test.YtopdaicfhfjmgaaRows
import Derived.WalkKit
import Derived.ProofKit
import Derived.OpenShut
namespace Go.Proofs.Ytopdaicfhfjmgaa.fnExactCallsOk
set_option linter.unusedVariables false
set_option linter.unusedSimpArgs false
set_option linter.unusedSectionVars false
set_option linter.unnecessarySimpa false
set_option linter.all false
open Go.ChangeShapes Go.WideShapes Go.ChangeAt Go.RowKit Go.Proofs.Ytopdaicfhfjmgaa.Vs
set_option linter.unusedVariables false
set_option maxRecDepth 100000
theorem own : ownKnob Try.prog.godebug = none := by kernel_rfl
theorem laid : laidOutB Try.prog = true := by kernel_rfl
theorem c9 : Try.prog.cellsOf 9 = 1 := by kernel_rfl
theorem c76 : Try.prog.cellsOf 76 = 11 := by kernel_rfl
theorem of_74 (n : Nat) : ∀ x, shp Try.prog (n + 2) 74 x → ∃ u : DtCmd, x = DtCmd.cells u ∧ DtCmd.wf u := by
  intro x hx
  unfold shp at hx
  rw [Try.underlying74] at hx
  simp only [shpF] at hx
  obtain ⟨a0, _, rfl, -, h0, a1, _, rfl, -, h1, a2, _, rfl, -, h2, a3, _, rfl, -, h3, a4, _, rfl, -, h4, a5, _, rfl, -, h5, a6, _, rfl, -, h6, a7, _, rfl, -, h7, rfl⟩ := hx
  obtain ⟨u0, rfl, w0⟩ := (of_int Try.underlying3) _ h0
  obtain ⟨u1, rfl, w1⟩ := (of_int Try.underlying3) _ h1
  obtain ⟨u2, rfl, w2⟩ := (of_int Try.underlying3) _ h2
  obtain ⟨u3, rfl, w3⟩ := (of_str Try.underlying9) _ h3
  obtain ⟨u4, rfl, w4⟩ := (of_str Try.underlying9) _ h4
  obtain ⟨u5, rfl, w5⟩ := (of_str Try.underlying9) _ h5
  obtain ⟨u6, rfl, w6⟩ := (of_int Try.underlying3) _ h6
  obtain ⟨u7, rfl, w7⟩ := (of_row Try.underlying65 c9 (of_str Try.underlying9)) _ h7
  exact ⟨⟨u0, u1, u2, u3, u4, u5, u6, u7⟩, rfl, w0, w1, w2, w3, w4, w5, w6, w7⟩
theorem of_76 (n : Nat) : ∀ x, shp Try.prog (n + 3) 76 x → ∃ u : DtCall, x = DtCall.cells u ∧ DtCall.wf u := by
  intro x hx
  unfold shp at hx
  rw [Try.underlying76] at hx
  simp only [shpF] at hx
  obtain ⟨a0, _, rfl, -, h0, a1, _, rfl, -, h1, a2, _, rfl, -, h2, a3, _, rfl, -, h3, rfl⟩ := hx
  obtain ⟨u0, rfl, w0⟩ := (of_int Try.underlying3) _ h0
  obtain ⟨u1, rfl, w1⟩ := (of_int Try.underlying3) _ h1
  obtain ⟨u2, rfl, w2⟩ := (of_74 _) _ h2
  obtain ⟨u3, rfl, w3⟩ := (of_str Try.underlying9) _ h3
  exact ⟨⟨u0, u1, u2, u3⟩, rfl, w0, w1, w2, w3⟩
theorem walk : ∀ l, shpA Try.prog 7 [33] l → PCall Try.prog 4 l (.g (.bool true)) := by
  rintro l ⟨cs0, l0, rfl, h0, rfl⟩
  have e0 : argA Try.prog 33 cs0 = cs0.headD .undef := by unfold argA; rw [Try.underlying33]
  rw [e0]
  obtain ⟨u0, rfl, w0⟩ := (of_row Try.underlying33 c76 (of_76 _)) _ h0
  exact lawCallsOk u0 w0
set_option maxRecDepth 100000 in
theorem lifted (os : Os) (started : os.Started) (H : Type) (enc : TypeId × Value → H) :
    ReturnsInHanded {} Try.checked os 4 .any (Rows.fnExactCallsOkSpec.pre6 enc Try.prog Try.f4 Rows.fnExactCallsOkRow.domain false) (Rows.fnExactCallsOkSpec.post enc Try.prog Try.f4 false true false false) := by
  refine returnsInHanded_of_change (C := Try.checked) own started (by kernel_rfl) Try.func4
    (ChangeSpec.witness6 (enc := enc) (C := Try.checked) false ⟨#[], #[.slice none 0 0], []⟩ 8 (by kernel_rfl) (by kernel_rfl) (by kernel_rfl) (by kernel_rfl)) ?_
  intro W base args ds gs before hval hW hcnd _
  refine law_post (n := 7) (tb := 4) rfl laid (by kernel_rfl) ?_ rfl Try.underlying4 ?_ ?_ hval hW
  · rw [Try.params4]
    intro t ht
    have : t = 33 := by simpa using ht
    rcases this with rfl
    · exact ⟨by kernel_rfl, of_decide_eq_true (by kernel_rfl)⟩
  · intro ds hds
    rw [Try.params4] at hds
    match ds, hds with
    | [d0], _ => exact ⟨rfl, rfl, rfl⟩
  · rw [Try.params4]
    exact walk
theorem over : Rows.fnExactCallsOkRow.holds Try.pinned (OpenSpec.ofChange Rows.fnExactCallsOkSpec) :=
  OpenClaim.holds_of_wide 4 Try.f4 rfl rfl rfl rfl rfl rfl rfl ⟨rfl, rfl, rfl, rfl, rfl⟩ rfl rfl rfl rfl rfl (by kernel_rfl) Try.func4 (by kernel_rfl)
    (of_decide_eq_true (by kernel_rfl)) (by unfold Func.isWrapper; first | (rw [if_pos (by decide +kernel)]; kernel_rfl) | (rw [if_neg (by decide +kernel)]; exact ⟨rfl, rfl⟩))
    (fun os started H enc _ => lifted os started H enc)
theorem proved : Rows.FnExactCallsOkSaid :=
  over
#print axioms proved
end Go.Proofs.Ytopdaicfhfjmgaa.fnExactCallsOk
