/- The program's Sweep returns what the reference's returns, for all arguments; there is no further condition. -/
import Derived.Test.YtcedomdpbgjbpaaSY7
import Derived.Test.YtcedomdpbgjbpaaRows
import Derived.WalkKit
import Derived.ProofKit
import Derived.OpenShut
namespace Go.Proofs.Ytcedomdpbgjbpaa.fnExactSweep
set_option linter.unusedVariables false
set_option linter.unusedSimpArgs false
set_option linter.unusedSectionVars false
set_option linter.unnecessarySimpa false
set_option linter.all false
open Go.ChangeShapes Go.WideShapes Go.ChangeAt Go.RowKit Go.Proofs.Ytcedomdpbgjbpaa.Vs
set_option linter.unusedVariables false
set_option maxRecDepth 100000
theorem own : ownKnob Try.prog.godebug = none := by kernel_rfl
theorem laid : laidOutB Try.prog = true := by kernel_rfl
theorem c3 : Try.prog.cellsOf 3 = 1 := by kernel_rfl
theorem c9 : Try.prog.cellsOf 9 = 1 := by kernel_rfl
theorem c106 : Try.prog.cellsOf 106 = 2 := by kernel_rfl
theorem c119 : Try.prog.cellsOf 119 = 3 := by kernel_rfl
theorem c165 : Try.prog.cellsOf 165 = 3 := by kernel_rfl
theorem of_165 (n : Nat) : ∀ x, shp Try.prog (n + 2) 165 x → ∃ u : DtCSnap, x = DtCSnap.cells u ∧ DtCSnap.wf u := by
  intro x hx
  unfold shp at hx
  rw [Try.underlying165] at hx
  simp only [shpF] at hx
  obtain ⟨a0, _, rfl, -, h0, a1, _, rfl, -, h1, a2, _, rfl, -, h2, rfl⟩ := hx
  obtain ⟨u0, rfl, w0⟩ := (of_str Try.underlying9) _ h0
  obtain ⟨u1, rfl, w1⟩ := (of_str Try.underlying9) _ h1
  obtain ⟨u2, rfl, w2⟩ := (of_row Try.underlying26 c9 (of_str Try.underlying9)) _ h2
  exact ⟨⟨u0, u1, u2⟩, rfl, w0, w1, w2⟩
theorem of_106 (n : Nat) : ∀ x, shp Try.prog (n + 4) 106 x → ∃ u : DtCSet, x = DtCSet.cells u ∧ DtCSet.wf u := by
  intro x hx
  unfold shp at hx
  rw [Try.underlying106] at hx
  simp only [shpF] at hx
  obtain ⟨a0, _, rfl, -, h0, a1, _, rfl, -, h1, rfl⟩ := hx
  obtain ⟨u0, rfl, w0⟩ := (of_str Try.underlying9) _ h0
  obtain ⟨u1, rfl, w1⟩ := (of_row Try.underlying104 c165 (of_165 _)) _ h1
  exact ⟨⟨u0, u1⟩, rfl, w0, w1⟩
theorem of_24 (n : Nat) : ∀ x, shp Try.prog (n + 6) 24 x → ∃ u : DtCatalog, x = DtCatalog.cells u ∧ DtCatalog.wf u := by
  intro x hx
  unfold shp at hx
  rw [Try.underlying24] at hx
  simp only [shpF] at hx
  obtain ⟨a0, _, rfl, -, h0, rfl⟩ := hx
  obtain ⟨u0, rfl, w0⟩ := (of_row Try.underlying22 c106 (of_106 _)) _ h0
  exact ⟨⟨u0⟩, rfl, w0⟩
theorem of_119 (n : Nat) : ∀ x, shp Try.prog (n + 2) 119 x → ∃ u : DtUp, x = DtUp.cells u ∧ DtUp.wf u := by
  intro x hx
  unfold shp at hx
  rw [Try.underlying119] at hx
  simp only [shpF] at hx
  obtain ⟨a0, _, rfl, -, h0, a1, _, rfl, -, h1, a2, _, rfl, -, h2, rfl⟩ := hx
  obtain ⟨u0, rfl, w0⟩ := (of_str Try.underlying9) _ h0
  obtain ⟨u1, rfl, w1⟩ := (of_row Try.underlying79 c3 (of_int Try.underlying3)) _ h1
  obtain ⟨u2, rfl, w2⟩ := (of_int Try.underlying3) _ h2
  exact ⟨⟨u0, u1, u2⟩, rfl, w0, w1, w2⟩
theorem of_39 (n : Nat) : ∀ x, shp Try.prog (n + 4) 39 x → ∃ u : DtUps, x = DtUps.cells u ∧ DtUps.wf u := by
  intro x hx
  unfold shp at hx
  rw [Try.underlying39] at hx
  simp only [shpF] at hx
  obtain ⟨a0, _, rfl, -, h0, a1, _, rfl, -, h1, rfl⟩ := hx
  obtain ⟨u0, rfl, w0⟩ := (of_int Try.underlying3) _ h0
  obtain ⟨u1, rfl, w1⟩ := (of_row Try.underlying37 c119 (of_119 _)) _ h1
  exact ⟨⟨u0, u1⟩, rfl, w0, w1⟩
theorem walk : ∀ l, shpA Try.prog 9 [24, 39] l → PCall Try.prog 6 l (.g (.bool true)) := by
  rintro l ⟨cs0, l0, rfl, h0, cs1, l1, rfl, h1, rfl⟩
  have e0 : argA Try.prog 24 cs0 = .agg cs0 := by unfold argA; rw [Try.underlying24]
  have e1 : argA Try.prog 39 cs1 = .agg cs1 := by unfold argA; rw [Try.underlying39]
  rw [e0, e1]
  obtain ⟨u0, rfl, w0⟩ := (of_24 _) _ h0
  obtain ⟨u1, rfl, w1⟩ := (of_39 _) _ h1
  exact lawSweep u0 w0 u1 w1
set_option maxRecDepth 100000 in
theorem lifted (os : Os) (started : os.Started) (H : Type) (enc : TypeId × Value → H) :
    ReturnsInHanded {} Try.checked os 6 .any (Rows.fnExactSweepSpec.pre6 enc Try.prog Try.f6 Rows.fnExactSweepRow.domain false) (Rows.fnExactSweepSpec.post enc Try.prog Try.f6 false true false false) := by
  refine returnsInHanded_of_change (C := Try.checked) own started (by kernel_rfl) Try.func6
    (ChangeSpec.witness6 (enc := enc) (C := Try.checked) false ⟨#[], #[.agg #[.slice none 0 0], .agg #[.int .i64 0, .slice none 0 0]], []⟩ 8 (by kernel_rfl) (by kernel_rfl) (by kernel_rfl) (by kernel_rfl)) ?_
  intro W base args ds gs before hval hW hcnd _
  refine law_post (n := 9) (tb := 4) rfl laid (by kernel_rfl) ?_ rfl Try.underlying4 ?_ ?_ hval hW
  · rw [Try.params6]
    intro t ht
    have : t = 24 ∨ t = 39 := by simpa using ht
    rcases this with rfl | rfl
    · exact ⟨by kernel_rfl, of_decide_eq_true (by kernel_rfl)⟩
    · exact ⟨by kernel_rfl, of_decide_eq_true (by kernel_rfl)⟩
  · intro ds hds
    rw [Try.params6] at hds
    match ds, hds with
    | [d0, d1], _ => exact ⟨rfl, rfl, rfl⟩
  · rw [Try.params6]
    exact walk
theorem over : Rows.fnExactSweepRow.holds Try.pinned (OpenSpec.ofChange Rows.fnExactSweepSpec) :=
  OpenClaim.holds_of_wide 6 Try.f6 rfl rfl rfl rfl rfl rfl rfl ⟨rfl, rfl, rfl, rfl, rfl⟩ rfl rfl rfl rfl rfl (by kernel_rfl) Try.func6 (by kernel_rfl)
    (of_decide_eq_true (by kernel_rfl)) (by unfold Func.isWrapper; first | (rw [if_pos (by decide +kernel)]; kernel_rfl) | (rw [if_neg (by decide +kernel)]; exact ⟨rfl, rfl⟩))
    (fun os started H enc _ => lifted os started H enc)
theorem proved : Rows.FnExactSweepSaid :=
  over
#print axioms proved
end Go.Proofs.Ytcedomdpbgjbpaa.fnExactSweep
