/- The program's UpsOk returns what the reference's returns, for all arguments; there is no further condition. -/
import Derived.Test.YthfajpgocmpbpaaSU1
import Derived.Test.YthfajpgocmpbpaaRows
import Derived.WalkKit
import Derived.ProofKit
import Derived.OpenShut
namespace Go.Proofs.Ythfajpgocmpbpaa.fnExactUpsOk
set_option linter.unusedVariables false
set_option linter.unusedSimpArgs false
set_option linter.unusedSectionVars false
set_option linter.unnecessarySimpa false
set_option linter.all false
open Go.ChangeShapes Go.WideShapes Go.ChangeAt Go.RowKit Go.Proofs.Ythfajpgocmpbpaa.Vs
set_option linter.unusedVariables false
theorem own : ownKnob Try.prog.godebug = none := by kernel_rfl
theorem laid : laidOutB Try.prog = true := by kernel_rfl
theorem c3 : Try.prog.cellsOf 3 = 1 := by kernel_rfl
theorem c77 : Try.prog.cellsOf 77 = 3 := by kernel_rfl
theorem of_77 (n : Nat) : ∀ x, shp Try.prog (n + 2) 77 x → ∃ u : DtUp, x = DtUp.cells u ∧ DtUp.wf u := by
  intro x hx
  unfold shp at hx
  rw [Try.underlying77] at hx
  simp only [shpF] at hx
  obtain ⟨a0, _, rfl, -, h0, a1, _, rfl, -, h1, a2, _, rfl, -, h2, rfl⟩ := hx
  obtain ⟨u0, rfl, w0⟩ := (of_str Try.underlying9) _ h0
  obtain ⟨u1, rfl, w1⟩ := (of_row Try.underlying28 c3 (of_int Try.underlying3)) _ h1
  obtain ⟨u2, rfl, w2⟩ := (of_int Try.underlying3) _ h2
  exact ⟨⟨u0, u1, u2⟩, rfl, w0, w1, w2⟩
theorem of_47 (n : Nat) : ∀ x, shp Try.prog (n + 4) 47 x → ∃ u : DtUps, x = DtUps.cells u ∧ DtUps.wf u := by
  intro x hx
  unfold shp at hx
  rw [Try.underlying47] at hx
  simp only [shpF] at hx
  obtain ⟨a0, _, rfl, -, h0, a1, _, rfl, -, h1, rfl⟩ := hx
  obtain ⟨u0, rfl, w0⟩ := (of_int Try.underlying3) _ h0
  obtain ⟨u1, rfl, w1⟩ := (of_row Try.underlying45 c77 (of_77 _)) _ h1
  exact ⟨⟨u0, u1⟩, rfl, w0, w1⟩
theorem walk : ∀ l, shpA Try.prog 7 [47] l → PCall Try.prog 8 l (.g (.bool true)) := by
  rintro l ⟨cs0, l0, rfl, h0, rfl⟩
  have e0 : argA Try.prog 47 cs0 = .agg cs0 := by unfold argA; rw [Try.underlying47]
  rw [e0]
  obtain ⟨u0, rfl, w0⟩ := (of_47 _) _ h0
  exact lawUpsOk u0 w0
set_option maxRecDepth 100000 in
theorem lifted (os : Os) (started : os.Started) (H : Type) (enc : TypeId × Value → H) :
    ReturnsInHanded {} Try.checked os 8 .any (Rows.fnExactUpsOkSpec.pre6 enc Try.prog Try.f8 Rows.fnExactUpsOkRow.domain false) (Rows.fnExactUpsOkSpec.post enc Try.prog Try.f8 false true false false) := by
  refine returnsInHanded_of_change (C := Try.checked) own started (by kernel_rfl) Try.func8
    (ChangeSpec.witness6 (enc := enc) (C := Try.checked) false ⟨#[], #[.agg #[.int .i64 0, .slice none 0 0]], []⟩ 8 (by kernel_rfl) (by kernel_rfl) (by kernel_rfl) (by kernel_rfl)) ?_
  intro W base args ds gs before hval hW hcnd _
  refine law_post (n := 7) (tb := 4) rfl laid (by kernel_rfl) ?_ rfl Try.underlying4 ?_ ?_ hval hW
  · rw [Try.params8]
    intro t ht
    have : t = 47 := by simpa using ht
    rcases this with rfl
    · exact ⟨by kernel_rfl, of_decide_eq_true (by kernel_rfl)⟩
  · intro ds hds
    rw [Try.params8] at hds
    match ds, hds with
    | [d0], _ => exact ⟨rfl, rfl, rfl⟩
  · rw [Try.params8]
    exact walk
theorem over : Rows.fnExactUpsOkRow.holds Try.pinned (OpenSpec.ofChange Rows.fnExactUpsOkSpec) :=
  OpenClaim.holds_of_wide 8 Try.f8 rfl rfl rfl rfl rfl rfl rfl ⟨rfl, rfl, rfl, rfl, rfl⟩ rfl rfl rfl rfl rfl (by kernel_rfl) Try.func8 (by kernel_rfl)
    (of_decide_eq_true (by kernel_rfl)) (by unfold Func.isWrapper; first | (rw [if_pos (by decide +kernel)]; kernel_rfl) | (rw [if_neg (by decide +kernel)]; exact ⟨rfl, rfl⟩))
    (fun os started H enc _ => lifted os started H enc)
theorem proved : Rows.FnExactUpsOkSaid :=
  over
#print axioms proved
end Go.Proofs.Ythfajpgocmpbpaa.fnExactUpsOk
