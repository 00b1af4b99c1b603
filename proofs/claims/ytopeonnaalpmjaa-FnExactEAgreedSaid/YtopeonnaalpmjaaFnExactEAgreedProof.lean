/- The program's EAgreed returns what the reference's returns, for all arguments; there is no further condition. -/
import Derived.Test.YtopeonnaalpmjaaSG5
import Derived.Test.YtopeonnaalpmjaaRows
import Derived.WalkKit
import Derived.ProofKit
import Derived.OpenShut
namespace Go.Proofs.Ytopeonnaalpmjaa.fnExactEAgreed
set_option linter.unusedVariables false
set_option linter.unusedSimpArgs false
set_option linter.unusedSectionVars false
set_option linter.unnecessarySimpa false
set_option linter.all false
open Go.ChangeShapes Go.WideShapes Go.ChangeAt Go.RowKit Go.Proofs.Ytopeonnaalpmjaa.Vs
set_option linter.unusedVariables false
set_option maxRecDepth 100000
theorem own : ownKnob Try.prog.godebug = none := by kernel_rfl
theorem laid : laidOutB Try.prog = true := by kernel_rfl
theorem c3 : Try.prog.cellsOf 3 = 1 := by kernel_rfl
theorem c9 : Try.prog.cellsOf 9 = 1 := by kernel_rfl
theorem c25 : Try.prog.cellsOf 25 = 4 := by kernel_rfl
theorem c88 : Try.prog.cellsOf 88 = 2 := by kernel_rfl
theorem c92 : Try.prog.cellsOf 92 = 16 := by kernel_rfl
theorem c95 : Try.prog.cellsOf 95 = 8 := by kernel_rfl
theorem c108 : Try.prog.cellsOf 108 = 19 := by kernel_rfl
theorem of_88 (n : Nat) : ∀ x, shp Try.prog (n + 1) 88 x → ∃ u : DtId, x = DtId.cells u ∧ DtId.wf u := by
  intro x hx
  unfold shp at hx
  rw [Try.underlying88] at hx
  simp only [shpF] at hx
  obtain ⟨a0, _, rfl, -, h0, a1, _, rfl, -, h1, rfl⟩ := hx
  obtain ⟨u0, rfl, w0⟩ := (of_int Try.underlying3) _ h0
  obtain ⟨u1, rfl, w1⟩ := (of_int Try.underlying3) _ h1
  exact ⟨⟨u0, u1⟩, rfl, w0, w1⟩
theorem of_89 (n : Nat) : ∀ x, shp Try.prog (n + 2) 89 x → ∃ u : DtCmd, x = DtCmd.cells u ∧ DtCmd.wf u := by
  intro x hx
  unfold shp at hx
  rw [Try.underlying89] at hx
  simp only [shpF] at hx
  obtain ⟨a0, _, rfl, -, h0, a1, _, rfl, -, h1, a2, _, rfl, -, h2, a3, _, rfl, -, h3, a4, _, rfl, -, h4, a5, _, rfl, -, h5, a6, _, rfl, -, h6, a7, _, rfl, -, h7, rfl⟩ := hx
  obtain ⟨u0, rfl, w0⟩ := (of_int Try.underlying3) _ h0
  obtain ⟨u1, rfl, w1⟩ := (of_int Try.underlying3) _ h1
  obtain ⟨u2, rfl, w2⟩ := (of_int Try.underlying3) _ h2
  obtain ⟨u3, rfl, w3⟩ := (of_str Try.underlying9) _ h3
  obtain ⟨u4, rfl, w4⟩ := (of_str Try.underlying9) _ h4
  obtain ⟨u5, rfl, w5⟩ := (of_str Try.underlying9) _ h5
  obtain ⟨u6, rfl, w6⟩ := (of_int Try.underlying3) _ h6
  obtain ⟨u7, rfl, w7⟩ := (of_row Try.underlying55 c9 (of_str Try.underlying9)) _ h7
  exact ⟨⟨u0, u1, u2, u3, u4, u5, u6, u7⟩, rfl, w0, w1, w2, w3, w4, w5, w6, w7⟩
theorem of_92 (n : Nat) : ∀ x, shp Try.prog (n + 3) 92 x → ∃ u : DtInst, x = DtInst.cells u ∧ DtInst.wf u := by
  intro x hx
  unfold shp at hx
  rw [Try.underlying92] at hx
  simp only [shpF] at hx
  obtain ⟨a0, _, rfl, -, h0, a1, _, rfl, -, h1, a2, _, rfl, -, h2, a3, _, rfl, -, h3, a4, _, rfl, -, h4, a5, _, rfl, -, h5, a6, _, rfl, -, h6, a7, _, rfl, -, h7, rfl⟩ := hx
  obtain ⟨u0, rfl, w0⟩ := (of_88 _) _ h0
  obtain ⟨u1, rfl, w1⟩ := (of_int Try.underlying3) _ h1
  obtain ⟨u2, rfl, w2⟩ := (of_int Try.underlying3) _ h2
  obtain ⟨u3, rfl, w3⟩ := (of_int Try.underlying3) _ h3
  obtain ⟨u4, rfl, w4⟩ := (of_89 _) _ h4
  obtain ⟨u5, rfl, w5⟩ := (of_int Try.underlying3) _ h5
  obtain ⟨u6, rfl, w6⟩ := (of_row Try.underlying90 c88 (of_88 _)) _ h6
  obtain ⟨u7, rfl, w7⟩ := (of_bool Try.underlying4) _ h7
  exact ⟨⟨u0, u1, u2, u3, u4, u5, u6, u7⟩, rfl, w0, w1, w2, w3, w4, w5, w6, w7⟩
theorem of_95 (n : Nat) : ∀ x, shp Try.prog (n + 3) 95 x → ∃ u : DtLead, x = DtLead.cells u ∧ DtLead.wf u := by
  intro x hx
  unfold shp at hx
  rw [Try.underlying95] at hx
  simp only [shpF] at hx
  obtain ⟨a0, _, rfl, -, h0, a1, _, rfl, -, h1, a2, _, rfl, -, h2, a3, _, rfl, -, h3, a4, _, rfl, -, h4, a5, _, rfl, -, h5, a6, _, rfl, -, h6, rfl⟩ := hx
  obtain ⟨u0, rfl, w0⟩ := (of_88 _) _ h0
  obtain ⟨u1, rfl, w1⟩ := (of_int Try.underlying3) _ h1
  obtain ⟨u2, rfl, w2⟩ := (of_int Try.underlying3) _ h2
  obtain ⟨u3, rfl, w3⟩ := (of_int Try.underlying3) _ h3
  obtain ⟨u4, rfl, w4⟩ := (of_row Try.underlying90 c88 (of_88 _)) _ h4
  obtain ⟨u5, rfl, w5⟩ := (of_row Try.underlying62 c3 (of_int Try.underlying3)) _ h5
  obtain ⟨u6, rfl, w6⟩ := (of_bool Try.underlying4) _ h6
  exact ⟨⟨u0, u1, u2, u3, u4, u5, u6⟩, rfl, w0, w1, w2, w3, w4, w5, w6⟩
theorem of_25 (n : Nat) : ∀ x, shp Try.prog (n + 5) 25 x → ∃ u : DtENode, x = DtENode.cells u ∧ DtENode.wf u := by
  intro x hx
  unfold shp at hx
  rw [Try.underlying25] at hx
  simp only [shpF] at hx
  obtain ⟨a0, _, rfl, -, h0, a1, _, rfl, -, h1, a2, _, rfl, -, h2, a3, _, rfl, -, h3, rfl⟩ := hx
  obtain ⟨u0, rfl, w0⟩ := (of_int Try.underlying3) _ h0
  obtain ⟨u1, rfl, w1⟩ := (of_int Try.underlying3) _ h1
  obtain ⟨u2, rfl, w2⟩ := (of_row Try.underlying22 c92 (of_92 _)) _ h2
  obtain ⟨u3, rfl, w3⟩ := (of_row Try.underlying23 c95 (of_95 _)) _ h3
  exact ⟨⟨u0, u1, u2, u3⟩, rfl, w0, w1, w2, w3⟩
theorem of_108 (n : Nat) : ∀ x, shp Try.prog (n + 3) 108 x → ∃ u : DtEMsg, x = DtEMsg.cells u ∧ DtEMsg.wf u := by
  intro x hx
  unfold shp at hx
  rw [Try.underlying108] at hx
  simp only [shpF] at hx
  obtain ⟨a0, _, rfl, -, h0, a1, _, rfl, -, h1, a2, _, rfl, -, h2, a3, _, rfl, -, h3, a4, _, rfl, -, h4, a5, _, rfl, -, h5, a6, _, rfl, -, h6, a7, _, rfl, -, h7, a8, _, rfl, -, h8, a9, _, rfl, -, h9, a10, _, rfl, -, h10, rfl⟩ := hx
  obtain ⟨u0, rfl, w0⟩ := (of_int Try.underlying3) _ h0
  obtain ⟨u1, rfl, w1⟩ := (of_int Try.underlying3) _ h1
  obtain ⟨u2, rfl, w2⟩ := (of_int Try.underlying3) _ h2
  obtain ⟨u3, rfl, w3⟩ := (of_88 _) _ h3
  obtain ⟨u4, rfl, w4⟩ := (of_int Try.underlying3) _ h4
  obtain ⟨u5, rfl, w5⟩ := (of_89 _) _ h5
  obtain ⟨u6, rfl, w6⟩ := (of_int Try.underlying3) _ h6
  obtain ⟨u7, rfl, w7⟩ := (of_row Try.underlying90 c88 (of_88 _)) _ h7
  obtain ⟨u8, rfl, w8⟩ := (of_int Try.underlying3) _ h8
  obtain ⟨u9, rfl, w9⟩ := (of_int Try.underlying3) _ h9
  obtain ⟨u10, rfl, w10⟩ := (of_bool Try.underlying4) _ h10
  exact ⟨⟨u0, u1, u2, u3, u4, u5, u6, u7, u8, u9, u10⟩, rfl, w0, w1, w2, w3, w4, w5, w6, w7, w8, w9, w10⟩
theorem of_38 (n : Nat) : ∀ x, shp Try.prog (n + 7) 38 x → ∃ u : DtENet, x = DtENet.cells u ∧ DtENet.wf u := by
  intro x hx
  unfold shp at hx
  rw [Try.underlying38] at hx
  simp only [shpF] at hx
  obtain ⟨a0, _, rfl, -, h0, a1, _, rfl, -, h1, rfl⟩ := hx
  obtain ⟨u0, rfl, w0⟩ := (of_row Try.underlying35 c25 (of_25 _)) _ h0
  obtain ⟨u1, rfl, w1⟩ := (of_row Try.underlying36 c108 (of_108 _)) _ h1
  exact ⟨⟨u0, u1⟩, rfl, w0, w1⟩
theorem walk : ∀ l, shpA Try.prog 10 [38] l → PCall Try.prog 5 l (.g (.bool true)) := by
  rintro l ⟨cs0, l0, rfl, h0, rfl⟩
  have e0 : argA Try.prog 38 cs0 = .agg cs0 := by unfold argA; rw [Try.underlying38]
  rw [e0]
  obtain ⟨u0, rfl, w0⟩ := (of_38 _) _ h0
  exact lawEAgreed u0 w0
set_option maxRecDepth 100000 in
theorem lifted (os : Os) (started : os.Started) (H : Type) (enc : TypeId × Value → H) :
    ReturnsInHanded {} Try.checked os 5 .any (Rows.fnExactEAgreedSpec.pre6 enc Try.prog Try.f5 Rows.fnExactEAgreedRow.domain false) (Rows.fnExactEAgreedSpec.post enc Try.prog Try.f5 false true false false) := by
  refine returnsInHanded_of_change (C := Try.checked) own started (by kernel_rfl) Try.func5
    (ChangeSpec.witness6 (enc := enc) (C := Try.checked) false ⟨#[], #[.agg #[.slice none 0 0, .slice none 0 0]], []⟩ 8 (by kernel_rfl) (by kernel_rfl) (by kernel_rfl) (by kernel_rfl)) ?_
  intro W base args ds gs before hval hW hcnd _
  refine law_post (n := 10) (tb := 4) rfl laid (by kernel_rfl) ?_ rfl Try.underlying4 ?_ ?_ hval hW
  · rw [Try.params5]
    intro t ht
    have : t = 38 := by simpa using ht
    rcases this with rfl
    · exact ⟨by kernel_rfl, of_decide_eq_true (by kernel_rfl)⟩
  · intro ds hds
    rw [Try.params5] at hds
    match ds, hds with
    | [d0], _ => exact ⟨rfl, rfl, rfl⟩
  · rw [Try.params5]
    exact walk
theorem over : Rows.fnExactEAgreedRow.holds Try.pinned (OpenSpec.ofChange Rows.fnExactEAgreedSpec) :=
  OpenClaim.holds_of_wide 5 Try.f5 rfl rfl rfl rfl rfl rfl rfl ⟨rfl, rfl, rfl, rfl, rfl⟩ rfl rfl rfl rfl rfl (by kernel_rfl) Try.func5 (by kernel_rfl)
    (of_decide_eq_true (by kernel_rfl)) (by unfold Func.isWrapper; first | (rw [if_pos (by decide +kernel)]; kernel_rfl) | (rw [if_neg (by decide +kernel)]; exact ⟨rfl, rfl⟩))
    (fun os started H enc _ => lifted os started H enc)
theorem proved : Rows.FnExactEAgreedSaid :=
  over
#print axioms proved
end Go.Proofs.Ytopeonnaalpmjaa.fnExactEAgreed
