/- The program's EDone returns what the reference's returns, for all arguments; there is no further condition. -/
import Derived.Test.YtopeonnaalpmjaaGreatSH3
import Derived.Test.YtopeonnaalpmjaaGreatRows
import Derived.WalkKit
import Derived.ProofKit
import Derived.OpenShut
namespace Go.Proofs.YtopeonnaalpmjaaGreat.fnExactEDone
set_option linter.unusedVariables false
set_option linter.unusedSimpArgs false
set_option linter.unusedSectionVars false
set_option linter.unnecessarySimpa false
set_option linter.all false
open Go.ChangeShapes Go.WideShapes Go.ChangeAt Go.RowKit Go.Proofs.YtopeonnaalpmjaaGreat.Vs
set_option linter.unusedVariables false
set_option maxRecDepth 100000
theorem own : ownKnob Tryz.prog.godebug = none := by kernel_rfl
theorem laid : laidOutB Tryz.prog = true := by kernel_rfl
theorem c3 : Tryz.prog.cellsOf 3 = 1 := by kernel_rfl
theorem c9 : Tryz.prog.cellsOf 9 = 1 := by kernel_rfl
theorem c60 : Tryz.prog.cellsOf 60 = 4 := by kernel_rfl
theorem c62 : Tryz.prog.cellsOf 62 = 2 := by kernel_rfl
theorem c66 : Tryz.prog.cellsOf 66 = 19 := by kernel_rfl
theorem c111 : Tryz.prog.cellsOf 111 = 16 := by kernel_rfl
theorem c114 : Tryz.prog.cellsOf 114 = 8 := by kernel_rfl
theorem of_62 (n : Nat) : ∀ x, shp Tryz.prog (n + 1) 62 x → ∃ u : DtId, x = DtId.cells u ∧ DtId.wf u := by
  intro x hx
  unfold shp at hx
  rw [Tryz.underlying62] at hx
  simp only [shpF] at hx
  obtain ⟨a0, _, rfl, -, h0, a1, _, rfl, -, h1, rfl⟩ := hx
  obtain ⟨u0, rfl, w0⟩ := (of_int Tryz.underlying3) _ h0
  obtain ⟨u1, rfl, w1⟩ := (of_int Tryz.underlying3) _ h1
  exact ⟨⟨u0, u1⟩, rfl, w0, w1⟩
theorem of_63 (n : Nat) : ∀ x, shp Tryz.prog (n + 2) 63 x → ∃ u : DtCmd, x = DtCmd.cells u ∧ DtCmd.wf u := by
  intro x hx
  unfold shp at hx
  rw [Tryz.underlying63] at hx
  simp only [shpF] at hx
  obtain ⟨a0, _, rfl, -, h0, a1, _, rfl, -, h1, a2, _, rfl, -, h2, a3, _, rfl, -, h3, a4, _, rfl, -, h4, a5, _, rfl, -, h5, a6, _, rfl, -, h6, a7, _, rfl, -, h7, rfl⟩ := hx
  obtain ⟨u0, rfl, w0⟩ := (of_int Tryz.underlying3) _ h0
  obtain ⟨u1, rfl, w1⟩ := (of_int Tryz.underlying3) _ h1
  obtain ⟨u2, rfl, w2⟩ := (of_int Tryz.underlying3) _ h2
  obtain ⟨u3, rfl, w3⟩ := (of_str Tryz.underlying9) _ h3
  obtain ⟨u4, rfl, w4⟩ := (of_str Tryz.underlying9) _ h4
  obtain ⟨u5, rfl, w5⟩ := (of_str Tryz.underlying9) _ h5
  obtain ⟨u6, rfl, w6⟩ := (of_int Tryz.underlying3) _ h6
  obtain ⟨u7, rfl, w7⟩ := (of_row Tryz.underlying47 c9 (of_str Tryz.underlying9)) _ h7
  exact ⟨⟨u0, u1, u2, u3, u4, u5, u6, u7⟩, rfl, w0, w1, w2, w3, w4, w5, w6, w7⟩
theorem of_111 (n : Nat) : ∀ x, shp Tryz.prog (n + 3) 111 x → ∃ u : DtInst, x = DtInst.cells u ∧ DtInst.wf u := by
  intro x hx
  unfold shp at hx
  rw [Tryz.underlying111] at hx
  simp only [shpF] at hx
  obtain ⟨a0, _, rfl, -, h0, a1, _, rfl, -, h1, a2, _, rfl, -, h2, a3, _, rfl, -, h3, a4, _, rfl, -, h4, a5, _, rfl, -, h5, a6, _, rfl, -, h6, a7, _, rfl, -, h7, rfl⟩ := hx
  obtain ⟨u0, rfl, w0⟩ := (of_62 _) _ h0
  obtain ⟨u1, rfl, w1⟩ := (of_int Tryz.underlying3) _ h1
  obtain ⟨u2, rfl, w2⟩ := (of_int Tryz.underlying3) _ h2
  obtain ⟨u3, rfl, w3⟩ := (of_int Tryz.underlying3) _ h3
  obtain ⟨u4, rfl, w4⟩ := (of_63 _) _ h4
  obtain ⟨u5, rfl, w5⟩ := (of_int Tryz.underlying3) _ h5
  obtain ⟨u6, rfl, w6⟩ := (of_row Tryz.underlying64 c62 (of_62 _)) _ h6
  obtain ⟨u7, rfl, w7⟩ := (of_bool Tryz.underlying4) _ h7
  exact ⟨⟨u0, u1, u2, u3, u4, u5, u6, u7⟩, rfl, w0, w1, w2, w3, w4, w5, w6, w7⟩
theorem of_114 (n : Nat) : ∀ x, shp Tryz.prog (n + 3) 114 x → ∃ u : DtLead, x = DtLead.cells u ∧ DtLead.wf u := by
  intro x hx
  unfold shp at hx
  rw [Tryz.underlying114] at hx
  simp only [shpF] at hx
  obtain ⟨a0, _, rfl, -, h0, a1, _, rfl, -, h1, a2, _, rfl, -, h2, a3, _, rfl, -, h3, a4, _, rfl, -, h4, a5, _, rfl, -, h5, a6, _, rfl, -, h6, rfl⟩ := hx
  obtain ⟨u0, rfl, w0⟩ := (of_62 _) _ h0
  obtain ⟨u1, rfl, w1⟩ := (of_int Tryz.underlying3) _ h1
  obtain ⟨u2, rfl, w2⟩ := (of_int Tryz.underlying3) _ h2
  obtain ⟨u3, rfl, w3⟩ := (of_int Tryz.underlying3) _ h3
  obtain ⟨u4, rfl, w4⟩ := (of_row Tryz.underlying64 c62 (of_62 _)) _ h4
  obtain ⟨u5, rfl, w5⟩ := (of_row Tryz.underlying85 c3 (of_int Tryz.underlying3)) _ h5
  obtain ⟨u6, rfl, w6⟩ := (of_bool Tryz.underlying4) _ h6
  exact ⟨⟨u0, u1, u2, u3, u4, u5, u6⟩, rfl, w0, w1, w2, w3, w4, w5, w6⟩
theorem of_60 (n : Nat) : ∀ x, shp Tryz.prog (n + 5) 60 x → ∃ u : DtENode, x = DtENode.cells u ∧ DtENode.wf u := by
  intro x hx
  unfold shp at hx
  rw [Tryz.underlying60] at hx
  simp only [shpF] at hx
  obtain ⟨a0, _, rfl, -, h0, a1, _, rfl, -, h1, a2, _, rfl, -, h2, a3, _, rfl, -, h3, rfl⟩ := hx
  obtain ⟨u0, rfl, w0⟩ := (of_int Tryz.underlying3) _ h0
  obtain ⟨u1, rfl, w1⟩ := (of_int Tryz.underlying3) _ h1
  obtain ⟨u2, rfl, w2⟩ := (of_row Tryz.underlying57 c111 (of_111 _)) _ h2
  obtain ⟨u3, rfl, w3⟩ := (of_row Tryz.underlying58 c114 (of_114 _)) _ h3
  exact ⟨⟨u0, u1, u2, u3⟩, rfl, w0, w1, w2, w3⟩
theorem of_66 (n : Nat) : ∀ x, shp Tryz.prog (n + 3) 66 x → ∃ u : DtEMsg, x = DtEMsg.cells u ∧ DtEMsg.wf u := by
  intro x hx
  unfold shp at hx
  rw [Tryz.underlying66] at hx
  simp only [shpF] at hx
  obtain ⟨a0, _, rfl, -, h0, a1, _, rfl, -, h1, a2, _, rfl, -, h2, a3, _, rfl, -, h3, a4, _, rfl, -, h4, a5, _, rfl, -, h5, a6, _, rfl, -, h6, a7, _, rfl, -, h7, a8, _, rfl, -, h8, a9, _, rfl, -, h9, a10, _, rfl, -, h10, rfl⟩ := hx
  obtain ⟨u0, rfl, w0⟩ := (of_int Tryz.underlying3) _ h0
  obtain ⟨u1, rfl, w1⟩ := (of_int Tryz.underlying3) _ h1
  obtain ⟨u2, rfl, w2⟩ := (of_int Tryz.underlying3) _ h2
  obtain ⟨u3, rfl, w3⟩ := (of_62 _) _ h3
  obtain ⟨u4, rfl, w4⟩ := (of_int Tryz.underlying3) _ h4
  obtain ⟨u5, rfl, w5⟩ := (of_63 _) _ h5
  obtain ⟨u6, rfl, w6⟩ := (of_int Tryz.underlying3) _ h6
  obtain ⟨u7, rfl, w7⟩ := (of_row Tryz.underlying64 c62 (of_62 _)) _ h7
  obtain ⟨u8, rfl, w8⟩ := (of_int Tryz.underlying3) _ h8
  obtain ⟨u9, rfl, w9⟩ := (of_int Tryz.underlying3) _ h9
  obtain ⟨u10, rfl, w10⟩ := (of_bool Tryz.underlying4) _ h10
  exact ⟨⟨u0, u1, u2, u3, u4, u5, u6, u7, u8, u9, u10⟩, rfl, w0, w1, w2, w3, w4, w5, w6, w7, w8, w9, w10⟩
theorem of_25 (n : Nat) : ∀ x, shp Tryz.prog (n + 7) 25 x → ∃ u : DtENet, x = DtENet.cells u ∧ DtENet.wf u := by
  intro x hx
  unfold shp at hx
  rw [Tryz.underlying25] at hx
  simp only [shpF] at hx
  obtain ⟨a0, _, rfl, -, h0, a1, _, rfl, -, h1, rfl⟩ := hx
  obtain ⟨u0, rfl, w0⟩ := (of_row Tryz.underlying22 c60 (of_60 _)) _ h0
  obtain ⟨u1, rfl, w1⟩ := (of_row Tryz.underlying23 c66 (of_66 _)) _ h1
  exact ⟨⟨u0, u1⟩, rfl, w0, w1⟩
theorem walk : ∀ l, shpA Tryz.prog 10 [25] l → PCall Tryz.prog 3 l (.g (.bool true)) := by
  rintro l ⟨cs0, l0, rfl, h0, rfl⟩
  have e0 : argA Tryz.prog 25 cs0 = .agg cs0 := by unfold argA; rw [Tryz.underlying25]
  rw [e0]
  obtain ⟨u0, rfl, w0⟩ := (of_25 _) _ h0
  exact lawEDone u0 w0
set_option maxRecDepth 100000 in
theorem lifted (os : Os) (started : os.Started) (H : Type) (enc : TypeId × Value → H) :
    ReturnsInHanded {} Tryz.checked os 3 .any (Rows.fnExactEDoneSpec.pre6 enc Tryz.prog Tryz.f3 Rows.fnExactEDoneRow.domain false) (Rows.fnExactEDoneSpec.post enc Tryz.prog Tryz.f3 false true false false) := by
  refine returnsInHanded_of_change (C := Tryz.checked) own started (by kernel_rfl) Tryz.func3
    (ChangeSpec.witness6 (enc := enc) (C := Tryz.checked) false ⟨#[], #[.agg #[.slice none 0 0, .slice none 0 0]], []⟩ 8 (by kernel_rfl) (by kernel_rfl) (by kernel_rfl) (by kernel_rfl)) ?_
  intro W base args ds gs before hval hW hcnd _
  refine law_post (n := 10) (tb := 4) rfl laid (by kernel_rfl) ?_ rfl Tryz.underlying4 ?_ ?_ hval hW
  · rw [Tryz.params3]
    intro t ht
    have : t = 25 := by simpa using ht
    rcases this with rfl
    · exact ⟨by kernel_rfl, of_decide_eq_true (by kernel_rfl)⟩
  · intro ds hds
    rw [Tryz.params3] at hds
    match ds, hds with
    | [d0], _ => exact ⟨rfl, rfl, rfl⟩
  · rw [Tryz.params3]
    exact walk
theorem over : Rows.fnExactEDoneRow.holds Tryz.pinned (OpenSpec.ofChange Rows.fnExactEDoneSpec) :=
  OpenClaim.holds_of_wide 3 Tryz.f3 rfl rfl rfl rfl rfl rfl rfl ⟨rfl, rfl, rfl, rfl, rfl⟩ rfl rfl rfl rfl rfl (by kernel_rfl) Tryz.func3 (by kernel_rfl)
    (of_decide_eq_true (by kernel_rfl)) (by unfold Func.isWrapper; first | (rw [if_pos (by decide +kernel)]; kernel_rfl) | (rw [if_neg (by decide +kernel)]; exact ⟨rfl, rfl⟩))
    (fun os started H enc _ => lifted os started H enc)
theorem proved : Rows.FnExactEDoneSaid :=
  over
#print axioms proved
end Go.Proofs.YtopeonnaalpmjaaGreat.fnExactEDone
