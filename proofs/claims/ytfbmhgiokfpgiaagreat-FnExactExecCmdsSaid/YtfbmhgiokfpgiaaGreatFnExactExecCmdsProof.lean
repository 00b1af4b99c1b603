/- The program's ExecCmds returns what the reference's returns, for all arguments; there is no further condition. -/
import Derived.Test.YtfbmhgiokfpgiaaGreatSLEQ
import Derived.Test.YtfbmhgiokfpgiaaGreatRows
import Derived.WalkKit
import Derived.ProofKit
import Derived.OpenShut
namespace Go.Proofs.YtfbmhgiokfpgiaaGreat.fnExactExecCmds
set_option linter.all false
open Go.ChangeShapes Go.WideShapes Go.ChangeAt Go.RowKit Go.Proofs.YtfbmhgiokfpgiaaGreat.Vs
set_option linter.unusedVariables false
set_option maxRecDepth 100000
theorem own : ownKnob Tryz.prog.godebug = none := by kernel_rfl
theorem laid : laidOutB Tryz.prog = true := by kernel_rfl
theorem c9 : Tryz.prog.cellsOf 9 = 1 := by kernel_rfl
theorem c35 : Tryz.prog.cellsOf 35 = 2 := by kernel_rfl
theorem c41 : Tryz.prog.cellsOf 41 = 16 := by kernel_rfl
theorem of_35 (n : Nat) : ∀ x, shp Tryz.prog (n + 1) 35 x → ∃ u : DtId, x = DtId.cells u ∧ DtId.wf u := by
 intro x hx
 unfold shp at hx
 rw [Tryz.underlying35] at hx
 simp only [shpF] at hx
 obtain ⟨a0, _, rfl, -, h0, a1, _, rfl, -, h1, rfl⟩ := hx
 obtain ⟨u0, rfl, w0⟩ := (zhy Tryz.underlying3) _ h0
 obtain ⟨u1, rfl, w1⟩ := (zhy Tryz.underlying3) _ h1
 exact ⟨⟨u0, u1⟩, rfl, w0, w1⟩
theorem of_38 (n : Nat) : ∀ x, shp Tryz.prog (n + 2) 38 x → ∃ u : DtCmd, x = DtCmd.cells u ∧ DtCmd.wf u := by
 intro x hx
 unfold shp at hx
 rw [Tryz.underlying38] at hx
 simp only [shpF] at hx
 obtain ⟨a0, _, rfl, -, h0, a1, _, rfl, -, h1, a2, _, rfl, -, h2, a3, _, rfl, -, h3, a4, _, rfl, -, h4, a5, _, rfl, -, h5, a6, _, rfl, -, h6, a7, _, rfl, -, h7, rfl⟩ := hx
 obtain ⟨u0, rfl, w0⟩ := (zhy Tryz.underlying3) _ h0
 obtain ⟨u1, rfl, w1⟩ := (zhy Tryz.underlying3) _ h1
 obtain ⟨u2, rfl, w2⟩ := (zhy Tryz.underlying3) _ h2
 obtain ⟨u3, rfl, w3⟩ := (zvu Tryz.underlying9) _ h3
 obtain ⟨u4, rfl, w4⟩ := (zvu Tryz.underlying9) _ h4
 obtain ⟨u5, rfl, w5⟩ := (zvu Tryz.underlying9) _ h5
 obtain ⟨u6, rfl, w6⟩ := (zhy Tryz.underlying3) _ h6
 obtain ⟨u7, rfl, w7⟩ := (zz3 Tryz.underlying36 c9 (zvu Tryz.underlying9)) _ h7
 exact ⟨⟨u0, u1, u2, u3, u4, u5, u6, u7⟩, rfl, w0, w1, w2, w3, w4, w5, w6, w7⟩
theorem of_41 (n : Nat) : ∀ x, shp Tryz.prog (n + 3) 41 x → ∃ u : DtInst, x = DtInst.cells u ∧ DtInst.wf u := by
 intro x hx
 unfold shp at hx
 rw [Tryz.underlying41] at hx
 simp only [shpF] at hx
 obtain ⟨a0, _, rfl, -, h0, a1, _, rfl, -, h1, a2, _, rfl, -, h2, a3, _, rfl, -, h3, a4, _, rfl, -, h4, a5, _, rfl, -, h5, a6, _, rfl, -, h6, a7, _, rfl, -, h7, rfl⟩ := hx
 obtain ⟨u0, rfl, w0⟩ := (of_35 _) _ h0
 obtain ⟨u1, rfl, w1⟩ := (zhy Tryz.underlying3) _ h1
 obtain ⟨u2, rfl, w2⟩ := (zhy Tryz.underlying3) _ h2
 obtain ⟨u3, rfl, w3⟩ := (zhy Tryz.underlying3) _ h3
 obtain ⟨u4, rfl, w4⟩ := (of_38 _) _ h4
 obtain ⟨u5, rfl, w5⟩ := (zhy Tryz.underlying3) _ h5
 obtain ⟨u6, rfl, w6⟩ := (zz3 Tryz.underlying39 c35 (of_35 _)) _ h6
 obtain ⟨u7, rfl, w7⟩ := (of_bool Tryz.underlying4) _ h7
 exact ⟨⟨u0, u1, u2, u3, u4, u5, u6, u7⟩, rfl, w0, w1, w2, w3, w4, w5, w6, w7⟩
theorem walk : ∀ l, shpA Tryz.prog 7 [22] l → PCall Tryz.prog 3 l (.g (.bool true)) := by
 rintro l ⟨cs0, l0, rfl, h0, rfl⟩
 have e0 : argA Tryz.prog 22 cs0 = cs0.headD .undef := by unfold argA; rw [Tryz.underlying22]
 rw [e0]
 obtain ⟨u0, rfl, w0⟩ := (zz3 Tryz.underlying22 c41 (of_41 _)) _ h0
 exact zt8 u0 w0
set_option maxRecDepth 100000 in
theorem lifted (os : Os) (started : os.Started) (H : Type) (enc : TypeId × Value → H) :
 ReturnsInHanded {} Tryz.checked os 3 .any (Rows.fnExactExecCmdsSpec.pre6 enc Tryz.prog Tryz.f3 Rows.fnExactExecCmdsRow.domain false) (Rows.fnExactExecCmdsSpec.post enc Tryz.prog Tryz.f3 false true false false) := by
 refine returnsInHanded_of_change (C := Tryz.checked) own started (by kernel_rfl) Tryz.func3
  (ChangeSpec.witness6 (enc := enc) (C := Tryz.checked) false ⟨#[], #[.slice none 0 0], []⟩ 8 (by kernel_rfl) (by kernel_rfl) (by kernel_rfl) (by kernel_rfl)) ?_
 intro W base args ds gs before hval hW hcnd _
 refine law_post (n := 7) (tb := 4) rfl laid (by kernel_rfl) ?_ rfl Tryz.underlying4 ?_ ?_ hval hW
 ·rw [Tryz.params3]
  intro t ht
  have : t = 22 := by simpa using ht
  rcases this with rfl
  ·exact ⟨by kernel_rfl, of_decide_eq_true (by kernel_rfl)⟩
 ·intro ds hds
  rw [Tryz.params3] at hds
  match ds, hds with
  | [d0], _ => exact ⟨rfl, rfl, rfl⟩
 ·rw [Tryz.params3]
  exact walk
theorem over : Rows.fnExactExecCmdsRow.holds Tryz.pinned (OpenSpec.ofChange Rows.fnExactExecCmdsSpec) :=
 OpenClaim.holds_of_wide 3 Tryz.f3 rfl rfl rfl rfl rfl rfl rfl ⟨rfl, rfl, rfl, rfl, rfl⟩ rfl rfl rfl rfl rfl (by kernel_rfl) Tryz.func3 (by kernel_rfl)
  (of_decide_eq_true (by kernel_rfl)) (by unfold Func.isWrapper; first | (rw [if_pos (by decide +kernel)]; kernel_rfl) | (rw [if_neg (by decide +kernel)]; exact ⟨rfl, rfl⟩))
  (fun os started H enc _ => lifted os started H enc)
theorem proved : Rows.FnExactExecCmdsSaid :=
 over
#print axioms proved
end Go.Proofs.YtfbmhgiokfpgiaaGreat.fnExactExecCmds
