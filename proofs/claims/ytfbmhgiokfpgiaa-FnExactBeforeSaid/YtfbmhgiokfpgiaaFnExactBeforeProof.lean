/- The program's Before returns what the reference's returns, for all arguments; there is no further condition. -/
import Derived.Test.YtfbmhgiokfpgiaaSLBQ
import Derived.Test.YtfbmhgiokfpgiaaRows
import Derived.WalkKit
import Derived.ProofKit
import Derived.OpenShut
namespace Go.Proofs.Ytfbmhgiokfpgiaa.fnExactBefore
set_option linter.all false
open Go.ChangeShapes Go.WideShapes Go.ChangeAt Go.RowKit Go.Proofs.Ytfbmhgiokfpgiaa.Vs
set_option linter.unusedVariables false
set_option maxRecDepth 100000
theorem own : ownKnob Try.prog.godebug = none := by kernel_rfl
theorem laid : laidOutB Try.prog = true := by kernel_rfl
theorem c9 : Try.prog.cellsOf 9 = 1 := by kernel_rfl
theorem c34 : Try.prog.cellsOf 34 = 2 := by kernel_rfl
theorem c45 : Try.prog.cellsOf 45 = 16 := by kernel_rfl
theorem of_34 (n : Nat) : ∀ x, shp Try.prog (n + 1) 34 x → ∃ u : DtId, x = DtId.cells u ∧ DtId.wf u := by
 intro x hx
 unfold shp at hx
 rw [Try.underlying34] at hx
 simp only [shpF] at hx
 obtain ⟨a0, _, rfl, -, h0, a1, _, rfl, -, h1, rfl⟩ := hx
 obtain ⟨u0, rfl, w0⟩ := (zhf Try.underlying3) _ h0
 obtain ⟨u1, rfl, w1⟩ := (zhf Try.underlying3) _ h1
 exact ⟨⟨u0, u1⟩, rfl, w0, w1⟩
theorem of_42 (n : Nat) : ∀ x, shp Try.prog (n + 2) 42 x → ∃ u : DtCmd, x = DtCmd.cells u ∧ DtCmd.wf u := by
 intro x hx
 unfold shp at hx
 rw [Try.underlying42] at hx
 simp only [shpF] at hx
 obtain ⟨a0, _, rfl, -, h0, a1, _, rfl, -, h1, a2, _, rfl, -, h2, a3, _, rfl, -, h3, a4, _, rfl, -, h4, a5, _, rfl, -, h5, a6, _, rfl, -, h6, a7, _, rfl, -, h7, rfl⟩ := hx
 obtain ⟨u0, rfl, w0⟩ := (zhf Try.underlying3) _ h0
 obtain ⟨u1, rfl, w1⟩ := (zhf Try.underlying3) _ h1
 obtain ⟨u2, rfl, w2⟩ := (zhf Try.underlying3) _ h2
 obtain ⟨u3, rfl, w3⟩ := (ztx Try.underlying9) _ h3
 obtain ⟨u4, rfl, w4⟩ := (ztx Try.underlying9) _ h4
 obtain ⟨u5, rfl, w5⟩ := (ztx Try.underlying9) _ h5
 obtain ⟨u6, rfl, w6⟩ := (zhf Try.underlying3) _ h6
 obtain ⟨u7, rfl, w7⟩ := (zxz Try.underlying40 c9 (ztx Try.underlying9)) _ h7
 exact ⟨⟨u0, u1, u2, u3, u4, u5, u6, u7⟩, rfl, w0, w1, w2, w3, w4, w5, w6, w7⟩
theorem of_45 (n : Nat) : ∀ x, shp Try.prog (n + 3) 45 x → ∃ u : DtInst, x = DtInst.cells u ∧ DtInst.wf u := by
 intro x hx
 unfold shp at hx
 rw [Try.underlying45] at hx
 simp only [shpF] at hx
 obtain ⟨a0, _, rfl, -, h0, a1, _, rfl, -, h1, a2, _, rfl, -, h2, a3, _, rfl, -, h3, a4, _, rfl, -, h4, a5, _, rfl, -, h5, a6, _, rfl, -, h6, a7, _, rfl, -, h7, rfl⟩ := hx
 obtain ⟨u0, rfl, w0⟩ := (of_34 _) _ h0
 obtain ⟨u1, rfl, w1⟩ := (zhf Try.underlying3) _ h1
 obtain ⟨u2, rfl, w2⟩ := (zhf Try.underlying3) _ h2
 obtain ⟨u3, rfl, w3⟩ := (zhf Try.underlying3) _ h3
 obtain ⟨u4, rfl, w4⟩ := (of_42 _) _ h4
 obtain ⟨u5, rfl, w5⟩ := (zhf Try.underlying3) _ h5
 obtain ⟨u6, rfl, w6⟩ := (zxz Try.underlying43 c34 (of_34 _)) _ h6
 obtain ⟨u7, rfl, w7⟩ := (of_bool Try.underlying4) _ h7
 exact ⟨⟨u0, u1, u2, u3, u4, u5, u6, u7⟩, rfl, w0, w1, w2, w3, w4, w5, w6, w7⟩
theorem walk : ∀ l, shpA Try.prog 7 [22, 34, 34] l → PCall Try.prog 4 l (.g (.bool true)) := by
 rintro l ⟨cs0, l0, rfl, h0, cs1, l1, rfl, h1, cs2, l2, rfl, h2, rfl⟩
 have e0 : argA Try.prog 22 cs0 = cs0.headD .undef := by unfold argA; rw [Try.underlying22]
 have e1 : argA Try.prog 34 cs1 = .agg cs1 := by unfold argA; rw [Try.underlying34]
 have e2 : argA Try.prog 34 cs2 = .agg cs2 := by unfold argA; rw [Try.underlying34]
 rw [e0, e1, e2]
 obtain ⟨u0, rfl, w0⟩ := (zxz Try.underlying22 c45 (of_45 _)) _ h0
 obtain ⟨u1, rfl, w1⟩ := (of_34 _) _ h1
 obtain ⟨u2, rfl, w2⟩ := (of_34 _) _ h2
 exact lawBefore u0 w0 u1 w1 u2 w2
set_option maxRecDepth 100000 in
theorem lifted (os : Os) (started : os.Started) (H : Type) (enc : TypeId × Value → H) :
 ReturnsInHanded {} Try.checked os 4 .any (Rows.fnExactBeforeSpec.pre6 enc Try.prog Try.f4 Rows.fnExactBeforeRow.domain false) (Rows.fnExactBeforeSpec.post enc Try.prog Try.f4 false true false false) := by
 refine returnsInHanded_of_change (C := Try.checked) own started (by kernel_rfl) Try.func4
  (ChangeSpec.witness6 (enc := enc) (C := Try.checked) false ⟨#[], #[.slice none 0 0, .agg #[.int .i64 0, .int .i64 0], .agg #[.int .i64 0, .int .i64 0]], []⟩ 8 (by kernel_rfl) (by kernel_rfl) (by kernel_rfl) (by kernel_rfl)) ?_
 intro W base args ds gs before hval hW hcnd _
 refine law_post (n := 7) (tb := 4) rfl laid (by kernel_rfl) ?_ rfl Try.underlying4 ?_ ?_ hval hW
 ·rw [Try.params4]
  intro t ht
  have : t = 22 ∨ t = 34 := by simpa using ht
  rcases this with rfl | rfl
  ·exact ⟨by kernel_rfl, of_decide_eq_true (by kernel_rfl)⟩
  ·exact ⟨by kernel_rfl, of_decide_eq_true (by kernel_rfl)⟩
 ·intro ds hds
  rw [Try.params4] at hds
  match ds, hds with
  | [d0, d1, d2], _ => exact ⟨rfl, rfl, rfl⟩
 ·rw [Try.params4]
  exact walk
theorem over : Rows.fnExactBeforeRow.holds Try.pinned (OpenSpec.ofChange Rows.fnExactBeforeSpec) :=
 OpenClaim.holds_of_wide 4 Try.f4 rfl rfl rfl rfl rfl rfl rfl ⟨rfl, rfl, rfl, rfl, rfl⟩ rfl rfl rfl rfl rfl (by kernel_rfl) Try.func4 (by kernel_rfl)
  (of_decide_eq_true (by kernel_rfl)) (by unfold Func.isWrapper; first | (rw [if_pos (by decide +kernel)]; kernel_rfl) | (rw [if_neg (by decide +kernel)]; exact ⟨rfl, rfl⟩))
  (fun os started H enc _ => lifted os started H enc)
theorem proved : Rows.FnExactBeforeSaid :=
 over
#print axioms proved
end Go.Proofs.Ytfbmhgiokfpgiaa.fnExactBefore
