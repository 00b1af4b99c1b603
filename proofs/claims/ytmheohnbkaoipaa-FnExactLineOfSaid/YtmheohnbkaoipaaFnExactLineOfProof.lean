/- The program's LineOf returns what the reference's returns, for all arguments; there is no further condition. -/
import Derived.Test.YtmheohnbkaoipaaSLLQ
import Derived.Test.YtmheohnbkaoipaaRows
import Derived.WalkKit
import Derived.ProofKit
import Derived.OpenShut
namespace Go.Proofs.Ytmheohnbkaoipaa.fnExactLineOf
set_option linter.all false
open Go.ChangeShapes Go.WideShapes Go.ChangeAt Go.RowKit Go.Proofs.Ytmheohnbkaoipaa.Vs
set_option linter.unusedVariables false
set_option maxRecDepth 100000
theorem own : ownKnob Try.prog.godebug = none := by kernel_rfl
theorem laid : laidOutB Try.prog = true := by kernel_rfl
theorem c9 : Try.prog.cellsOf 9 = 1 := by kernel_rfl
theorem c102 : Try.prog.cellsOf 102 = 11 := by kernel_rfl
theorem of_27 (n : Nat) : ∀ x, shp Try.prog (n + 2) 27 x → ∃ u : DtCmd, x = DtCmd.cells u ∧ DtCmd.wf u := by
 intro x hx
 unfold shp at hx
 rw [Try.underlying27] at hx
 simp only [shpF] at hx
 obtain ⟨a0, _, rfl, -, h0, a1, _, rfl, -, h1, a2, _, rfl, -, h2, a3, _, rfl, -, h3, a4, _, rfl, -, h4, a5, _, rfl, -, h5, a6, _, rfl, -, h6, a7, _, rfl, -, h7, rfl⟩ := hx
 obtain ⟨u0, rfl, w0⟩ := (zm7 Try.underlying3) _ h0
 obtain ⟨u1, rfl, w1⟩ := (zm7 Try.underlying3) _ h1
 obtain ⟨u2, rfl, w2⟩ := (zm7 Try.underlying3) _ h2
 obtain ⟨u3, rfl, w3⟩ := (zq6 Try.underlying9) _ h3
 obtain ⟨u4, rfl, w4⟩ := (zq6 Try.underlying9) _ h4
 obtain ⟨u5, rfl, w5⟩ := (zq6 Try.underlying9) _ h5
 obtain ⟨u6, rfl, w6⟩ := (zm7 Try.underlying3) _ h6
 obtain ⟨u7, rfl, w7⟩ := (of_row Try.underlying25 c9 (zq6 Try.underlying9)) _ h7
 exact ⟨⟨u0, u1, u2, u3, u4, u5, u6, u7⟩, rfl, w0, w1, w2, w3, w4, w5, w6, w7⟩
theorem of_102 (n : Nat) : ∀ x, shp Try.prog (n + 3) 102 x → ∃ u : DtCall, x = DtCall.cells u ∧ DtCall.wf u := by
 intro x hx
 unfold shp at hx
 rw [Try.underlying102] at hx
 simp only [shpF] at hx
 obtain ⟨a0, _, rfl, -, h0, a1, _, rfl, -, h1, a2, _, rfl, -, h2, a3, _, rfl, -, h3, rfl⟩ := hx
 obtain ⟨u0, rfl, w0⟩ := (zm7 Try.underlying3) _ h0
 obtain ⟨u1, rfl, w1⟩ := (zm7 Try.underlying3) _ h1
 obtain ⟨u2, rfl, w2⟩ := (of_27 _) _ h2
 obtain ⟨u3, rfl, w3⟩ := (zq6 Try.underlying9) _ h3
 exact ⟨⟨u0, u1, u2, u3⟩, rfl, w0, w1, w2, w3⟩
theorem walk : ∀ l, shpA Try.prog 7 [61] l → PCall Try.prog 7 l (.g (.bool true)) := by
 rintro l ⟨cs0, l0, rfl, h0, rfl⟩
 have e0 : argA Try.prog 61 cs0 = cs0.headD .undef := by unfold argA; rw [Try.underlying61]
 rw [e0]
 obtain ⟨u0, rfl, w0⟩ := (of_row Try.underlying61 c102 (of_102 _)) _ h0
 exact lawLineOf u0 w0
set_option maxRecDepth 100000 in
theorem lifted (os : Os) (started : os.Started) (H : Type) (enc : TypeId × Value → H) :
 ReturnsInHanded {} Try.checked os 7 .any (Rows.fnExactLineOfSpec.pre6 enc Try.prog Try.f7 Rows.fnExactLineOfRow.domain false) (Rows.fnExactLineOfSpec.post enc Try.prog Try.f7 false true false false) := by
 refine returnsInHanded_of_change (C := Try.checked) own started (by kernel_rfl) Try.func7
  (ChangeSpec.witness6 (enc := enc) (C := Try.checked) false ⟨#[], #[.slice none 0 0], []⟩ 8 (by kernel_rfl) (by kernel_rfl) (by kernel_rfl) (by kernel_rfl)) ?_
 intro W base args ds gs before hval hW hcnd _
 refine law_post (n := 7) (tb := 4) rfl laid (by kernel_rfl) ?_ rfl Try.underlying4 ?_ ?_ hval hW
 ·rw [Try.params7]
  intro t ht
  have : t = 61 := by simpa using ht
  rcases this with rfl
  ·exact ⟨by kernel_rfl, of_decide_eq_true (by kernel_rfl)⟩
 ·intro ds hds
  rw [Try.params7] at hds
  match ds, hds with
  | [d0], _ => exact ⟨rfl, rfl, rfl⟩
 ·rw [Try.params7]
  exact walk
theorem over : Rows.fnExactLineOfRow.holds Try.pinned (OpenSpec.ofChange Rows.fnExactLineOfSpec) :=
 OpenClaim.holds_of_wide 7 Try.f7 rfl rfl rfl rfl rfl rfl rfl ⟨rfl, rfl, rfl, rfl, rfl⟩ rfl rfl rfl rfl rfl (by kernel_rfl) Try.func7 (by kernel_rfl)
  (of_decide_eq_true (by kernel_rfl)) (by unfold Func.isWrapper; first | (rw [if_pos (by decide +kernel)]; kernel_rfl) | (rw [if_neg (by decide +kernel)]; exact ⟨rfl, rfl⟩))
  (fun os started H enc _ => lifted os started H enc)
theorem proved : Rows.FnExactLineOfSaid :=
 over
#print axioms proved
end Go.Proofs.Ytmheohnbkaoipaa.fnExactLineOf
