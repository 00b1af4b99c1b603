/- The program's CatDo returns what the reference's returns, for all arguments; there is no further condition. -/
import Derived.Test.YtmheohnbkaoipaaSLCQ
import Derived.Test.YtmheohnbkaoipaaRows
import Derived.WalkKit
import Derived.ProofKit
import Derived.OpenShut
namespace Go.Proofs.Ytmheohnbkaoipaa.fnExactCatDo
set_option linter.all false
open Go.ChangeShapes Go.WideShapes Go.ChangeAt Go.RowKit Go.Proofs.Ytmheohnbkaoipaa.Vs
set_option linter.unusedVariables false
set_option maxRecDepth 100000
theorem own : ownKnob Try.prog.godebug = none := by kernel_rfl
theorem laid : laidOutB Try.prog = true := by kernel_rfl
theorem c9 : Try.prog.cellsOf 9 = 1 := by kernel_rfl
theorem c117 : Try.prog.cellsOf 117 = 2 := by kernel_rfl
theorem c157 : Try.prog.cellsOf 157 = 3 := by kernel_rfl
theorem of_157 (n : Nat) : ∀ x, shp Try.prog (n + 2) 157 x → ∃ u : DtCSnap, x = DtCSnap.cells u ∧ DtCSnap.wf u := by
  intro x hx
  unfold shp at hx
  rw [Try.underlying157] at hx
  simp only [shpF] at hx
  obtain ⟨a0, _, rfl, -, h0, a1, _, rfl, -, h1, a2, _, rfl, -, h2, rfl⟩ := hx
  obtain ⟨u0, rfl, w0⟩ := (of_str Try.underlying9) _ h0
  obtain ⟨u1, rfl, w1⟩ := (of_str Try.underlying9) _ h1
  obtain ⟨u2, rfl, w2⟩ := (of_row Try.underlying25 c9 (of_str Try.underlying9)) _ h2
  exact ⟨⟨u0, u1, u2⟩, rfl, w0, w1, w2⟩
theorem of_117 (n : Nat) : ∀ x, shp Try.prog (n + 4) 117 x → ∃ u : DtCSet, x = DtCSet.cells u ∧ DtCSet.wf u := by
  intro x hx
  unfold shp at hx
  rw [Try.underlying117] at hx
  simp only [shpF] at hx
  obtain ⟨a0, _, rfl, -, h0, a1, _, rfl, -, h1, rfl⟩ := hx
  obtain ⟨u0, rfl, w0⟩ := (of_str Try.underlying9) _ h0
  obtain ⟨u1, rfl, w1⟩ := (of_row Try.underlying115 c157 (of_157 _)) _ h1
  exact ⟨⟨u0, u1⟩, rfl, w0, w1⟩
theorem of_24 (n : Nat) : ∀ x, shp Try.prog (n + 6) 24 x → ∃ u : DtCatalog, x = DtCatalog.cells u ∧ DtCatalog.wf u := by
  intro x hx
  unfold shp at hx
  rw [Try.underlying24] at hx
  simp only [shpF] at hx
  obtain ⟨a0, _, rfl, -, h0, rfl⟩ := hx
  obtain ⟨u0, rfl, w0⟩ := (of_row Try.underlying22 c117 (of_117 _)) _ h0
  exact ⟨⟨u0⟩, rfl, w0⟩
theorem of_27 (n : Nat) : ∀ x, shp Try.prog (n + 2) 27 x → ∃ u : DtCmd, x = DtCmd.cells u ∧ DtCmd.wf u := by
  intro x hx
  unfold shp at hx
  rw [Try.underlying27] at hx
  simp only [shpF] at hx
  obtain ⟨a0, _, rfl, -, h0, a1, _, rfl, -, h1, a2, _, rfl, -, h2, a3, _, rfl, -, h3, a4, _, rfl, -, h4, a5, _, rfl, -, h5, a6, _, rfl, -, h6, a7, _, rfl, -, h7, rfl⟩ := hx
  obtain ⟨u0, rfl, w0⟩ := (of_int Try.underlying3) _ h0
  obtain ⟨u1, rfl, w1⟩ := (of_int Try.underlying3) _ h1
  obtain ⟨u2, rfl, w2⟩ := (of_int Try.underlying3) _ h2
  obtain ⟨u3, rfl, w3⟩ := (of_str Try.underlying9) _ h3
  obtain ⟨u4, rfl, w4⟩ := (of_str Try.underlying9) _ h4
  obtain ⟨u5, rfl, w5⟩ := (of_str Try.underlying9) _ h5
  obtain ⟨u6, rfl, w6⟩ := (of_int Try.underlying3) _ h6
  obtain ⟨u7, rfl, w7⟩ := (of_row Try.underlying25 c9 (of_str Try.underlying9)) _ h7
  exact ⟨⟨u0, u1, u2, u3, u4, u5, u6, u7⟩, rfl, w0, w1, w2, w3, w4, w5, w6, w7⟩
theorem walk : ∀ l, shpA Try.prog 9 [24, 27] l → PCall Try.prog 3 l (.g (.bool true)) := by
  rintro l ⟨cs0, l0, rfl, h0, cs1, l1, rfl, h1, rfl⟩
  have e0 : argA Try.prog 24 cs0 = .agg cs0 := by unfold argA; rw [Try.underlying24]
  have e1 : argA Try.prog 27 cs1 = .agg cs1 := by unfold argA; rw [Try.underlying27]
  rw [e0, e1]
  obtain ⟨u0, rfl, w0⟩ := (of_24 _) _ h0
  obtain ⟨u1, rfl, w1⟩ := (of_27 _) _ h1
  exact lawCatDo u0 w0 u1 w1
set_option maxRecDepth 100000 in
theorem lifted (os : Os) (started : os.Started) (H : Type) (enc : TypeId × Value → H) :
    ReturnsInHanded {} Try.checked os 3 .any (Rows.fnExactCatDoSpec.pre6 enc Try.prog Try.f3 Rows.fnExactCatDoRow.domain false) (Rows.fnExactCatDoSpec.post enc Try.prog Try.f3 false true false false) := by
  refine returnsInHanded_of_change (C := Try.checked) own started (by kernel_rfl) Try.func3
    (ChangeSpec.witness6 (enc := enc) (C := Try.checked) false ⟨#[], #[.agg #[.slice none 0 0], .agg #[.int .i64 0, .int .i64 0, .int .i64 0, .string ⟨#[]⟩, .string ⟨#[]⟩, .string ⟨#[]⟩, .int .i64 0, .slice none 0 0]], []⟩ 8 (by kernel_rfl) (by kernel_rfl) (by kernel_rfl) (by kernel_rfl)) ?_
  intro W base args ds gs before hval hW hcnd _
  refine law_post (n := 9) (tb := 4) rfl laid (by kernel_rfl) ?_ rfl Try.underlying4 ?_ ?_ hval hW
  · rw [Try.params3]
    intro t ht
    have : t = 24 ∨ t = 27 := by simpa using ht
    rcases this with rfl | rfl
    · exact ⟨by kernel_rfl, of_decide_eq_true (by kernel_rfl)⟩
    · exact ⟨by kernel_rfl, of_decide_eq_true (by kernel_rfl)⟩
  · intro ds hds
    rw [Try.params3] at hds
    match ds, hds with
    | [d0, d1], _ => exact ⟨rfl, rfl, rfl⟩
  · rw [Try.params3]
    exact walk
theorem over : Rows.fnExactCatDoRow.holds Try.pinned (OpenSpec.ofChange Rows.fnExactCatDoSpec) :=
  OpenClaim.holds_of_wide 3 Try.f3 rfl rfl rfl rfl rfl rfl rfl ⟨rfl, rfl, rfl, rfl, rfl⟩ rfl rfl rfl rfl rfl (by kernel_rfl) Try.func3 (by kernel_rfl)
    (of_decide_eq_true (by kernel_rfl)) (by unfold Func.isWrapper; first | (rw [if_pos (by decide +kernel)]; kernel_rfl) | (rw [if_neg (by decide +kernel)]; exact ⟨rfl, rfl⟩))
    (fun os started H enc _ => lifted os started H enc)
theorem proved : Rows.FnExactCatDoSaid :=
  over
#print axioms proved
end Go.Proofs.Ytmheohnbkaoipaa.fnExactCatDo
