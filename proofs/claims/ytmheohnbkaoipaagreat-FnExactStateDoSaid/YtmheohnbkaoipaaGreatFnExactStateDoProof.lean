/- The program's StateDo returns what the reference's returns, for all arguments; there is no further condition. -/
import Derived.Test.YtmheohnbkaoipaaGreatSLDQ
import Derived.Test.YtmheohnbkaoipaaGreatRows
import Derived.WalkKit
import Derived.ProofKit
import Derived.OpenShut
namespace Go.Proofs.YtmheohnbkaoipaaGreat.fnExactStateDo
set_option linter.all false
open Go.ChangeShapes Go.WideShapes Go.ChangeAt Go.RowKit Go.Proofs.YtmheohnbkaoipaaGreat.Vs
set_option linter.unusedVariables false
set_option maxRecDepth 100000
theorem own : ownKnob Tryz.prog.godebug = none := by kernel_rfl
theorem laid : laidOutB Tryz.prog = true := by kernel_rfl
theorem c9 : Tryz.prog.cellsOf 9 = 1 := by kernel_rfl
theorem c73 : Tryz.prog.cellsOf 73 = 3 := by kernel_rfl
theorem c100 : Tryz.prog.cellsOf 100 = 2 := by kernel_rfl
theorem c126 : Tryz.prog.cellsOf 126 = 3 := by kernel_rfl
theorem of_126 (n : Nat) : ∀ x, shp Tryz.prog (n + 2) 126 x → ∃ u : DtCSnap, x = DtCSnap.cells u ∧ DtCSnap.wf u := by
 intro x hx
 unfold shp at hx
 rw [Tryz.underlying126] at hx
 simp only [shpF] at hx
 obtain ⟨a0, _, rfl, -, h0, a1, _, rfl, -, h1, a2, _, rfl, -, h2, rfl⟩ := hx
 obtain ⟨u0, rfl, w0⟩ := (zh1 Tryz.underlying9) _ h0
 obtain ⟨u1, rfl, w1⟩ := (zh1 Tryz.underlying9) _ h1
 obtain ⟨u2, rfl, w2⟩ := (zqz Tryz.underlying28 c9 (zh1 Tryz.underlying9)) _ h2
 exact ⟨⟨u0, u1, u2⟩, rfl, w0, w1, w2⟩
theorem of_100 (n : Nat) : ∀ x, shp Tryz.prog (n + 4) 100 x → ∃ u : DtCSet, x = DtCSet.cells u ∧ DtCSet.wf u := by
 intro x hx
 unfold shp at hx
 rw [Tryz.underlying100] at hx
 simp only [shpF] at hx
 obtain ⟨a0, _, rfl, -, h0, a1, _, rfl, -, h1, rfl⟩ := hx
 obtain ⟨u0, rfl, w0⟩ := (zh1 Tryz.underlying9) _ h0
 obtain ⟨u1, rfl, w1⟩ := (zqz Tryz.underlying98 c126 (of_126 _)) _ h1
 exact ⟨⟨u0, u1⟩, rfl, w0, w1⟩
theorem of_24 (n : Nat) : ∀ x, shp Tryz.prog (n + 6) 24 x → ∃ u : DtCatalog, x = DtCatalog.cells u ∧ DtCatalog.wf u := by
 intro x hx
 unfold shp at hx
 rw [Tryz.underlying24] at hx
 simp only [shpF] at hx
 obtain ⟨a0, _, rfl, -, h0, rfl⟩ := hx
 obtain ⟨u0, rfl, w0⟩ := (zqz Tryz.underlying22 c100 (of_100 _)) _ h0
 exact ⟨⟨u0⟩, rfl, w0⟩
theorem of_73 (n : Nat) : ∀ x, shp Tryz.prog (n + 1) 73 x → ∃ u : DtSaid, x = DtSaid.cells u ∧ DtSaid.wf u := by
 intro x hx
 unfold shp at hx
 rw [Tryz.underlying73] at hx
 simp only [shpF] at hx
 obtain ⟨a0, _, rfl, -, h0, a1, _, rfl, -, h1, a2, _, rfl, -, h2, rfl⟩ := hx
 obtain ⟨u0, rfl, w0⟩ := (zna Tryz.underlying3) _ h0
 obtain ⟨u1, rfl, w1⟩ := (zna Tryz.underlying3) _ h1
 obtain ⟨u2, rfl, w2⟩ := (zh1 Tryz.underlying9) _ h2
 exact ⟨⟨u0, u1, u2⟩, rfl, w0, w1, w2⟩
theorem of_27 (n : Nat) : ∀ x, shp Tryz.prog (n + 7) 27 x → ∃ u : DtState, x = DtState.cells u ∧ DtState.wf u := by
 intro x hx
 unfold shp at hx
 rw [Tryz.underlying27] at hx
 simp only [shpF] at hx
 obtain ⟨a0, _, rfl, -, h0, a1, _, rfl, -, h1, rfl⟩ := hx
 obtain ⟨u0, rfl, w0⟩ := (of_24 _) _ h0
 obtain ⟨u1, rfl, w1⟩ := (zqz Tryz.underlying25 c73 (of_73 _)) _ h1
 exact ⟨⟨u0, u1⟩, rfl, w0, w1⟩
theorem of_30 (n : Nat) : ∀ x, shp Tryz.prog (n + 2) 30 x → ∃ u : DtCmd, x = DtCmd.cells u ∧ DtCmd.wf u := by
 intro x hx
 unfold shp at hx
 rw [Tryz.underlying30] at hx
 simp only [shpF] at hx
 obtain ⟨a0, _, rfl, -, h0, a1, _, rfl, -, h1, a2, _, rfl, -, h2, a3, _, rfl, -, h3, a4, _, rfl, -, h4, a5, _, rfl, -, h5, a6, _, rfl, -, h6, a7, _, rfl, -, h7, rfl⟩ := hx
 obtain ⟨u0, rfl, w0⟩ := (zna Tryz.underlying3) _ h0
 obtain ⟨u1, rfl, w1⟩ := (zna Tryz.underlying3) _ h1
 obtain ⟨u2, rfl, w2⟩ := (zna Tryz.underlying3) _ h2
 obtain ⟨u3, rfl, w3⟩ := (zh1 Tryz.underlying9) _ h3
 obtain ⟨u4, rfl, w4⟩ := (zh1 Tryz.underlying9) _ h4
 obtain ⟨u5, rfl, w5⟩ := (zh1 Tryz.underlying9) _ h5
 obtain ⟨u6, rfl, w6⟩ := (zna Tryz.underlying3) _ h6
 obtain ⟨u7, rfl, w7⟩ := (zqz Tryz.underlying28 c9 (zh1 Tryz.underlying9)) _ h7
 exact ⟨⟨u0, u1, u2, u3, u4, u5, u6, u7⟩, rfl, w0, w1, w2, w3, w4, w5, w6, w7⟩
theorem walk : ∀ l, shpA Tryz.prog 10 [27, 30] l → PCall Tryz.prog 3 l (.g (.bool true)) := by
 rintro l ⟨cs0, l0, rfl, h0, cs1, l1, rfl, h1, rfl⟩
 have e0 : argA Tryz.prog 27 cs0 = .agg cs0 := by unfold argA; rw [Tryz.underlying27]
 have e1 : argA Tryz.prog 30 cs1 = .agg cs1 := by unfold argA; rw [Tryz.underlying30]
 rw [e0, e1]
 obtain ⟨u0, rfl, w0⟩ := (of_27 _) _ h0
 obtain ⟨u1, rfl, w1⟩ := (of_30 _) _ h1
 exact zw2 u0 w0 u1 w1
set_option maxRecDepth 100000 in
theorem lifted (os : Os) (started : os.Started) (H : Type) (enc : TypeId × Value → H) :
 ReturnsInHanded {} Tryz.checked os 3 .any (Rows.fnExactStateDoSpec.pre6 enc Tryz.prog Tryz.f3 Rows.fnExactStateDoRow.domain false) (Rows.fnExactStateDoSpec.post enc Tryz.prog Tryz.f3 false true false false) := by
 refine returnsInHanded_of_change (C := Tryz.checked) own started (by kernel_rfl) Tryz.func3
  (ChangeSpec.witness6 (enc := enc) (C := Tryz.checked) false ⟨#[], #[.agg #[.slice none 0 0, .slice none 0 0], .agg #[.int .i64 0, .int .i64 0, .int .i64 0, .string ⟨#[]⟩, .string ⟨#[]⟩, .string ⟨#[]⟩, .int .i64 0, .slice none 0 0]], []⟩ 8 (by kernel_rfl) (by kernel_rfl) (by kernel_rfl) (by kernel_rfl)) ?_
 intro W base args ds gs before hval hW hcnd _
 refine law_post (n := 10) (tb := 4) rfl laid (by kernel_rfl) ?_ rfl Tryz.underlying4 ?_ ?_ hval hW
 ·rw [Tryz.params3]
  intro t ht
  have : t = 27 ∨ t = 30 := by simpa using ht
  rcases this with rfl | rfl
  ·exact ⟨by kernel_rfl, of_decide_eq_true (by kernel_rfl)⟩
  ·exact ⟨by kernel_rfl, of_decide_eq_true (by kernel_rfl)⟩
 ·intro ds hds
  rw [Tryz.params3] at hds
  match ds, hds with
  | [d0, d1], _ => exact ⟨rfl, rfl, rfl⟩
 ·rw [Tryz.params3]
  exact walk
theorem over : Rows.fnExactStateDoRow.holds Tryz.pinned (OpenSpec.ofChange Rows.fnExactStateDoSpec) :=
 OpenClaim.holds_of_wide 3 Tryz.f3 rfl rfl rfl rfl rfl rfl rfl ⟨rfl, rfl, rfl, rfl, rfl⟩ rfl rfl rfl rfl rfl (by kernel_rfl) Tryz.func3 (by kernel_rfl)
  (of_decide_eq_true (by kernel_rfl)) (by unfold Func.isWrapper; first | (rw [if_pos (by decide +kernel)]; kernel_rfl) | (rw [if_neg (by decide +kernel)]; exact ⟨rfl, rfl⟩))
  (fun os started H enc _ => lifted os started H enc)
theorem proved : Rows.FnExactStateDoSaid :=
 over
#print axioms proved
end Go.Proofs.YtmheohnbkaoipaaGreat.fnExactStateDo
