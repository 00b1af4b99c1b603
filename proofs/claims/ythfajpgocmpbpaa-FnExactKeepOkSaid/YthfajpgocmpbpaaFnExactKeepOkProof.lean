/- The program's KeepOk returns what the reference's returns, for all arguments; there is no further condition. -/
import Derived.Test.YthfajpgocmpbpaaSK5
import Derived.Test.YthfajpgocmpbpaaRows
import Derived.WalkKit
import Derived.ProofKit
import Derived.OpenShut
namespace Go.Proofs.Ythfajpgocmpbpaa.fnExactKeepOk
set_option linter.unusedVariables false
set_option linter.unusedSimpArgs false
set_option linter.unusedSectionVars false
set_option linter.unnecessarySimpa false
set_option linter.all false
open Go.ChangeShapes Go.WideShapes Go.ChangeAt Go.RowKit Go.Proofs.Ythfajpgocmpbpaa.Vs
set_option linter.unusedVariables false
theorem own : ownKnob Try.prog.godebug = none := by kernel_rfl
theorem c3 : Try.prog.cellsOf 3 = 1 := by kernel_rfl
theorem laid : laidOutB Try.prog = true := by kernel_rfl
/-- A row of integers. -/
theorem ints_of {P : Program} {n : Nat} {t : TypeId} {k : IntKind} (hu : P.underlying t = some (.int k)) : ∀ (xs : List (List AV)), (∀ x ∈ xs, shp P n t x) → ∃ l : List Int, xs = l.map fun z => [.g (.int k z)]
  | [], _ => ⟨[], rfl⟩
  | x :: xs, h => by
    obtain ⟨l, rfl⟩ := ints_of hu xs fun y hy => h y (by simp [hy])
    have hx := h x (by simp)
    cases n with
    | zero => exact hx.elim
    | succ n =>
      unfold shp at hx
      rw [hu] at hx
      obtain ⟨m, rfl, -⟩ := hx
      exact ⟨m :: l, rfl⟩
theorem walk : ∀ l, shpA Try.prog 3 [28, 30] l → PCall Try.prog 4 l (.g (.bool true)) := by
  rintro l ⟨cs, l1, rfl, h1, ds, l2, rfl, h2, rfl⟩
  have e1 : argA Try.prog 28 cs = cs.headD .undef := by unfold argA; rw [Try.underlying28]
  have e2 : argA Try.prog 30 ds = .agg ds := by unfold argA; rw [Try.underlying30]
  rw [e1, e2]
  unfold shp at h1 h2
  rw [Try.underlying28] at h1
  rw [Try.underlying30] at h2
  obtain ⟨xs, rfl, hl, hx⟩ := h1
  obtain ⟨l, rfl⟩ := ints_of Try.underlying3 xs hx
  simp only [shpF, shp, Try.underlying3, c3] at h2
  obtain ⟨_, _, rfl, -, ⟨a, rfl, -⟩, _, _, rfl, -, ⟨b, rfl, -⟩, _, _, rfl, -, ⟨c, rfl, -⟩, rfl⟩ := h2
  rw [c3]
  exact lawKeepOk l a b c (by simpa using hl)
set_option maxRecDepth 100000 in
theorem lifted (os : Os) (started : os.Started) (H : Type) (enc : TypeId × Value → H) :
    ReturnsInHanded {} Try.checked os 4 .any (Rows.fnExactKeepOkSpec.pre6 enc Try.prog Try.f4 Rows.fnExactKeepOkRow.domain false) (Rows.fnExactKeepOkSpec.post enc Try.prog Try.f4 false true false false) := by
  refine returnsInHanded_of_change (C := Try.checked) own started (by kernel_rfl) Try.func4
    (ChangeSpec.witness6 (enc := enc) (C := Try.checked) false ⟨#[], #[.slice none 0 0, .agg #[.int .i64 0, .int .i64 0, .int .i64 0]], []⟩ 8 (by kernel_rfl) (by kernel_rfl) (by kernel_rfl) (by kernel_rfl)) ?_
  intro W base args ds gs before hval hW hcnd _
  refine law_post (n := 3) (tb := 4) rfl laid (by kernel_rfl) ?_ rfl Try.underlying4 ?_ ?_ hval hW
  · rw [Try.params4]
    intro t ht
    have : t = 28 ∨ t = 30 := by simpa using ht
    rcases this with rfl | rfl
    · exact ⟨by kernel_rfl, of_decide_eq_true (by kernel_rfl)⟩
    · exact ⟨by kernel_rfl, of_decide_eq_true (by kernel_rfl)⟩
  · intro ds hds
    rw [Try.params4] at hds
    match ds, hds with
    | [d1, d2], _ => exact ⟨rfl, rfl, rfl⟩
  · rw [Try.params4]
    exact walk

theorem over : Rows.fnExactKeepOkRow.holds Try.pinned (OpenSpec.ofChange Rows.fnExactKeepOkSpec) :=
  OpenClaim.holds_of_wide 4 Try.f4 rfl rfl rfl rfl rfl rfl rfl ⟨rfl, rfl, rfl, rfl, rfl⟩ rfl rfl rfl rfl rfl (by kernel_rfl) Try.func4 (by kernel_rfl)
    (of_decide_eq_true (by kernel_rfl)) (by unfold Func.isWrapper; first | (rw [if_pos (by decide +kernel)]; kernel_rfl) | (rw [if_neg (by decide +kernel)]; exact ⟨rfl, rfl⟩))
    (fun os started H enc _ => lifted os started H enc)
theorem proved : Rows.FnExactKeepOkSaid :=
  over
#print axioms proved
end Go.Proofs.Ythfajpgocmpbpaa.fnExactKeepOk
