import Derived.Test.YthfajpgocmpbpaaVsZF
import Derived.Test.YthfajpgocmpbpaaProg
open Go Go.Proofs Go.Proofs.Ythfajpgocmpbpaa.Vs
namespace Go.Proofs.Ythfajpgocmpbpaa.Vs
set_option linter.unusedVariables false
set_option linter.unusedSimpArgs false
set_option linter.unusedSectionVars false
set_option linter.unnecessarySimpa false
set_option linter.all false
theorem mix : Try.prog.follows .mixedOrders = true := by kernel_rfl
theorem t3 : ti Try.prog 3 = some { agg := false, size := 1, bytes := 8, zero := [.g (.int .i64 0)], kind := .int .i64 } := by kernel_rfl
theorem t4 : ti Try.prog 4 = some { agg := false, size := 1, bytes := 1, zero := [.g (.bool false)], kind := .bool } := by kernel_rfl
theorem t28 : ti Try.prog 28 = some { agg := false, size := 1, bytes := 24, zero := [.g (.slice none 0 0)], kind := .slice 3 } := by kernel_rfl
theorem t30 : ti Try.prog 30 = some { agg := true, size := 3, bytes := 24, zero := [.g (.int .i64 0), .g (.int .i64 0), .g (.int .i64 0)], kind := .struct [(0, 3), (1, 3), (2, 3)] } := by kernel_rfl
theorem t33 : ti Try.prog 33 = some { agg := true, size := 3, bytes := 24, zero := [.g (.int .i64 0), .g (.int .i64 0), .g (.int .i64 0)], kind := .struct [(0, 3), (1, 3), (2, 3)] } := by kernel_rfl
theorem u4 : Try.prog.underlying 4 = some .bool := by kernel_rfl
def cI (x : Int) : List AV := [.g (.int .i64 x)]
end Go.Proofs.Ythfajpgocmpbpaa.Vs
