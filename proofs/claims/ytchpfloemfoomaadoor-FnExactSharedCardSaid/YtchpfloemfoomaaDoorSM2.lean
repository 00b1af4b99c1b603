import Derived.Test.YtchpfloemfoomaaDoorVs9
import Derived.Test.YtchpfloemfoomaaDoorSM1
section
open Go Go.Proofs Go.Proofs.YtchpfloemfoomaaDoor.Vs
namespace Go.Proofs.YtchpfloemfoomaaDoor.Vs
set_option linter.all false
attribute [local simp] szR
attribute [-simp] szR
attribute [local simp] szR DtCSnap.cells
attribute [-simp] szR
attribute [local simp] szR
attribute [-simp] DtCSnap.cells
attribute [-simp] szR
attribute [local simp] szR DtCSet.cells
attribute [-simp] szR
attribute [local simp] szR
attribute [-simp] DtCSet.cells
attribute [-simp] szR
attribute [local simp] szR DtCatalog.cells
attribute [-simp] szR
attribute [local simp] szR DtSaid.cells
attribute [-simp] DtCatalog.cells
attribute [-simp] szR
attribute [local simp] szR
attribute [-simp] DtSaid.cells
attribute [-simp] szR
attribute [local simp] szR DtState.cells
attribute [-simp] szR
attribute [local simp] DtCatalog.cells
attribute [-simp] DtCatalog.cells
attribute [local simp] DtCatalog.cells
end Go.Proofs.YtchpfloemfoomaaDoor.Vs
end
