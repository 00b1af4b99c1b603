import Derived.Test.YtmheohnbkaoipaaSCpQ
open Go Go.Proofs Go.Proofs.Ytmheohnbkaoipaa.Vs
namespace Go.Proofs.Ytmheohnbkaoipaa.Vs
set_option linter.all false
set_option linter.unusedSimpArgs false
set_option linter.unusedVariables false
set_option maxRecDepth 100000
set_option maxHeartbeats 1000000
theorem zru (m : DtCmd) (hm : DtCmd.sz m ≤ 1048576) : m.fChunks.length ≤ 1048576 := by
 have := zgt zck m.fChunks
 simp only [DtCmd.sz] at hm
 omega
theorem implCatC (c : DtCatalog) (m : DtCmd) (hs : DtCatalog.sz c ≤ 1048576) (hm : DtCmd.sz m ≤ 1048576) : XCall Try.prog 13 [.agg (DtCatalog.cells c), .agg (DtCmd.cells m)] [] (.tup [.agg [.arr 16 0 (catC c m).fSets.length], .s (catR c m)]) [] [.own 2 ((catC c m).fSets.map DtCSet.cells)] := implCatDo c m hs hm (zru m hm)
theorem specCatC (c : DtCatalog) (m : DtCmd) (hs : DtCatalog.sz c ≤ 1048576) (hm : DtCmd.sz m ≤ 1048576) : XCall Try.prog 10 [.agg (DtCatalog.cells c), .agg (DtCmd.cells m)] [] (.tup [.agg [.arr 16 0 (catC c m).fSets.length], .s (catR c m)]) [] [.own 2 ((catC c m).fSets.map DtCSet.cells)] := specCatDo c m hs hm (zru m hm)
noncomputable def playS (l : List DtCmd) : DtCatalog × List (List UInt8) := l.foldl (fun x m => (catC x.1 m, x.2 ++ [catR x.1 m])) ({ fSets := [] }, [])
noncomputable def playC (l : List DtCmd) : DtCatalog := (playS l).1
noncomputable def playR (l : List DtCmd) : List (List UInt8) := (playS l).2
attribute [local simp] DtCatalog.cells DtCmd.cells zbp and_assoc scR_cS cS
attribute [-simp] aAppC aAppZ
end Go.Proofs.Ytmheohnbkaoipaa.Vs
