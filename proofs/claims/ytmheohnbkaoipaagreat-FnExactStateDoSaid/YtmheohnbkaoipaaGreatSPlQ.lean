import Derived.Test.YtmheohnbkaoipaaGreatSCpQ
open Go Go.Proofs Go.Proofs.YtmheohnbkaoipaaGreat.Vs
namespace Go.Proofs.YtmheohnbkaoipaaGreat.Vs
set_option linter.all false
set_option linter.unusedSimpArgs false
set_option linter.unusedVariables false
set_option maxRecDepth 100000
set_option maxHeartbeats 1000000
theorem zl7 (m : DtCmd) (hm : DtCmd.sz m ≤ 1048576) : m.fChunks.length ≤ 1048576 := by
 have := zc0 zce m.fChunks
 simp only [DtCmd.sz] at hm
 omega
theorem implCatC (c : DtCatalog) (m : DtCmd) (hs : DtCatalog.sz c ≤ 1048576) (hm : DtCmd.sz m ≤ 1048576) : XCall Tryz.prog 31 [.agg (DtCatalog.cells c), .agg (DtCmd.cells m)] [] (.tup [.agg [.arr 16 0 (catC c m).fSets.length], .s (catR c m)]) [] [.own 2 ((catC c m).fSets.map DtCSet.cells)] := implCatDo c m hs hm (zl7 m hm)
theorem specCatC (c : DtCatalog) (m : DtCmd) (hs : DtCatalog.sz c ≤ 1048576) (hm : DtCmd.sz m ≤ 1048576) : XCall Tryz.prog 21 [.agg (DtCatalog.cells c), .agg (DtCmd.cells m)] [] (.tup [.agg [.arr 16 0 (catC c m).fSets.length], .s (catR c m)]) [] [.own 2 ((catC c m).fSets.map DtCSet.cells)] := specCatDo c m hs hm (zl7 m hm)
end Go.Proofs.YtmheohnbkaoipaaGreat.Vs
