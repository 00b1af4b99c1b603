import Derived.Test.YtfbmhgiokfpgiaaGreatSReQ
open Go Go.Proofs Go.Proofs.YtfbmhgiokfpgiaaGreat.Vs
namespace Go.Proofs.YtfbmhgiokfpgiaaGreat.Vs
set_option linter.all false
set_option linter.unusedSimpArgs false
set_option linter.unusedVariables false
set_option maxRecDepth 100000
noncomputable def waitL (l : List DtInst) : List DtId := (l.filter fun x => decide (x.fStatus = 3) && ! decB (RdyP l x.fId)).map (·.fId)
noncomputable def waT (l : List DtInst) (i : Nat) : List DtId := ((l.take i).filter fun x => decide (x.fStatus = 3) && ! decB (RdyP l x.fId)).map (·.fId)
end Go.Proofs.YtfbmhgiokfpgiaaGreat.Vs
