import Derived.Test.YtmheohnbkaoipaaSN1
import Derived.Test.YtmheohnbkaoipaaSDQ
open Go Go.Proofs Go.Proofs.Ytmheohnbkaoipaa.Vs
namespace Go.Proofs.Ytmheohnbkaoipaa.Vs
set_option linter.all false
set_option linter.unusedSimpArgs false
set_option linter.unusedVariables false
set_option maxRecDepth 100000
theorem len_szS {α : Type} {f : α → Int} (hf : ∀ x, 0 ≤ f x) (l : List α) : (l.length : Int) ≤ szS f l := by have := zb9 hf l; unfold szS; omega
def mkCmd (k : Int) (u : DtCmd) : DtCmd := { fKind := k, fClient := k + 1, fNo := k + 1 + 1, fSet := mT (k + 1 + 1 + 1), fName := mT (k + 1 + 1 + 1 + 1), fTag := mT (k + 1 + 1 + 1 + 1 + 1), fN := k + 1 + 1 + 1 + 1 + 1 + 1, fChunks := mkL mT (k + 1 + 1 + 1 + 1 + 1 + 1 + 1) u.fChunks.length }
def cntCmd (u : DtCmd) : Int := 1 + 1 + 1 + 1 + 1 + 1 + 1 + (u.fChunks.length : Nat)
def mvCmd (k : Int) (u : DtCmd) : DtCmd := { fKind := u.fKind, fClient := u.fClient, fNo := u.fNo, fSet := u.fSet, fName := u.fName, fTag := u.fTag, fN := u.fN, fChunks := mkL mT (k) u.fChunks.length }
def cvCmd (u : DtCmd) : Int := (u.fChunks.length : Nat)
def mkCSnap (k : Int) (u : DtCSnap) : DtCSnap := { fName := mT (k), fTag := mT (k + 1), fChunks := mkL mT (k + 1 + 1) u.fChunks.length }
def cntCSnap (u : DtCSnap) : Int := 1 + 1 + (u.fChunks.length : Nat)
def mkCSet (k : Int) (u : DtCSet) : DtCSet := { fName := mT (k), fSnaps := mkS mkCSnap cntCSnap (k + 1) u.fSnaps }
def cntCSet (u : DtCSet) : Int := 1 + cntS cntCSnap u.fSnaps
def mkCatalog (k : Int) (u : DtCatalog) : DtCatalog := { fSets := mkS mkCSet cntCSet (k) u.fSets }
def cntCatalog (u : DtCatalog) : Int := cntS cntCSet u.fSets
def mvCatalog (k : Int) (u : DtCatalog) : DtCatalog := { fSets := mkS mkCSet cntCSet (k) u.fSets }
def cvCatalog (u : DtCatalog) : Int := cntS cntCSet u.fSets
def mkSaid (k : Int) (u : DtSaid) : DtSaid := { fClient := k, fNo := k + 1, fText := mT (k + 1 + 1) }
def cntSaid (u : DtSaid) : Int := 1 + 1 + 1
def mkState (k : Int) (u : DtState) : DtState := { fCat := { fSets := mkS mkCSet cntCSet (k) u.fCat.fSets }, fSaid := mkS mkSaid cntSaid (k + cntS cntCSet u.fCat.fSets) u.fSaid }
def cntState (u : DtState) : Int := cntS cntCSet u.fCat.fSets + cntS cntSaid u.fSaid
def mvState (k : Int) (u : DtState) : DtState := { fCat := { fSets := mkS mkCSet cntCSet (k) u.fCat.fSets }, fSaid := mkS mkSaid cntSaid (k + cntS cntCSet u.fCat.fSets) u.fSaid }
def cvState (u : DtState) : Int := cntS cntCSet u.fCat.fSets + cntS cntSaid u.fSaid
def mkCall (k : Int) (u : DtCall) : DtCall := { fStart := k, fEnd := k + 1, fCmd := { fKind := k + 1 + 1, fClient := k + 1 + 1 + 1, fNo := k + 1 + 1 + 1 + 1, fSet := mT (k + 1 + 1 + 1 + 1 + 1), fName := mT (k + 1 + 1 + 1 + 1 + 1 + 1), fTag := mT (k + 1 + 1 + 1 + 1 + 1 + 1 + 1), fN := k + 1 + 1 + 1 + 1 + 1 + 1 + 1 + 1, fChunks := mkL mT (k + 1 + 1 + 1 + 1 + 1 + 1 + 1 + 1 + 1) u.fCmd.fChunks.length }, fText := mT (k + 1 + 1 + 1 + 1 + 1 + 1 + 1 + 1 + 1 + (u.fCmd.fChunks.length : Nat)) }
def cntCall (u : DtCall) : Int := 1 + 1 + 1 + 1 + 1 + 1 + 1 + 1 + 1 + (u.fCmd.fChunks.length : Nat) + 1
end Go.Proofs.Ytmheohnbkaoipaa.Vs
