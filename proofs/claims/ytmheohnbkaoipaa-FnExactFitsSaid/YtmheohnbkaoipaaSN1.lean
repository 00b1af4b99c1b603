import Derived.Test.YtmheohnbkaoipaaSCT
open Go Go.Proofs Go.Proofs.Ytmheohnbkaoipaa.Vs
namespace Go.Proofs.Ytmheohnbkaoipaa.Vs
set_option linter.all false
set_option linter.unusedSimpArgs false
set_option linter.unusedVariables false
set_option maxRecDepth 100000
/-- Marks. -/
def mkL {α : Type} (f : Int → α) (k : Int) (n : Nat) : List α := (List.range n).map fun j => f (k + (j : Nat))
def mkR {α : Type} (f : Int → α) (k : Int) (l : List α) (i : Nat) : List α := mkL f k i ++ l.drop i
def mB (k : Int) : Bool := k.tmod 3 == 0
/-- Decimal digits. -/
def dg (n : Nat) (out : List UInt8) : List UInt8 := if n = 0 then out else dg (n / 10) (strN [IntKind.u8.wrap (48 + (n : Int) % 10)] ++ out)
termination_by n
decreasing_by omega
def mT (k : Int) : List UInt8 := if k ≤ 0 then [109, 48] else 109 :: dg k.toNat []
/-- A copy under way. -/
def cpR {α : Type} (z : α) (l : List α) (i : Nat) : List α := l.take i ++ List.replicate (l.length - i) z
/-- Marks of a row of structs. -/
def mkS {α : Type} (mk : Int → α → α) (cnt : α → Int) : Int → List α → List α
 | _, [] => []
 | k, u :: us => mk k u :: mkS mk cnt (k + cnt u) us
def cntS {α : Type} (cnt : α → Int) (us : List α) : Int := us.foldr (fun u n => cnt u + n) 0
def mkSR {α : Type} (mk : Int → α → α) (cnt : α → Int) (k : Int) (us : List α) (i : Nat) : List α := mkS mk cnt k (us.take i) ++ us.drop i
/-- A copy of structs under way. -/
def cpS {α : Type} (z : List AV) (f : α → List AV) (us : List α) (i : Nat) : List (List AV) := (us.take i).map f ++ List.replicate (us.length - i) z
end Go.Proofs.Ytmheohnbkaoipaa.Vs
