import Derived.Test.YtchpfloemfoomaaVs8
section
namespace Go.Proofs.Ytchpfloemfoomaa.Vs
set_option linter.all false
def wnO(s:St)(ρ:Ren):OB→OB→Prop
 | .win sz xs,.win sz' xs'=>sz'=sz∧wn s ρ xs xs'
 | _,_=>False
def KpOW(s:St)(ρ:Ren):List (Nat × OB)→Prop
 | []=>True
 | (n,o) :: r=>(∃m p,lk ρ n=some m∧s.ob m=some p∧((p=renO ρ o∧plO o=true)∨cvO p o∨wnO s ρ p o))∧KpOW s ρ r
def OB.nofl:OB→Bool
 | .flat ..=>false
 | _=>true
def inlR(x:Option (Prop × List AV))(K:AV→(Nat→Option OB)→Prop)(ob:Nat→Option OB):Prop:=match x with
 | some (p,vs)=>p∧vs.all noTup=true∧K (tupA vs) ob
 | none=>False
section
variable {P:Program}{nt:Nat}{fs:List Nat}{Q:AExit→St→Prop}{st:St}{c:Code}
end
end Go.Proofs.Ytchpfloemfoomaa.Vs
end
