/-
  No cell of these rows narrows 'for every input' (looked for: loops, veiled, ifaces, maps, wideKeys, modest, calm, conditions, laid).
  DERIVED. THE GIVEN ROWS OF THIS SEAT. 4 by the template 'for every input the law returns true; each argument reads behind the call as it read before'; 0 by the template 'total and deterministic' (their statements: YtopeonnaalpmjaaTotals.lean).
  GIVEN WITH THE SEED: the statements are not yours to turn. If you find one false, say at which input.
  Laid BY PROGRAM, IN A SANDBOX (cutbox-rows.mjs): the forced cells as the released guide's own fill.sh prints them over the translation 1d8812eb993c85d5… (all of the seat's roots in one cut). By AI agents, Wed Nov 11 2026. No macro, syntax, notation, axiom, sorry.
-/
import Derived.Test.YtopeonnaalpmjaaChecked
import GoSem.Claim
import GoSem.ClaimJoined
import GoSem.ClaimMapViews
import Derived.JoinedTies
import Derived.KernelRfl
namespace Go.Proofs.Ytopeonnaalpmjaa
/- THE CELL 'sum', in the pinned program and in every row, IS THE sha256 OF THE DUMP (.gsa) THAT YtopeonnaalpmjaaProg.lean LOADS. Nothing in Lean hashes anything: it is a label: what it is worth is what the hold of that sum in a sandbox is worth. -/
noncomputable def Try.pinned : Pinned := { name := "ytopeonnaalpmjaa", sum := "1d8812eb993c85d5482320ff3af7c280879f556f9dce2581d79db64939618946", checked := Try.checked }
namespace Rows
def none {H : Type} : Left H := { results := [], args := [] }

/-- 'laws.FnExactENodeOk': WHATEVER THE INPUT: true; the input reads as it did. -/
def fnExactENodeOkSpec : ChangeSpec := { name := "fnExactENodeOk", fn := fun _ => fun
  | [d] => { results := [.lit (.bool true)], args := [d] }
  | _ => none }
def fnExactENodeOkRow : OpenClaim := { program := "ytopeonnaalpmjaa", sum := "1d8812eb993c85d5482320ff3af7c280879f556f9dce2581d79db64939618946", func := "loop.example/g00954/laws.FnExactENodeOk", spec := "fnExactENodeOk", unfollowed := true, recurses := true, apart := false }
def FnExactENodeOkSaid : Prop := fnExactENodeOkRow.holds Try.pinned (OpenSpec.ofChange fnExactENodeOkSpec)

/-- ITS FALSE NEIGHBOUR: 'it returns false'. Refute it at one input. -/
def fnExactENodeOkWrong : ChangeSpec := { name := "fnExactENodeOk", fn := fun _ => fun
  | [d] => { results := [.lit (.bool false)], args := [d] }
  | _ => none }
def FnExactENodeOkWrongFalsely : Prop := fnExactENodeOkRow.holds Try.pinned (OpenSpec.ofChange fnExactENodeOkWrong)

/-- 'laws.FnExactENetOk': WHATEVER THE INPUT: true; the input reads as it did. -/
def fnExactENetOkSpec : ChangeSpec := { name := "fnExactENetOk", fn := fun _ => fun
  | [d] => { results := [.lit (.bool true)], args := [d] }
  | _ => none }
def fnExactENetOkRow : OpenClaim := { program := "ytopeonnaalpmjaa", sum := "1d8812eb993c85d5482320ff3af7c280879f556f9dce2581d79db64939618946", func := "loop.example/g00954/laws.FnExactENetOk", spec := "fnExactENetOk", unfollowed := true, recurses := true, apart := false }
def FnExactENetOkSaid : Prop := fnExactENetOkRow.holds Try.pinned (OpenSpec.ofChange fnExactENetOkSpec)

/-- ITS FALSE NEIGHBOUR: 'it returns false'. Refute it at one input. -/
def fnExactENetOkWrong : ChangeSpec := { name := "fnExactENetOk", fn := fun _ => fun
  | [d] => { results := [.lit (.bool false)], args := [d] }
  | _ => none }
def FnExactENetOkWrongFalsely : Prop := fnExactENetOkRow.holds Try.pinned (OpenSpec.ofChange fnExactENetOkWrong)

/-- 'laws.FnExactEAgreed': WHATEVER THE INPUT: true; the input reads as it did. -/
def fnExactEAgreedSpec : ChangeSpec := { name := "fnExactEAgreed", fn := fun _ => fun
  | [d] => { results := [.lit (.bool true)], args := [d] }
  | _ => none }
def fnExactEAgreedRow : OpenClaim := { program := "ytopeonnaalpmjaa", sum := "1d8812eb993c85d5482320ff3af7c280879f556f9dce2581d79db64939618946", func := "loop.example/g00954/laws.FnExactEAgreed", spec := "fnExactEAgreed", unfollowed := true, recurses := true, apart := false }
def FnExactEAgreedSaid : Prop := fnExactEAgreedRow.holds Try.pinned (OpenSpec.ofChange fnExactEAgreedSpec)

/-- ITS FALSE NEIGHBOUR: 'it returns false'. Refute it at one input. -/
def fnExactEAgreedWrong : ChangeSpec := { name := "fnExactEAgreed", fn := fun _ => fun
  | [d] => { results := [.lit (.bool false)], args := [d] }
  | _ => none }
def FnExactEAgreedWrongFalsely : Prop := fnExactEAgreedRow.holds Try.pinned (OpenSpec.ofChange fnExactEAgreedWrong)

/-- 'laws.FnExactELinked': WHATEVER THE INPUT: true; the input reads as it did. -/
def fnExactELinkedSpec : ChangeSpec := { name := "fnExactELinked", fn := fun _ => fun
  | [d] => { results := [.lit (.bool true)], args := [d] }
  | _ => none }
def fnExactELinkedRow : OpenClaim := { program := "ytopeonnaalpmjaa", sum := "1d8812eb993c85d5482320ff3af7c280879f556f9dce2581d79db64939618946", func := "loop.example/g00954/laws.FnExactELinked", spec := "fnExactELinked", unfollowed := true, recurses := true, apart := false }
def FnExactELinkedSaid : Prop := fnExactELinkedRow.holds Try.pinned (OpenSpec.ofChange fnExactELinkedSpec)

/-- ITS FALSE NEIGHBOUR: 'it returns false'. Refute it at one input. -/
def fnExactELinkedWrong : ChangeSpec := { name := "fnExactELinked", fn := fun _ => fun
  | [d] => { results := [.lit (.bool false)], args := [d] }
  | _ => none }
def FnExactELinkedWrongFalsely : Prop := fnExactELinkedRow.holds Try.pinned (OpenSpec.ofChange fnExactELinkedWrong)

/- THE SECOND FORM. 'bulk': how many values and letters a reading holds, each counted each time it is reached (what is shared counts as often as it is met; a slice's spare places count too). A statement '..UptoSaid' is the law's where the arguments, and the package variables that the reading takes, are together of bulk at most 1048576: NARROWER than '..Said'. Prove '..Said' where nothing that the law and all that it calls make is longer than what came in: it says more and counts as full. Else prove '..UptoSaid'. A law counts once. -/
mutual
def uptoBulk {H : Type} : DataW H → Nat
  | .lit (.string bytes) => bytes.length + 1
  | .lit _ => 1
  | .nil => 1
  | .ptr d => uptoBulk d + 1
  | .slice elems spare => uptoBulkAll elems + uptoBulkAll spare + 1
  | .agg parts => uptoBulkAll parts + 1
  | .iface _ d => uptoBulk d + 1
  | .map entries => uptoBulkEntries entries + 1
  | .held _ => 1
def uptoBulkAll {H : Type} : List (DataW H) → Nat
  | [] => 0
  | d :: r => uptoBulk d + uptoBulkAll r
def uptoBulkEntries {H : Type} : List (Lit × DataW H) → Nat
  | [] => 0
  | x :: r => uptoBulkEntry x + uptoBulkEntries r
def uptoBulkEntry {H : Type} : Lit × DataW H → Nat
  | (.string bytes, d) => bytes.length + uptoBulk d + 1
  | (_, d) => uptoBulk d + 1
 end
def uptoSmall : (H : Type) → List (DataW H) → Bool := fun _ ds => decide (uptoBulkAll ds ≤ 1048576)
def OpenSpec.upto (s : _root_.Go.ChangeSpec) : _root_.Go.OpenSpec := { _root_.Go.OpenSpec.ofChange s with cond := some uptoSmall }

/-- 'laws.FnExactENodeOk', WHERE WHAT IT READS IS OF BULK AT MOST 1048576: true; the input reads as it did. -/
def fnExactENodeOkUptoRow : OpenClaim := { program := "ytopeonnaalpmjaa", sum := "1d8812eb993c85d5482320ff3af7c280879f556f9dce2581d79db64939618946", func := "loop.example/g00954/laws.FnExactENodeOk", spec := "fnExactENodeOk", unfollowed := true, recurses := true, apart := false, narrowed := true }
def FnExactENodeOkUptoSaid : Prop := fnExactENodeOkUptoRow.holds Try.pinned (OpenSpec.upto fnExactENodeOkSpec)

/-- 'laws.FnExactENetOk', WHERE WHAT IT READS IS OF BULK AT MOST 1048576: true; the input reads as it did. -/
def fnExactENetOkUptoRow : OpenClaim := { program := "ytopeonnaalpmjaa", sum := "1d8812eb993c85d5482320ff3af7c280879f556f9dce2581d79db64939618946", func := "loop.example/g00954/laws.FnExactENetOk", spec := "fnExactENetOk", unfollowed := true, recurses := true, apart := false, narrowed := true }
def FnExactENetOkUptoSaid : Prop := fnExactENetOkUptoRow.holds Try.pinned (OpenSpec.upto fnExactENetOkSpec)

/-- 'laws.FnExactEAgreed', WHERE WHAT IT READS IS OF BULK AT MOST 1048576: true; the input reads as it did. -/
def fnExactEAgreedUptoRow : OpenClaim := { program := "ytopeonnaalpmjaa", sum := "1d8812eb993c85d5482320ff3af7c280879f556f9dce2581d79db64939618946", func := "loop.example/g00954/laws.FnExactEAgreed", spec := "fnExactEAgreed", unfollowed := true, recurses := true, apart := false, narrowed := true }
def FnExactEAgreedUptoSaid : Prop := fnExactEAgreedUptoRow.holds Try.pinned (OpenSpec.upto fnExactEAgreedSpec)

/-- 'laws.FnExactELinked', WHERE WHAT IT READS IS OF BULK AT MOST 1048576: true; the input reads as it did. -/
def fnExactELinkedUptoRow : OpenClaim := { program := "ytopeonnaalpmjaa", sum := "1d8812eb993c85d5482320ff3af7c280879f556f9dce2581d79db64939618946", func := "loop.example/g00954/laws.FnExactELinked", spec := "fnExactELinked", unfollowed := true, recurses := true, apart := false, narrowed := true }
def FnExactELinkedUptoSaid : Prop := fnExactELinkedUptoRow.holds Try.pinned (OpenSpec.upto fnExactELinkedSpec)

end Rows
end Go.Proofs.Ytopeonnaalpmjaa
