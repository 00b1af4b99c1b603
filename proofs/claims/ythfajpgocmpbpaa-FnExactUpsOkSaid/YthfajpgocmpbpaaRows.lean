/-
  No cell of these rows narrows 'for every input' (looked for: loops, veiled, ifaces, maps, wideKeys, modest, calm, conditions, laid).
  DERIVED. THE GIVEN ROWS OF THIS SEAT. 8 by the template 'for every input the law returns true; each argument reads behind the call as it read before'; 0 by the template 'total and deterministic' (their statements: YthfajpgocmpbpaaTotals.lean).
  GIVEN WITH THE SEED: the statements are not yours to turn. If you find one false, say at which input.
  Laid BY PROGRAM, IN A SANDBOX (cutbox-rows.mjs): the forced cells as the released guide's own fill.sh prints them over the translation d041504a10081307… (all of the seat's roots in one cut). By AI agents, Wed Nov 11 2026. No macro, syntax, notation, axiom, sorry.
-/
import Derived.Test.YthfajpgocmpbpaaChecked
import GoSem.Claim
import GoSem.ClaimJoined
import GoSem.ClaimMapViews
import Derived.JoinedTies
import Derived.KernelRfl
namespace Go.Proofs.Ythfajpgocmpbpaa
/- THE CELL 'sum', in the pinned program and in every row, IS THE sha256 OF THE DUMP (.gsa) THAT YthfajpgocmpbpaaProg.lean LOADS. Nothing in Lean hashes anything: it is a label: what it is worth is what the hold of that sum in a sandbox is worth. -/
noncomputable def Try.pinned : Pinned := { name := "ythfajpgocmpbpaa", sum := "d041504a10081307f1c77c89720d3db515548d9feabe29cbcd274a7354fb5508", checked := Try.checked }
namespace Rows
def none {H : Type} : Left H := { results := [], args := [] }

/-- 'laws.FnExactJoined': WHATEVER THE INPUT: true; the input reads as it did. -/
def fnExactJoinedSpec : ChangeSpec := { name := "fnExactJoined", fn := fun _ => fun
  | [d] => { results := [.lit (.bool true)], args := [d] }
  | _ => none }
def fnExactJoinedRow : OpenClaim := { program := "ythfajpgocmpbpaa", sum := "d041504a10081307f1c77c89720d3db515548d9feabe29cbcd274a7354fb5508", func := "loop.example/g00954/laws.FnExactJoined", spec := "fnExactJoined", apart := false }
def FnExactJoinedSaid : Prop := fnExactJoinedRow.holds Try.pinned (OpenSpec.ofChange fnExactJoinedSpec)

/-- ITS FALSE NEIGHBOUR: 'it returns false'. Refute it at one input. -/
def fnExactJoinedWrong : ChangeSpec := { name := "fnExactJoined", fn := fun _ => fun
  | [d] => { results := [.lit (.bool false)], args := [d] }
  | _ => none }
def FnExactJoinedWrongFalsely : Prop := fnExactJoinedRow.holds Try.pinned (OpenSpec.ofChange fnExactJoinedWrong)

/-- 'laws.FnExactKeepOk': WHATEVER THE INPUT: true; the input reads as it did. -/
def fnExactKeepOkSpec : ChangeSpec := { name := "fnExactKeepOk", fn := fun _ => fun
  | [d1, d2] => { results := [.lit (.bool true)], args := [d1, d2] }
  | _ => none }
def fnExactKeepOkRow : OpenClaim := { program := "ythfajpgocmpbpaa", sum := "d041504a10081307f1c77c89720d3db515548d9feabe29cbcd274a7354fb5508", func := "loop.example/g00954/laws.FnExactKeepOk", spec := "fnExactKeepOk", apart := false }
def FnExactKeepOkSaid : Prop := fnExactKeepOkRow.holds Try.pinned (OpenSpec.ofChange fnExactKeepOkSpec)

/-- ITS FALSE NEIGHBOUR: 'it returns false'. Refute it at one input. -/
def fnExactKeepOkWrong : ChangeSpec := { name := "fnExactKeepOk", fn := fun _ => fun
  | [d1, d2] => { results := [.lit (.bool false)], args := [d1, d2] }
  | _ => none }
def FnExactKeepOkWrongFalsely : Prop := fnExactKeepOkRow.holds Try.pinned (OpenSpec.ofChange fnExactKeepOkWrong)

/-- 'laws.FnExactCutData': WHATEVER THE INPUT: true; the input reads as it did. -/
def fnExactCutDataSpec : ChangeSpec := { name := "fnExactCutData", fn := fun _ => fun
  | [d] => { results := [.lit (.bool true)], args := [d] }
  | _ => none }
def fnExactCutDataRow : OpenClaim := { program := "ythfajpgocmpbpaa", sum := "d041504a10081307f1c77c89720d3db515548d9feabe29cbcd274a7354fb5508", func := "loop.example/g00954/laws.FnExactCutData", spec := "fnExactCutData", apart := false }
def FnExactCutDataSaid : Prop := fnExactCutDataRow.holds Try.pinned (OpenSpec.ofChange fnExactCutDataSpec)

/-- ITS FALSE NEIGHBOUR: 'it returns false'. Refute it at one input. -/
def fnExactCutDataWrong : ChangeSpec := { name := "fnExactCutData", fn := fun _ => fun
  | [d] => { results := [.lit (.bool false)], args := [d] }
  | _ => none }
def FnExactCutDataWrongFalsely : Prop := fnExactCutDataRow.holds Try.pinned (OpenSpec.ofChange fnExactCutDataWrong)

/-- 'laws.FnExactKeep': WHATEVER THE INPUT: true; the input reads as it did. -/
def fnExactKeepSpec : ChangeSpec := { name := "fnExactKeep", fn := fun _ => fun
  | [d1, d2] => { results := [.lit (.bool true)], args := [d1, d2] }
  | _ => none }
def fnExactKeepRow : OpenClaim := { program := "ythfajpgocmpbpaa", sum := "d041504a10081307f1c77c89720d3db515548d9feabe29cbcd274a7354fb5508", func := "loop.example/g00954/laws.FnExactKeep", spec := "fnExactKeep", apart := false }
def FnExactKeepSaid : Prop := fnExactKeepRow.holds Try.pinned (OpenSpec.ofChange fnExactKeepSpec)

/-- ITS FALSE NEIGHBOUR: 'it returns false'. Refute it at one input. -/
def fnExactKeepWrong : ChangeSpec := { name := "fnExactKeep", fn := fun _ => fun
  | [d1, d2] => { results := [.lit (.bool false)], args := [d1, d2] }
  | _ => none }
def FnExactKeepWrongFalsely : Prop := fnExactKeepRow.holds Try.pinned (OpenSpec.ofChange fnExactKeepWrong)

/-- 'laws.FnExactKept': WHATEVER THE INPUT: true; the input reads as it did. -/
def fnExactKeptSpec : ChangeSpec := { name := "fnExactKept", fn := fun _ => fun
  | [d1, d2] => { results := [.lit (.bool true)], args := [d1, d2] }
  | _ => none }
def fnExactKeptRow : OpenClaim := { program := "ythfajpgocmpbpaa", sum := "d041504a10081307f1c77c89720d3db515548d9feabe29cbcd274a7354fb5508", func := "loop.example/g00954/laws.FnExactKept", spec := "fnExactKept", apart := false }
def FnExactKeptSaid : Prop := fnExactKeptRow.holds Try.pinned (OpenSpec.ofChange fnExactKeptSpec)

/-- ITS FALSE NEIGHBOUR: 'it returns false'. Refute it at one input. -/
def fnExactKeptWrong : ChangeSpec := { name := "fnExactKept", fn := fun _ => fun
  | [d1, d2] => { results := [.lit (.bool false)], args := [d1, d2] }
  | _ => none }
def FnExactKeptWrongFalsely : Prop := fnExactKeptRow.holds Try.pinned (OpenSpec.ofChange fnExactKeptWrong)

/-- 'laws.FnExactUpsOk': WHATEVER THE INPUT: true; the input reads as it did. -/
def fnExactUpsOkSpec : ChangeSpec := { name := "fnExactUpsOk", fn := fun _ => fun
  | [d] => { results := [.lit (.bool true)], args := [d] }
  | _ => none }
def fnExactUpsOkRow : OpenClaim := { program := "ythfajpgocmpbpaa", sum := "d041504a10081307f1c77c89720d3db515548d9feabe29cbcd274a7354fb5508", func := "loop.example/g00954/laws.FnExactUpsOk", spec := "fnExactUpsOk", apart := false }
def FnExactUpsOkSaid : Prop := fnExactUpsOkRow.holds Try.pinned (OpenSpec.ofChange fnExactUpsOkSpec)

/-- ITS FALSE NEIGHBOUR: 'it returns false'. Refute it at one input. -/
def fnExactUpsOkWrong : ChangeSpec := { name := "fnExactUpsOk", fn := fun _ => fun
  | [d] => { results := [.lit (.bool false)], args := [d] }
  | _ => none }
def FnExactUpsOkWrongFalsely : Prop := fnExactUpsOkRow.holds Try.pinned (OpenSpec.ofChange fnExactUpsOkWrong)

/-- 'laws.FnKeep': WHATEVER THE INPUT: true; the input reads as it did. -/
def fnKeepSpec : ChangeSpec := { name := "fnKeep", fn := fun _ => fun
  | [d] => { results := [.lit (.bool true)], args := [d] }
  | _ => none }
def fnKeepRow : OpenClaim := { program := "ythfajpgocmpbpaa", sum := "d041504a10081307f1c77c89720d3db515548d9feabe29cbcd274a7354fb5508", func := "loop.example/g00954/laws.FnKeep", spec := "fnKeep", apart := false }
def FnKeepSaid : Prop := fnKeepRow.holds Try.pinned (OpenSpec.ofChange fnKeepSpec)

/-- ITS FALSE NEIGHBOUR: 'it returns false'. Refute it at one input. -/
def fnKeepWrong : ChangeSpec := { name := "fnKeep", fn := fun _ => fun
  | [d] => { results := [.lit (.bool false)], args := [d] }
  | _ => none }
def FnKeepWrongFalsely : Prop := fnKeepRow.holds Try.pinned (OpenSpec.ofChange fnKeepWrong)

/-- 'laws.FnExactUpNext': WHATEVER THE INPUT: true; the input reads as it did. -/
def fnExactUpNextSpec : ChangeSpec := { name := "fnExactUpNext", fn := fun _ => fun
  | [d] => { results := [.lit (.bool true)], args := [d] }
  | _ => none }
def fnExactUpNextRow : OpenClaim := { program := "ythfajpgocmpbpaa", sum := "d041504a10081307f1c77c89720d3db515548d9feabe29cbcd274a7354fb5508", func := "loop.example/g00954/laws.FnExactUpNext", spec := "fnExactUpNext", apart := false }
def FnExactUpNextSaid : Prop := fnExactUpNextRow.holds Try.pinned (OpenSpec.ofChange fnExactUpNextSpec)

/-- ITS FALSE NEIGHBOUR: 'it returns false'. Refute it at one input. -/
def fnExactUpNextWrong : ChangeSpec := { name := "fnExactUpNext", fn := fun _ => fun
  | [d] => { results := [.lit (.bool false)], args := [d] }
  | _ => none }
def FnExactUpNextWrongFalsely : Prop := fnExactUpNextRow.holds Try.pinned (OpenSpec.ofChange fnExactUpNextWrong)

/- THE SECOND FORM. 'bulk': how many values and letters a reading holds, each counted each time it is reached (what is shared counts as often as it is met; a slice's spare places count too). A statement '..UptoSaid' is the law's where the arguments, and the package variables that the reading takes, are together of bulk at most 1048576: NARROWER than '..Said'. Prove '..Said' where nothing that the law and all that it calls make is longer than what came in: it says more and counts as full. Else prove '..UptoSaid'. A law counts once. -/
mutual
def uptoBulk {H : Type} : DataW H → Nat
  | .lit (.string bytes) => bytes.length + 1
  | .lit _ => 1
  | .nil => 1
  | .ptr d => uptoBulk d + 1
  | .slice elems spare => uptoBulkAll elems + uptoBulkAll spare + 1
  | .agg parts => uptoBulkAll parts + 1
  | .iface _ d => uptoBulk d + 1
  | .map entries => uptoBulkEntries entries + 1
  | .held _ => 1
def uptoBulkAll {H : Type} : List (DataW H) → Nat
  | [] => 0
  | d :: r => uptoBulk d + uptoBulkAll r
def uptoBulkEntries {H : Type} : List (Lit × DataW H) → Nat
  | [] => 0
  | x :: r => uptoBulkEntry x + uptoBulkEntries r
def uptoBulkEntry {H : Type} : Lit × DataW H → Nat
  | (.string bytes, d) => bytes.length + uptoBulk d + 1
  | (_, d) => uptoBulk d + 1
 end
def uptoSmall : (H : Type) → List (DataW H) → Bool := fun _ ds => decide (uptoBulkAll ds ≤ 1048576)
def OpenSpec.upto (s : _root_.Go.ChangeSpec) : _root_.Go.OpenSpec := { _root_.Go.OpenSpec.ofChange s with cond := some uptoSmall }

/-- 'laws.FnExactJoined', WHERE WHAT IT READS IS OF BULK AT MOST 1048576: true; the input reads as it did. -/
def fnExactJoinedUptoRow : OpenClaim := { program := "ythfajpgocmpbpaa", sum := "d041504a10081307f1c77c89720d3db515548d9feabe29cbcd274a7354fb5508", func := "loop.example/g00954/laws.FnExactJoined", spec := "fnExactJoined", apart := false, narrowed := true }
def FnExactJoinedUptoSaid : Prop := fnExactJoinedUptoRow.holds Try.pinned (OpenSpec.upto fnExactJoinedSpec)

/-- 'laws.FnExactKeepOk', WHERE WHAT IT READS IS OF BULK AT MOST 1048576: true; the input reads as it did. -/
def fnExactKeepOkUptoRow : OpenClaim := { program := "ythfajpgocmpbpaa", sum := "d041504a10081307f1c77c89720d3db515548d9feabe29cbcd274a7354fb5508", func := "loop.example/g00954/laws.FnExactKeepOk", spec := "fnExactKeepOk", apart := false, narrowed := true }
def FnExactKeepOkUptoSaid : Prop := fnExactKeepOkUptoRow.holds Try.pinned (OpenSpec.upto fnExactKeepOkSpec)

/-- 'laws.FnExactCutData', WHERE WHAT IT READS IS OF BULK AT MOST 1048576: true; the input reads as it did. -/
def fnExactCutDataUptoRow : OpenClaim := { program := "ythfajpgocmpbpaa", sum := "d041504a10081307f1c77c89720d3db515548d9feabe29cbcd274a7354fb5508", func := "loop.example/g00954/laws.FnExactCutData", spec := "fnExactCutData", apart := false, narrowed := true }
def FnExactCutDataUptoSaid : Prop := fnExactCutDataUptoRow.holds Try.pinned (OpenSpec.upto fnExactCutDataSpec)

/-- 'laws.FnExactKeep', WHERE WHAT IT READS IS OF BULK AT MOST 1048576: true; the input reads as it did. -/
def fnExactKeepUptoRow : OpenClaim := { program := "ythfajpgocmpbpaa", sum := "d041504a10081307f1c77c89720d3db515548d9feabe29cbcd274a7354fb5508", func := "loop.example/g00954/laws.FnExactKeep", spec := "fnExactKeep", apart := false, narrowed := true }
def FnExactKeepUptoSaid : Prop := fnExactKeepUptoRow.holds Try.pinned (OpenSpec.upto fnExactKeepSpec)

/-- 'laws.FnExactKept', WHERE WHAT IT READS IS OF BULK AT MOST 1048576: true; the input reads as it did. -/
def fnExactKeptUptoRow : OpenClaim := { program := "ythfajpgocmpbpaa", sum := "d041504a10081307f1c77c89720d3db515548d9feabe29cbcd274a7354fb5508", func := "loop.example/g00954/laws.FnExactKept", spec := "fnExactKept", apart := false, narrowed := true }
def FnExactKeptUptoSaid : Prop := fnExactKeptUptoRow.holds Try.pinned (OpenSpec.upto fnExactKeptSpec)

/-- 'laws.FnExactUpsOk', WHERE WHAT IT READS IS OF BULK AT MOST 1048576: true; the input reads as it did. -/
def fnExactUpsOkUptoRow : OpenClaim := { program := "ythfajpgocmpbpaa", sum := "d041504a10081307f1c77c89720d3db515548d9feabe29cbcd274a7354fb5508", func := "loop.example/g00954/laws.FnExactUpsOk", spec := "fnExactUpsOk", apart := false, narrowed := true }
def FnExactUpsOkUptoSaid : Prop := fnExactUpsOkUptoRow.holds Try.pinned (OpenSpec.upto fnExactUpsOkSpec)

/-- 'laws.FnKeep', WHERE WHAT IT READS IS OF BULK AT MOST 1048576: true; the input reads as it did. -/
def fnKeepUptoRow : OpenClaim := { program := "ythfajpgocmpbpaa", sum := "d041504a10081307f1c77c89720d3db515548d9feabe29cbcd274a7354fb5508", func := "loop.example/g00954/laws.FnKeep", spec := "fnKeep", apart := false, narrowed := true }
def FnKeepUptoSaid : Prop := fnKeepUptoRow.holds Try.pinned (OpenSpec.upto fnKeepSpec)

/-- 'laws.FnExactUpNext', WHERE WHAT IT READS IS OF BULK AT MOST 1048576: true; the input reads as it did. -/
def fnExactUpNextUptoRow : OpenClaim := { program := "ythfajpgocmpbpaa", sum := "d041504a10081307f1c77c89720d3db515548d9feabe29cbcd274a7354fb5508", func := "loop.example/g00954/laws.FnExactUpNext", spec := "fnExactUpNext", apart := false, narrowed := true }
def FnExactUpNextUptoSaid : Prop := fnExactUpNextUptoRow.holds Try.pinned (OpenSpec.upto fnExactUpNextSpec)

end Rows
end Go.Proofs.Ythfajpgocmpbpaa
