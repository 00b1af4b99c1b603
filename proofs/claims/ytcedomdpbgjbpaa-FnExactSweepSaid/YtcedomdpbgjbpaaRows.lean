/-
  No cell of these rows narrows 'for every input' (looked for: loops, veiled, ifaces, maps, wideKeys, modest, calm, conditions, laid).
  DERIVED. THE GIVEN ROWS OF THIS SEAT. 4 by the template 'for every input the law returns true; each argument reads behind the call as it read before'; 0 by the template 'total and deterministic' (their statements: YtcedomdpbgjbpaaTotals.lean).
  GIVEN WITH THE SEED: the statements are not yours to turn. If you find one false, say at which input.
  Laid BY PROGRAM, IN A SANDBOX (cutbox-rows.mjs): the forced cells as the released guide's own fill.sh prints them over the translation 372ec4e058c04948… (all of the seat's roots in one cut). By AI agents, Wed Nov 11 2026. No macro, syntax, notation, axiom, sorry.
-/
import Derived.Test.YtcedomdpbgjbpaaChecked
import GoSem.Claim
import GoSem.ClaimJoined
import GoSem.ClaimMapViews
import Derived.JoinedTies
import Derived.KernelRfl
namespace Go.Proofs.Ytcedomdpbgjbpaa
/- THE CELL 'sum', in the pinned program and in every row, IS THE sha256 OF THE DUMP (.gsa) THAT YtcedomdpbgjbpaaProg.lean LOADS. Nothing in Lean hashes anything: it is a label: what it is worth is what the hold of that sum in a sandbox is worth. -/
noncomputable def Try.pinned : Pinned := { name := "ytcedomdpbgjbpaa", sum := "372ec4e058c049485820775112ab49256b26d827d98b289274f37be5ebcf5af5", checked := Try.checked }
namespace Rows
def none {H : Type} : Left H := { results := [], args := [] }

/-- 'laws.FnExactAllChunks': WHATEVER THE INPUT: true; the input reads as it did. -/
def fnExactAllChunksSpec : ChangeSpec := { name := "fnExactAllChunks", fn := fun _ => fun
  | [d] => { results := [.lit (.bool true)], args := [d] }
  | _ => none }
def fnExactAllChunksRow : OpenClaim := { program := "ytcedomdpbgjbpaa", sum := "372ec4e058c049485820775112ab49256b26d827d98b289274f37be5ebcf5af5", func := "loop.example/g00954/laws.FnExactAllChunks", spec := "fnExactAllChunks", unfollowed := true, recurses := true, apart := false }
def FnExactAllChunksSaid : Prop := fnExactAllChunksRow.holds Try.pinned (OpenSpec.ofChange fnExactAllChunksSpec)

/-- ITS FALSE NEIGHBOUR: 'it returns false'. Refute it at one input. -/
def fnExactAllChunksWrong : ChangeSpec := { name := "fnExactAllChunks", fn := fun _ => fun
  | [d] => { results := [.lit (.bool false)], args := [d] }
  | _ => none }
def FnExactAllChunksWrongFalsely : Prop := fnExactAllChunksRow.holds Try.pinned (OpenSpec.ofChange fnExactAllChunksWrong)

/-- 'laws.FnExactMarked': WHATEVER THE INPUT: true; the input reads as it did. -/
def fnExactMarkedSpec : ChangeSpec := { name := "fnExactMarked", fn := fun _ => fun
  | [d1, d2] => { results := [.lit (.bool true)], args := [d1, d2] }
  | _ => none }
def fnExactMarkedRow : OpenClaim := { program := "ytcedomdpbgjbpaa", sum := "372ec4e058c049485820775112ab49256b26d827d98b289274f37be5ebcf5af5", func := "loop.example/g00954/laws.FnExactMarked", spec := "fnExactMarked", unfollowed := true, recurses := true, apart := false }
def FnExactMarkedSaid : Prop := fnExactMarkedRow.holds Try.pinned (OpenSpec.ofChange fnExactMarkedSpec)

/-- ITS FALSE NEIGHBOUR: 'it returns false'. Refute it at one input. -/
def fnExactMarkedWrong : ChangeSpec := { name := "fnExactMarked", fn := fun _ => fun
  | [d1, d2] => { results := [.lit (.bool false)], args := [d1, d2] }
  | _ => none }
def FnExactMarkedWrongFalsely : Prop := fnExactMarkedRow.holds Try.pinned (OpenSpec.ofChange fnExactMarkedWrong)

/-- 'laws.FnExactWaiting': WHATEVER THE INPUT: true; the input reads as it did. -/
def fnExactWaitingSpec : ChangeSpec := { name := "fnExactWaiting", fn := fun _ => fun
  | [d] => { results := [.lit (.bool true)], args := [d] }
  | _ => none }
def fnExactWaitingRow : OpenClaim := { program := "ytcedomdpbgjbpaa", sum := "372ec4e058c049485820775112ab49256b26d827d98b289274f37be5ebcf5af5", func := "loop.example/g00954/laws.FnExactWaiting", spec := "fnExactWaiting", unfollowed := true, recurses := true, apart := false }
def FnExactWaitingSaid : Prop := fnExactWaitingRow.holds Try.pinned (OpenSpec.ofChange fnExactWaitingSpec)

/-- ITS FALSE NEIGHBOUR: 'it returns false'. Refute it at one input. -/
def fnExactWaitingWrong : ChangeSpec := { name := "fnExactWaiting", fn := fun _ => fun
  | [d] => { results := [.lit (.bool false)], args := [d] }
  | _ => none }
def FnExactWaitingWrongFalsely : Prop := fnExactWaitingRow.holds Try.pinned (OpenSpec.ofChange fnExactWaitingWrong)

/-- 'laws.FnExactSweep': WHATEVER THE INPUT: true; the input reads as it did. -/
def fnExactSweepSpec : ChangeSpec := { name := "fnExactSweep", fn := fun _ => fun
  | [d1, d2] => { results := [.lit (.bool true)], args := [d1, d2] }
  | _ => none }
def fnExactSweepRow : OpenClaim := { program := "ytcedomdpbgjbpaa", sum := "372ec4e058c049485820775112ab49256b26d827d98b289274f37be5ebcf5af5", func := "loop.example/g00954/laws.FnExactSweep", spec := "fnExactSweep", unfollowed := true, recurses := true, apart := false }
def FnExactSweepSaid : Prop := fnExactSweepRow.holds Try.pinned (OpenSpec.ofChange fnExactSweepSpec)

/-- ITS FALSE NEIGHBOUR: 'it returns false'. Refute it at one input. -/
def fnExactSweepWrong : ChangeSpec := { name := "fnExactSweep", fn := fun _ => fun
  | [d1, d2] => { results := [.lit (.bool false)], args := [d1, d2] }
  | _ => none }
def FnExactSweepWrongFalsely : Prop := fnExactSweepRow.holds Try.pinned (OpenSpec.ofChange fnExactSweepWrong)

/- THE SECOND FORM. 'bulk': how many values and letters a reading holds, each counted each time it is reached (what is shared counts as often as it is met; a slice's spare places count too). A statement '..UptoSaid' is the law's where the arguments, and the package variables that the reading takes, are together of bulk at most 1048576: NARROWER than '..Said'. Prove '..Said' where nothing that the law and all that it calls make is longer than what came in: it says more and counts as full. Else prove '..UptoSaid'. A law counts once. -/
mutual
def uptoBulk {H : Type} : DataW H → Nat
  | .lit (.string bytes) => bytes.length + 1
  | .lit _ => 1
  | .nil => 1
  | .ptr d => uptoBulk d + 1
  | .slice elems spare => uptoBulkAll elems + uptoBulkAll spare + 1
  | .agg parts => uptoBulkAll parts + 1
  | .iface _ d => uptoBulk d + 1
  | .map entries => uptoBulkEntries entries + 1
  | .held _ => 1
def uptoBulkAll {H : Type} : List (DataW H) → Nat
  | [] => 0
  | d :: r => uptoBulk d + uptoBulkAll r
def uptoBulkEntries {H : Type} : List (Lit × DataW H) → Nat
  | [] => 0
  | x :: r => uptoBulkEntry x + uptoBulkEntries r
def uptoBulkEntry {H : Type} : Lit × DataW H → Nat
  | (.string bytes, d) => bytes.length + uptoBulk d + 1
  | (_, d) => uptoBulk d + 1
 end
def uptoSmall : (H : Type) → List (DataW H) → Bool := fun _ ds => decide (uptoBulkAll ds ≤ 1048576)
def OpenSpec.upto (s : _root_.Go.ChangeSpec) : _root_.Go.OpenSpec := { _root_.Go.OpenSpec.ofChange s with cond := some uptoSmall }

/-- 'laws.FnExactAllChunks', WHERE WHAT IT READS IS OF BULK AT MOST 1048576: true; the input reads as it did. -/
def fnExactAllChunksUptoRow : OpenClaim := { program := "ytcedomdpbgjbpaa", sum := "372ec4e058c049485820775112ab49256b26d827d98b289274f37be5ebcf5af5", func := "loop.example/g00954/laws.FnExactAllChunks", spec := "fnExactAllChunks", unfollowed := true, recurses := true, apart := false, narrowed := true }
def FnExactAllChunksUptoSaid : Prop := fnExactAllChunksUptoRow.holds Try.pinned (OpenSpec.upto fnExactAllChunksSpec)

/-- 'laws.FnExactMarked', WHERE WHAT IT READS IS OF BULK AT MOST 1048576: true; the input reads as it did. -/
def fnExactMarkedUptoRow : OpenClaim := { program := "ytcedomdpbgjbpaa", sum := "372ec4e058c049485820775112ab49256b26d827d98b289274f37be5ebcf5af5", func := "loop.example/g00954/laws.FnExactMarked", spec := "fnExactMarked", unfollowed := true, recurses := true, apart := false, narrowed := true }
def FnExactMarkedUptoSaid : Prop := fnExactMarkedUptoRow.holds Try.pinned (OpenSpec.upto fnExactMarkedSpec)

/-- 'laws.FnExactWaiting', WHERE WHAT IT READS IS OF BULK AT MOST 1048576: true; the input reads as it did. -/
def fnExactWaitingUptoRow : OpenClaim := { program := "ytcedomdpbgjbpaa", sum := "372ec4e058c049485820775112ab49256b26d827d98b289274f37be5ebcf5af5", func := "loop.example/g00954/laws.FnExactWaiting", spec := "fnExactWaiting", unfollowed := true, recurses := true, apart := false, narrowed := true }
def FnExactWaitingUptoSaid : Prop := fnExactWaitingUptoRow.holds Try.pinned (OpenSpec.upto fnExactWaitingSpec)

/-- 'laws.FnExactSweep', WHERE WHAT IT READS IS OF BULK AT MOST 1048576: true; the input reads as it did. -/
def fnExactSweepUptoRow : OpenClaim := { program := "ytcedomdpbgjbpaa", sum := "372ec4e058c049485820775112ab49256b26d827d98b289274f37be5ebcf5af5", func := "loop.example/g00954/laws.FnExactSweep", spec := "fnExactSweep", unfollowed := true, recurses := true, apart := false, narrowed := true }
def FnExactSweepUptoSaid : Prop := fnExactSweepUptoRow.holds Try.pinned (OpenSpec.upto fnExactSweepSpec)

end Rows
end Go.Proofs.Ytcedomdpbgjbpaa
