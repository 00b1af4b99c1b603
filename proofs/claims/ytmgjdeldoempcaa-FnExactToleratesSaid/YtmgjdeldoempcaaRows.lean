/-
  No cell of these rows narrows 'for every input' (looked for: loops, veiled, ifaces, maps, wideKeys, modest, calm, conditions, laid).
  DERIVED. THE GIVEN ROWS OF THIS SEAT. 5 by the template 'for every input the law returns true; each argument reads behind the call as it read before'; 0 by the template 'total and deterministic' (their statements: YtmgjdeldoempcaaTotals.lean).
  GIVEN WITH THE SEED: the statements are not yours to turn. If you find one false, say at which input.
  Laid BY PROGRAM, IN A SANDBOX (cutbox-rows.mjs): the forced cells as the released guide's own fill.sh prints them over the translation f714f13aa98c87bd… (all of the seat's roots in one cut). By AI agents, Wed Nov 11 2026. No macro, syntax, notation, axiom, sorry.
-/
import Derived.Test.YtmgjdeldoempcaaChecked
import GoSem.Claim
import GoSem.ClaimJoined
import GoSem.ClaimMapViews
import Derived.JoinedTies
import Derived.KernelRfl
namespace Go.Proofs.Ytmgjdeldoempcaa
/- THE CELL 'sum', in the pinned program and in every row, IS THE sha256 OF THE DUMP (.gsa) THAT YtmgjdeldoempcaaProg.lean LOADS. Nothing in Lean hashes anything: it is a label: what it is worth is what the hold of that sum in a sandbox is worth. -/
noncomputable def Try.pinned : Pinned := { name := "ytmgjdeldoempcaa", sum := "f714f13aa98c87bdb75aa72f7067d4e5cefc9417e1dae930e69b8e096001ec78", checked := Try.checked }
namespace Rows
def none {H : Type} : Left H := { results := [], args := [] }

/-- 'laws.FnExactFOf': WHATEVER THE INPUT: true; the input reads as it did. -/
def fnExactFOfSpec : ChangeSpec := { name := "fnExactFOf", fn := fun _ => fun
  | [d] => { results := [.lit (.bool true)], args := [d] }
  | _ => none }
def fnExactFOfRow : OpenClaim := { program := "ytmgjdeldoempcaa", sum := "f714f13aa98c87bdb75aa72f7067d4e5cefc9417e1dae930e69b8e096001ec78", func := "loop.example/g00954/laws.FnExactFOf", spec := "fnExactFOf", apart := false }
def FnExactFOfSaid : Prop := fnExactFOfRow.holds Try.pinned (OpenSpec.ofChange fnExactFOfSpec)

/-- ITS FALSE NEIGHBOUR: 'it returns false'. Refute it at one input. -/
def fnExactFOfWrong : ChangeSpec := { name := "fnExactFOf", fn := fun _ => fun
  | [d] => { results := [.lit (.bool false)], args := [d] }
  | _ => none }
def FnExactFOfWrongFalsely : Prop := fnExactFOfRow.holds Try.pinned (OpenSpec.ofChange fnExactFOfWrong)

/-- 'laws.FnExactMeet': WHATEVER THE INPUT: true; the input reads as it did. -/
def fnExactMeetSpec : ChangeSpec := { name := "fnExactMeet", fn := fun _ => fun
  | [d1, d2, d3] => { results := [.lit (.bool true)], args := [d1, d2, d3] }
  | _ => none }
def fnExactMeetRow : OpenClaim := { program := "ytmgjdeldoempcaa", sum := "f714f13aa98c87bdb75aa72f7067d4e5cefc9417e1dae930e69b8e096001ec78", func := "loop.example/g00954/laws.FnExactMeet", spec := "fnExactMeet", apart := false }
def FnExactMeetSaid : Prop := fnExactMeetRow.holds Try.pinned (OpenSpec.ofChange fnExactMeetSpec)

/-- ITS FALSE NEIGHBOUR: 'it returns false'. Refute it at one input. -/
def fnExactMeetWrong : ChangeSpec := { name := "fnExactMeet", fn := fun _ => fun
  | [d1, d2, d3] => { results := [.lit (.bool false)], args := [d1, d2, d3] }
  | _ => none }
def FnExactMeetWrongFalsely : Prop := fnExactMeetRow.holds Try.pinned (OpenSpec.ofChange fnExactMeetWrong)

/-- 'laws.FnExactRetryOk': WHATEVER THE INPUT: true; the input reads as it did. -/
def fnExactRetryOkSpec : ChangeSpec := { name := "fnExactRetryOk", fn := fun _ => fun
  | [d] => { results := [.lit (.bool true)], args := [d] }
  | _ => none }
def fnExactRetryOkRow : OpenClaim := { program := "ytmgjdeldoempcaa", sum := "f714f13aa98c87bdb75aa72f7067d4e5cefc9417e1dae930e69b8e096001ec78", func := "loop.example/g00954/laws.FnExactRetryOk", spec := "fnExactRetryOk", apart := false }
def FnExactRetryOkSaid : Prop := fnExactRetryOkRow.holds Try.pinned (OpenSpec.ofChange fnExactRetryOkSpec)

/-- ITS FALSE NEIGHBOUR: 'it returns false'. Refute it at one input. -/
def fnExactRetryOkWrong : ChangeSpec := { name := "fnExactRetryOk", fn := fun _ => fun
  | [d] => { results := [.lit (.bool false)], args := [d] }
  | _ => none }
def FnExactRetryOkWrongFalsely : Prop := fnExactRetryOkRow.holds Try.pinned (OpenSpec.ofChange fnExactRetryOkWrong)

/-- 'laws.FnExactRetryMay': WHATEVER THE INPUT: true; the input reads as it did. -/
def fnExactRetryMaySpec : ChangeSpec := { name := "fnExactRetryMay", fn := fun _ => fun
  | [d1, d2] => { results := [.lit (.bool true)], args := [d1, d2] }
  | _ => none }
def fnExactRetryMayRow : OpenClaim := { program := "ytmgjdeldoempcaa", sum := "f714f13aa98c87bdb75aa72f7067d4e5cefc9417e1dae930e69b8e096001ec78", func := "loop.example/g00954/laws.FnExactRetryMay", spec := "fnExactRetryMay", apart := false }
def FnExactRetryMaySaid : Prop := fnExactRetryMayRow.holds Try.pinned (OpenSpec.ofChange fnExactRetryMaySpec)

/-- ITS FALSE NEIGHBOUR: 'it returns false'. Refute it at one input. -/
def fnExactRetryMayWrong : ChangeSpec := { name := "fnExactRetryMay", fn := fun _ => fun
  | [d1, d2] => { results := [.lit (.bool false)], args := [d1, d2] }
  | _ => none }
def FnExactRetryMayWrongFalsely : Prop := fnExactRetryMayRow.holds Try.pinned (OpenSpec.ofChange fnExactRetryMayWrong)

/-- 'laws.FnExactTolerates': WHATEVER THE INPUT: true; the input reads as it did. -/
def fnExactToleratesSpec : ChangeSpec := { name := "fnExactTolerates", fn := fun _ => fun
  | [d1, d2] => { results := [.lit (.bool true)], args := [d1, d2] }
  | _ => none }
def fnExactToleratesRow : OpenClaim := { program := "ytmgjdeldoempcaa", sum := "f714f13aa98c87bdb75aa72f7067d4e5cefc9417e1dae930e69b8e096001ec78", func := "loop.example/g00954/laws.FnExactTolerates", spec := "fnExactTolerates", apart := false }
def FnExactToleratesSaid : Prop := fnExactToleratesRow.holds Try.pinned (OpenSpec.ofChange fnExactToleratesSpec)

/-- ITS FALSE NEIGHBOUR: 'it returns false'. Refute it at one input. -/
def fnExactToleratesWrong : ChangeSpec := { name := "fnExactTolerates", fn := fun _ => fun
  | [d1, d2] => { results := [.lit (.bool false)], args := [d1, d2] }
  | _ => none }
def FnExactToleratesWrongFalsely : Prop := fnExactToleratesRow.holds Try.pinned (OpenSpec.ofChange fnExactToleratesWrong)

/- THE SECOND FORM. 'bulk': how many values and letters a reading holds, each counted each time it is reached (what is shared counts as often as it is met; a slice's spare places count too). A statement '..UptoSaid' is the law's where the arguments, and the package variables that the reading takes, are together of bulk at most 1048576: NARROWER than '..Said'. Prove '..Said' where nothing that the law and all that it calls make is longer than what came in: it says more and counts as full. Else prove '..UptoSaid'. A law counts once. -/
mutual
def uptoBulk {H : Type} : DataW H → Nat
  | .lit (.string bytes) => bytes.length + 1
  | .lit _ => 1
  | .nil => 1
  | .ptr d => uptoBulk d + 1
  | .slice elems spare => uptoBulkAll elems + uptoBulkAll spare + 1
  | .agg parts => uptoBulkAll parts + 1
  | .iface _ d => uptoBulk d + 1
  | .map entries => uptoBulkEntries entries + 1
  | .held _ => 1
def uptoBulkAll {H : Type} : List (DataW H) → Nat
  | [] => 0
  | d :: r => uptoBulk d + uptoBulkAll r
def uptoBulkEntries {H : Type} : List (Lit × DataW H) → Nat
  | [] => 0
  | x :: r => uptoBulkEntry x + uptoBulkEntries r
def uptoBulkEntry {H : Type} : Lit × DataW H → Nat
  | (.string bytes, d) => bytes.length + uptoBulk d + 1
  | (_, d) => uptoBulk d + 1
 end
def uptoSmall : (H : Type) → List (DataW H) → Bool := fun _ ds => decide (uptoBulkAll ds ≤ 1048576)
def OpenSpec.upto (s : _root_.Go.ChangeSpec) : _root_.Go.OpenSpec := { _root_.Go.OpenSpec.ofChange s with cond := some uptoSmall }

/-- 'laws.FnExactFOf', WHERE WHAT IT READS IS OF BULK AT MOST 1048576: true; the input reads as it did. -/
def fnExactFOfUptoRow : OpenClaim := { program := "ytmgjdeldoempcaa", sum := "f714f13aa98c87bdb75aa72f7067d4e5cefc9417e1dae930e69b8e096001ec78", func := "loop.example/g00954/laws.FnExactFOf", spec := "fnExactFOf", apart := false, narrowed := true }
def FnExactFOfUptoSaid : Prop := fnExactFOfUptoRow.holds Try.pinned (OpenSpec.upto fnExactFOfSpec)

/-- 'laws.FnExactMeet', WHERE WHAT IT READS IS OF BULK AT MOST 1048576: true; the input reads as it did. -/
def fnExactMeetUptoRow : OpenClaim := { program := "ytmgjdeldoempcaa", sum := "f714f13aa98c87bdb75aa72f7067d4e5cefc9417e1dae930e69b8e096001ec78", func := "loop.example/g00954/laws.FnExactMeet", spec := "fnExactMeet", apart := false, narrowed := true }
def FnExactMeetUptoSaid : Prop := fnExactMeetUptoRow.holds Try.pinned (OpenSpec.upto fnExactMeetSpec)

/-- 'laws.FnExactRetryOk', WHERE WHAT IT READS IS OF BULK AT MOST 1048576: true; the input reads as it did. -/
def fnExactRetryOkUptoRow : OpenClaim := { program := "ytmgjdeldoempcaa", sum := "f714f13aa98c87bdb75aa72f7067d4e5cefc9417e1dae930e69b8e096001ec78", func := "loop.example/g00954/laws.FnExactRetryOk", spec := "fnExactRetryOk", apart := false, narrowed := true }
def FnExactRetryOkUptoSaid : Prop := fnExactRetryOkUptoRow.holds Try.pinned (OpenSpec.upto fnExactRetryOkSpec)

/-- 'laws.FnExactRetryMay', WHERE WHAT IT READS IS OF BULK AT MOST 1048576: true; the input reads as it did. -/
def fnExactRetryMayUptoRow : OpenClaim := { program := "ytmgjdeldoempcaa", sum := "f714f13aa98c87bdb75aa72f7067d4e5cefc9417e1dae930e69b8e096001ec78", func := "loop.example/g00954/laws.FnExactRetryMay", spec := "fnExactRetryMay", apart := false, narrowed := true }
def FnExactRetryMayUptoSaid : Prop := fnExactRetryMayUptoRow.holds Try.pinned (OpenSpec.upto fnExactRetryMaySpec)

/-- 'laws.FnExactTolerates', WHERE WHAT IT READS IS OF BULK AT MOST 1048576: true; the input reads as it did. -/
def fnExactToleratesUptoRow : OpenClaim := { program := "ytmgjdeldoempcaa", sum := "f714f13aa98c87bdb75aa72f7067d4e5cefc9417e1dae930e69b8e096001ec78", func := "loop.example/g00954/laws.FnExactTolerates", spec := "fnExactTolerates", apart := false, narrowed := true }
def FnExactToleratesUptoSaid : Prop := fnExactToleratesUptoRow.holds Try.pinned (OpenSpec.upto fnExactToleratesSpec)

end Rows
end Go.Proofs.Ytmgjdeldoempcaa
