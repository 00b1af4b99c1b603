/-
  No cell of these rows narrows 'for every input' (looked for: loops, veiled, ifaces, maps, wideKeys, modest, calm, conditions, laid).
  DERIVED. THE GIVEN ROWS OF THIS SEAT. 7 by the template 'for every input the law returns true; each argument reads behind the call as it read before'; 0 by the template 'total and deterministic' (their statements: YtddkloigpihejaaTotals.lean).
  GIVEN WITH THE SEED: the statements are not yours to turn. If you find one false, say at which input.
  Laid BY PROGRAM, IN A SANDBOX (cutbox-rows.mjs): the forced cells as the released guide's own fill.sh prints them over the translation 113a94060282964a… (all of the seat's roots in one cut). By AI agents, Wed Nov 11 2026. No macro, syntax, notation, axiom, sorry.
-/
import Derived.Test.YtddkloigpihejaaChecked
import GoSem.Claim
import GoSem.ClaimJoined
import GoSem.ClaimMapViews
import Derived.JoinedTies
import Derived.KernelRfl
namespace Go.Proofs.Ytddkloigpihejaa
/- THE CELL 'sum', in the pinned program and in every row, IS THE sha256 OF THE DUMP (.gsa) THAT YtddkloigpihejaaProg.lean LOADS. Nothing in Lean hashes anything: it is a label: what it is worth is what the hold of that sum in a sandbox is worth. -/
noncomputable def Try.pinned : Pinned := { name := "ytddkloigpihejaa", sum := "113a94060282964af3d93e245d1c0da50c5ee0e2b19a1f91bbafcaeb88936c02", checked := Try.checked }
namespace Rows
def none {H : Type} : Left H := { results := [], args := [] }

/-- 'laws.FnExactRetryOk': WHATEVER THE INPUT: true; the input reads as it did. -/
def fnExactRetryOkSpec : ChangeSpec := { name := "fnExactRetryOk", fn := fun _ => fun
  | [d] => { results := [.lit (.bool true)], args := [d] }
  | _ => none }
def fnExactRetryOkRow : OpenClaim := { program := "ytddkloigpihejaa", sum := "113a94060282964af3d93e245d1c0da50c5ee0e2b19a1f91bbafcaeb88936c02", func := "loop.example/g00954/laws.FnExactRetryOk", spec := "fnExactRetryOk", apart := false }
def FnExactRetryOkSaid : Prop := fnExactRetryOkRow.holds Try.pinned (OpenSpec.ofChange fnExactRetryOkSpec)

/-- ITS FALSE NEIGHBOUR: 'it returns false'. Refute it at one input. -/
def fnExactRetryOkWrong : ChangeSpec := { name := "fnExactRetryOk", fn := fun _ => fun
  | [d] => { results := [.lit (.bool false)], args := [d] }
  | _ => none }
def FnExactRetryOkWrongFalsely : Prop := fnExactRetryOkRow.holds Try.pinned (OpenSpec.ofChange fnExactRetryOkWrong)

/-- 'laws.FnExactRetryMay': WHATEVER THE INPUT: true; the input reads as it did. -/
def fnExactRetryMaySpec : ChangeSpec := { name := "fnExactRetryMay", fn := fun _ => fun
  | [d1, d2] => { results := [.lit (.bool true)], args := [d1, d2] }
  | _ => none }
def fnExactRetryMayRow : OpenClaim := { program := "ytddkloigpihejaa", sum := "113a94060282964af3d93e245d1c0da50c5ee0e2b19a1f91bbafcaeb88936c02", func := "loop.example/g00954/laws.FnExactRetryMay", spec := "fnExactRetryMay", apart := false }
def FnExactRetryMaySaid : Prop := fnExactRetryMayRow.holds Try.pinned (OpenSpec.ofChange fnExactRetryMaySpec)

/-- ITS FALSE NEIGHBOUR: 'it returns false'. Refute it at one input. -/
def fnExactRetryMayWrong : ChangeSpec := { name := "fnExactRetryMay", fn := fun _ => fun
  | [d1, d2] => { results := [.lit (.bool false)], args := [d1, d2] }
  | _ => none }
def FnExactRetryMayWrongFalsely : Prop := fnExactRetryMayRow.holds Try.pinned (OpenSpec.ofChange fnExactRetryMayWrong)

/-- 'laws.FnExactSlowOf': WHATEVER THE INPUT: true; the input reads as it did. -/
def fnExactSlowOfSpec : ChangeSpec := { name := "fnExactSlowOf", fn := fun _ => fun
  | [d] => { results := [.lit (.bool true)], args := [d] }
  | _ => none }
def fnExactSlowOfRow : OpenClaim := { program := "ytddkloigpihejaa", sum := "113a94060282964af3d93e245d1c0da50c5ee0e2b19a1f91bbafcaeb88936c02", func := "loop.example/g00954/laws.FnExactSlowOf", spec := "fnExactSlowOf", apart := false }
def FnExactSlowOfSaid : Prop := fnExactSlowOfRow.holds Try.pinned (OpenSpec.ofChange fnExactSlowOfSpec)

/-- ITS FALSE NEIGHBOUR: 'it returns false'. Refute it at one input. -/
def fnExactSlowOfWrong : ChangeSpec := { name := "fnExactSlowOf", fn := fun _ => fun
  | [d] => { results := [.lit (.bool false)], args := [d] }
  | _ => none }
def FnExactSlowOfWrongFalsely : Prop := fnExactSlowOfRow.holds Try.pinned (OpenSpec.ofChange fnExactSlowOfWrong)

/-- 'laws.FnExactFastOf': WHATEVER THE INPUT: true; the input reads as it did. -/
def fnExactFastOfSpec : ChangeSpec := { name := "fnExactFastOf", fn := fun _ => fun
  | [d] => { results := [.lit (.bool true)], args := [d] }
  | _ => none }
def fnExactFastOfRow : OpenClaim := { program := "ytddkloigpihejaa", sum := "113a94060282964af3d93e245d1c0da50c5ee0e2b19a1f91bbafcaeb88936c02", func := "loop.example/g00954/laws.FnExactFastOf", spec := "fnExactFastOf", apart := false }
def FnExactFastOfSaid : Prop := fnExactFastOfRow.holds Try.pinned (OpenSpec.ofChange fnExactFastOfSpec)

/-- ITS FALSE NEIGHBOUR: 'it returns false'. Refute it at one input. -/
def fnExactFastOfWrong : ChangeSpec := { name := "fnExactFastOf", fn := fun _ => fun
  | [d] => { results := [.lit (.bool false)], args := [d] }
  | _ => none }
def FnExactFastOfWrongFalsely : Prop := fnExactFastOfRow.holds Try.pinned (OpenSpec.ofChange fnExactFastOfWrong)

/-- 'laws.FnExactRetryGood': WHATEVER THE INPUT: true; the input reads as it did. -/
def fnExactRetryGoodSpec : ChangeSpec := { name := "fnExactRetryGood", fn := fun _ => fun
  | [d] => { results := [.lit (.bool true)], args := [d] }
  | _ => none }
def fnExactRetryGoodRow : OpenClaim := { program := "ytddkloigpihejaa", sum := "113a94060282964af3d93e245d1c0da50c5ee0e2b19a1f91bbafcaeb88936c02", func := "loop.example/g00954/laws.FnExactRetryGood", spec := "fnExactRetryGood", apart := false }
def FnExactRetryGoodSaid : Prop := fnExactRetryGoodRow.holds Try.pinned (OpenSpec.ofChange fnExactRetryGoodSpec)

/-- ITS FALSE NEIGHBOUR: 'it returns false'. Refute it at one input. -/
def fnExactRetryGoodWrong : ChangeSpec := { name := "fnExactRetryGood", fn := fun _ => fun
  | [d] => { results := [.lit (.bool false)], args := [d] }
  | _ => none }
def FnExactRetryGoodWrongFalsely : Prop := fnExactRetryGoodRow.holds Try.pinned (OpenSpec.ofChange fnExactRetryGoodWrong)

/-- 'laws.FnExactRetryFail': WHATEVER THE INPUT: true; the input reads as it did. -/
def fnExactRetryFailSpec : ChangeSpec := { name := "fnExactRetryFail", fn := fun _ => fun
  | [d1, d2] => { results := [.lit (.bool true)], args := [d1, d2] }
  | _ => none }
def fnExactRetryFailRow : OpenClaim := { program := "ytddkloigpihejaa", sum := "113a94060282964af3d93e245d1c0da50c5ee0e2b19a1f91bbafcaeb88936c02", func := "loop.example/g00954/laws.FnExactRetryFail", spec := "fnExactRetryFail", apart := false }
def FnExactRetryFailSaid : Prop := fnExactRetryFailRow.holds Try.pinned (OpenSpec.ofChange fnExactRetryFailSpec)

/-- ITS FALSE NEIGHBOUR: 'it returns false'. Refute it at one input. -/
def fnExactRetryFailWrong : ChangeSpec := { name := "fnExactRetryFail", fn := fun _ => fun
  | [d1, d2] => { results := [.lit (.bool false)], args := [d1, d2] }
  | _ => none }
def FnExactRetryFailWrongFalsely : Prop := fnExactRetryFailRow.holds Try.pinned (OpenSpec.ofChange fnExactRetryFailWrong)

/-- 'laws.FnQuorum': WHATEVER THE INPUT: true; the input reads as it did. -/
def fnQuorumSpec : ChangeSpec := { name := "fnQuorum", fn := fun _ => fun
  | [d] => { results := [.lit (.bool true)], args := [d] }
  | _ => none }
def fnQuorumRow : OpenClaim := { program := "ytddkloigpihejaa", sum := "113a94060282964af3d93e245d1c0da50c5ee0e2b19a1f91bbafcaeb88936c02", func := "loop.example/g00954/laws.FnQuorum", spec := "fnQuorum", apart := false }
def FnQuorumSaid : Prop := fnQuorumRow.holds Try.pinned (OpenSpec.ofChange fnQuorumSpec)

/-- ITS FALSE NEIGHBOUR: 'it returns false'. Refute it at one input. -/
def fnQuorumWrong : ChangeSpec := { name := "fnQuorum", fn := fun _ => fun
  | [d] => { results := [.lit (.bool false)], args := [d] }
  | _ => none }
def FnQuorumWrongFalsely : Prop := fnQuorumRow.holds Try.pinned (OpenSpec.ofChange fnQuorumWrong)

/- THE SECOND FORM. 'bulk': how many values and letters a reading holds, each counted each time it is reached (what is shared counts as often as it is met; a slice's spare places count too). A statement '..UptoSaid' is the law's where the arguments, and the package variables that the reading takes, are together of bulk at most 1048576: NARROWER than '..Said'. Prove '..Said' where nothing that the law and all that it calls make is longer than what came in: it says more and counts as full. Else prove '..UptoSaid'. A law counts once. -/
mutual
def uptoBulk {H : Type} : DataW H → Nat
  | .lit (.string bytes) => bytes.length + 1
  | .lit _ => 1
  | .nil => 1
  | .ptr d => uptoBulk d + 1
  | .slice elems spare => uptoBulkAll elems + uptoBulkAll spare + 1
  | .agg parts => uptoBulkAll parts + 1
  | .iface _ d => uptoBulk d + 1
  | .map entries => uptoBulkEntries entries + 1
  | .held _ => 1
def uptoBulkAll {H : Type} : List (DataW H) → Nat
  | [] => 0
  | d :: r => uptoBulk d + uptoBulkAll r
def uptoBulkEntries {H : Type} : List (Lit × DataW H) → Nat
  | [] => 0
  | x :: r => uptoBulkEntry x + uptoBulkEntries r
def uptoBulkEntry {H : Type} : Lit × DataW H → Nat
  | (.string bytes, d) => bytes.length + uptoBulk d + 1
  | (_, d) => uptoBulk d + 1
 end
def uptoSmall : (H : Type) → List (DataW H) → Bool := fun _ ds => decide (uptoBulkAll ds ≤ 1048576)
def OpenSpec.upto (s : _root_.Go.ChangeSpec) : _root_.Go.OpenSpec := { _root_.Go.OpenSpec.ofChange s with cond := some uptoSmall }

/-- 'laws.FnExactRetryOk', WHERE WHAT IT READS IS OF BULK AT MOST 1048576: true; the input reads as it did. -/
def fnExactRetryOkUptoRow : OpenClaim := { program := "ytddkloigpihejaa", sum := "113a94060282964af3d93e245d1c0da50c5ee0e2b19a1f91bbafcaeb88936c02", func := "loop.example/g00954/laws.FnExactRetryOk", spec := "fnExactRetryOk", apart := false, narrowed := true }
def FnExactRetryOkUptoSaid : Prop := fnExactRetryOkUptoRow.holds Try.pinned (OpenSpec.upto fnExactRetryOkSpec)

/-- 'laws.FnExactRetryMay', WHERE WHAT IT READS IS OF BULK AT MOST 1048576: true; the input reads as it did. -/
def fnExactRetryMayUptoRow : OpenClaim := { program := "ytddkloigpihejaa", sum := "113a94060282964af3d93e245d1c0da50c5ee0e2b19a1f91bbafcaeb88936c02", func := "loop.example/g00954/laws.FnExactRetryMay", spec := "fnExactRetryMay", apart := false, narrowed := true }
def FnExactRetryMayUptoSaid : Prop := fnExactRetryMayUptoRow.holds Try.pinned (OpenSpec.upto fnExactRetryMaySpec)

/-- 'laws.FnExactSlowOf', WHERE WHAT IT READS IS OF BULK AT MOST 1048576: true; the input reads as it did. -/
def fnExactSlowOfUptoRow : OpenClaim := { program := "ytddkloigpihejaa", sum := "113a94060282964af3d93e245d1c0da50c5ee0e2b19a1f91bbafcaeb88936c02", func := "loop.example/g00954/laws.FnExactSlowOf", spec := "fnExactSlowOf", apart := false, narrowed := true }
def FnExactSlowOfUptoSaid : Prop := fnExactSlowOfUptoRow.holds Try.pinned (OpenSpec.upto fnExactSlowOfSpec)

/-- 'laws.FnExactFastOf', WHERE WHAT IT READS IS OF BULK AT MOST 1048576: true; the input reads as it did. -/
def fnExactFastOfUptoRow : OpenClaim := { program := "ytddkloigpihejaa", sum := "113a94060282964af3d93e245d1c0da50c5ee0e2b19a1f91bbafcaeb88936c02", func := "loop.example/g00954/laws.FnExactFastOf", spec := "fnExactFastOf", apart := false, narrowed := true }
def FnExactFastOfUptoSaid : Prop := fnExactFastOfUptoRow.holds Try.pinned (OpenSpec.upto fnExactFastOfSpec)

/-- 'laws.FnExactRetryGood', WHERE WHAT IT READS IS OF BULK AT MOST 1048576: true; the input reads as it did. -/
def fnExactRetryGoodUptoRow : OpenClaim := { program := "ytddkloigpihejaa", sum := "113a94060282964af3d93e245d1c0da50c5ee0e2b19a1f91bbafcaeb88936c02", func := "loop.example/g00954/laws.FnExactRetryGood", spec := "fnExactRetryGood", apart := false, narrowed := true }
def FnExactRetryGoodUptoSaid : Prop := fnExactRetryGoodUptoRow.holds Try.pinned (OpenSpec.upto fnExactRetryGoodSpec)

/-- 'laws.FnExactRetryFail', WHERE WHAT IT READS IS OF BULK AT MOST 1048576: true; the input reads as it did. -/
def fnExactRetryFailUptoRow : OpenClaim := { program := "ytddkloigpihejaa", sum := "113a94060282964af3d93e245d1c0da50c5ee0e2b19a1f91bbafcaeb88936c02", func := "loop.example/g00954/laws.FnExactRetryFail", spec := "fnExactRetryFail", apart := false, narrowed := true }
def FnExactRetryFailUptoSaid : Prop := fnExactRetryFailUptoRow.holds Try.pinned (OpenSpec.upto fnExactRetryFailSpec)

/-- 'laws.FnQuorum', WHERE WHAT IT READS IS OF BULK AT MOST 1048576: true; the input reads as it did. -/
def fnQuorumUptoRow : OpenClaim := { program := "ytddkloigpihejaa", sum := "113a94060282964af3d93e245d1c0da50c5ee0e2b19a1f91bbafcaeb88936c02", func := "loop.example/g00954/laws.FnQuorum", spec := "fnQuorum", apart := false, narrowed := true }
def FnQuorumUptoSaid : Prop := fnQuorumUptoRow.holds Try.pinned (OpenSpec.upto fnQuorumSpec)

end Rows
end Go.Proofs.Ytddkloigpihejaa
