/-
  No cell of these rows narrows 'for every input' (looked for: loops, veiled, ifaces, maps, wideKeys, modest, calm, conditions, laid).
  DERIVED. THE GIVEN ROWS OF THIS SEAT. 6 by the template 'for every input the law returns true; each argument reads behind the call as it read before'; 0 by the template 'total and deterministic' (their statements: YtopdaicfhfjmgaaTotals.lean).
  GIVEN WITH THE SEED: the statements are not yours to turn. If you find one false, say at which input.
  Laid BY PROGRAM, IN A SANDBOX (cutbox-rows.mjs): the forced cells as the released guide's own fill.sh prints them over the translation fed0ca2adf61534d… (all of the seat's roots in one cut). By AI agents, Wed Nov 11 2026. No macro, syntax, notation, axiom, sorry.
-/
import Derived.Test.YtopdaicfhfjmgaaChecked
import GoSem.Claim
import GoSem.ClaimJoined
import GoSem.ClaimMapViews
import Derived.JoinedTies
import Derived.KernelRfl
namespace Go.Proofs.Ytopdaicfhfjmgaa
/- THE CELL 'sum', in the pinned program and in every row, IS THE sha256 OF THE DUMP (.gsa) THAT YtopdaicfhfjmgaaProg.lean LOADS. Nothing in Lean hashes anything: it is a label: what it is worth is what the hold of that sum in a sandbox is worth. -/
noncomputable def Try.pinned : Pinned := { name := "ytopdaicfhfjmgaa", sum := "fed0ca2adf61534dfbf51c36db795927455ef1491c6c7cecb4ee09fbb09bbd10", checked := Try.checked }
namespace Rows
def none {H : Type} : Left H := { results := [], args := [] }

/-- 'laws.FnExactCatOk': WHATEVER THE INPUT: true; the input reads as it did. -/
def fnExactCatOkSpec : ChangeSpec := { name := "fnExactCatOk", fn := fun _ => fun
  | [d] => { results := [.lit (.bool true)], args := [d] }
  | _ => none }
def fnExactCatOkRow : OpenClaim := { program := "ytopdaicfhfjmgaa", sum := "fed0ca2adf61534dfbf51c36db795927455ef1491c6c7cecb4ee09fbb09bbd10", func := "loop.example/g00954/laws.FnExactCatOk", spec := "fnExactCatOk", unfollowed := true, recurses := true, apart := false }
def FnExactCatOkSaid : Prop := fnExactCatOkRow.holds Try.pinned (OpenSpec.ofChange fnExactCatOkSpec)

/-- ITS FALSE NEIGHBOUR: 'it returns false'. Refute it at one input. -/
def fnExactCatOkWrong : ChangeSpec := { name := "fnExactCatOk", fn := fun _ => fun
  | [d] => { results := [.lit (.bool false)], args := [d] }
  | _ => none }
def FnExactCatOkWrongFalsely : Prop := fnExactCatOkRow.holds Try.pinned (OpenSpec.ofChange fnExactCatOkWrong)

/-- 'laws.FnExactCallsOk': WHATEVER THE INPUT: true; the input reads as it did. -/
def fnExactCallsOkSpec : ChangeSpec := { name := "fnExactCallsOk", fn := fun _ => fun
  | [d] => { results := [.lit (.bool true)], args := [d] }
  | _ => none }
def fnExactCallsOkRow : OpenClaim := { program := "ytopdaicfhfjmgaa", sum := "fed0ca2adf61534dfbf51c36db795927455ef1491c6c7cecb4ee09fbb09bbd10", func := "loop.example/g00954/laws.FnExactCallsOk", spec := "fnExactCallsOk", apart := false }
def FnExactCallsOkSaid : Prop := fnExactCallsOkRow.holds Try.pinned (OpenSpec.ofChange fnExactCallsOkSpec)

/-- ITS FALSE NEIGHBOUR: 'it returns false'. Refute it at one input. -/
def fnExactCallsOkWrong : ChangeSpec := { name := "fnExactCallsOk", fn := fun _ => fun
  | [d] => { results := [.lit (.bool false)], args := [d] }
  | _ => none }
def FnExactCallsOkWrongFalsely : Prop := fnExactCallsOkRow.holds Try.pinned (OpenSpec.ofChange fnExactCallsOkWrong)

/-- 'laws.FnExactRefsOf': WHATEVER THE INPUT: true; the input reads as it did. -/
def fnExactRefsOfSpec : ChangeSpec := { name := "fnExactRefsOf", fn := fun _ => fun
  | [d1, d2] => { results := [.lit (.bool true)], args := [d1, d2] }
  | _ => none }
def fnExactRefsOfRow : OpenClaim := { program := "ytopdaicfhfjmgaa", sum := "fed0ca2adf61534dfbf51c36db795927455ef1491c6c7cecb4ee09fbb09bbd10", func := "loop.example/g00954/laws.FnExactRefsOf", spec := "fnExactRefsOf", unfollowed := true, recurses := true, apart := false }
def FnExactRefsOfSaid : Prop := fnExactRefsOfRow.holds Try.pinned (OpenSpec.ofChange fnExactRefsOfSpec)

/-- ITS FALSE NEIGHBOUR: 'it returns false'. Refute it at one input. -/
def fnExactRefsOfWrong : ChangeSpec := { name := "fnExactRefsOf", fn := fun _ => fun
  | [d1, d2] => { results := [.lit (.bool false)], args := [d1, d2] }
  | _ => none }
def FnExactRefsOfWrongFalsely : Prop := fnExactRefsOfRow.holds Try.pinned (OpenSpec.ofChange fnExactRefsOfWrong)

/-- 'laws.FnExactStateOk': WHATEVER THE INPUT: true; the input reads as it did. -/
def fnExactStateOkSpec : ChangeSpec := { name := "fnExactStateOk", fn := fun _ => fun
  | [d] => { results := [.lit (.bool true)], args := [d] }
  | _ => none }
def fnExactStateOkRow : OpenClaim := { program := "ytopdaicfhfjmgaa", sum := "fed0ca2adf61534dfbf51c36db795927455ef1491c6c7cecb4ee09fbb09bbd10", func := "loop.example/g00954/laws.FnExactStateOk", spec := "fnExactStateOk", unfollowed := true, recurses := true, apart := false }
def FnExactStateOkSaid : Prop := fnExactStateOkRow.holds Try.pinned (OpenSpec.ofChange fnExactStateOkSpec)

/-- ITS FALSE NEIGHBOUR: 'it returns false'. Refute it at one input. -/
def fnExactStateOkWrong : ChangeSpec := { name := "fnExactStateOk", fn := fun _ => fun
  | [d] => { results := [.lit (.bool false)], args := [d] }
  | _ => none }
def FnExactStateOkWrongFalsely : Prop := fnExactStateOkRow.holds Try.pinned (OpenSpec.ofChange fnExactStateOkWrong)

/-- 'laws.FnExactShowState': WHATEVER THE INPUT: true; the input reads as it did. -/
def fnExactShowStateSpec : ChangeSpec := { name := "fnExactShowState", fn := fun _ => fun
  | [d] => { results := [.lit (.bool true)], args := [d] }
  | _ => none }
def fnExactShowStateRow : OpenClaim := { program := "ytopdaicfhfjmgaa", sum := "fed0ca2adf61534dfbf51c36db795927455ef1491c6c7cecb4ee09fbb09bbd10", func := "loop.example/g00954/laws.FnExactShowState", spec := "fnExactShowState", unfollowed := true, recurses := true, apart := false }
def FnExactShowStateSaid : Prop := fnExactShowStateRow.holds Try.pinned (OpenSpec.ofChange fnExactShowStateSpec)

/-- ITS FALSE NEIGHBOUR: 'it returns false'. Refute it at one input. -/
def fnExactShowStateWrong : ChangeSpec := { name := "fnExactShowState", fn := fun _ => fun
  | [d] => { results := [.lit (.bool false)], args := [d] }
  | _ => none }
def FnExactShowStateWrongFalsely : Prop := fnExactShowStateRow.holds Try.pinned (OpenSpec.ofChange fnExactShowStateWrong)

/-- 'laws.FnExactFits': WHATEVER THE INPUT: true; the input reads as it did. -/
def fnExactFitsSpec : ChangeSpec := { name := "fnExactFits", fn := fun _ => fun
  | [d1, d2] => { results := [.lit (.bool true)], args := [d1, d2] }
  | _ => none }
def fnExactFitsRow : OpenClaim := { program := "ytopdaicfhfjmgaa", sum := "fed0ca2adf61534dfbf51c36db795927455ef1491c6c7cecb4ee09fbb09bbd10", func := "loop.example/g00954/laws.FnExactFits", spec := "fnExactFits", inPlace := ["slices.overlaps[loop.example/g00954/impl.CSet]", "slices.overlaps[loop.example/g00954/impl.Said]"], unfollowed := true, recurses := true, apart := false }
def FnExactFitsSaid : Prop := fnExactFitsRow.holds Try.pinned (OpenSpec.ofChange fnExactFitsSpec)

/-- ITS FALSE NEIGHBOUR: 'it returns false'. Refute it at one input. -/
def fnExactFitsWrong : ChangeSpec := { name := "fnExactFits", fn := fun _ => fun
  | [d1, d2] => { results := [.lit (.bool false)], args := [d1, d2] }
  | _ => none }
def FnExactFitsWrongFalsely : Prop := fnExactFitsRow.holds Try.pinned (OpenSpec.ofChange fnExactFitsWrong)

/- THE SECOND FORM. 'bulk': how many values and letters a reading holds, each counted each time it is reached (what is shared counts as often as it is met; a slice's spare places count too). A statement '..UptoSaid' is the law's where the arguments, and the package variables that the reading takes, are together of bulk at most 1048576: NARROWER than '..Said'. Prove '..Said' where nothing that the law and all that it calls make is longer than what came in: it says more and counts as full. Else prove '..UptoSaid'. A law counts once. -/
mutual
def uptoBulk {H : Type} : DataW H → Nat
  | .lit (.string bytes) => bytes.length + 1
  | .lit _ => 1
  | .nil => 1
  | .ptr d => uptoBulk d + 1
  | .slice elems spare => uptoBulkAll elems + uptoBulkAll spare + 1
  | .agg parts => uptoBulkAll parts + 1
  | .iface _ d => uptoBulk d + 1
  | .map entries => uptoBulkEntries entries + 1
  | .held _ => 1
def uptoBulkAll {H : Type} : List (DataW H) → Nat
  | [] => 0
  | d :: r => uptoBulk d + uptoBulkAll r
def uptoBulkEntries {H : Type} : List (Lit × DataW H) → Nat
  | [] => 0
  | x :: r => uptoBulkEntry x + uptoBulkEntries r
def uptoBulkEntry {H : Type} : Lit × DataW H → Nat
  | (.string bytes, d) => bytes.length + uptoBulk d + 1
  | (_, d) => uptoBulk d + 1
 end
def uptoSmall : (H : Type) → List (DataW H) → Bool := fun _ ds => decide (uptoBulkAll ds ≤ 1048576)
def OpenSpec.upto (s : _root_.Go.ChangeSpec) : _root_.Go.OpenSpec := { _root_.Go.OpenSpec.ofChange s with cond := some uptoSmall }

/-- 'laws.FnExactCatOk', WHERE WHAT IT READS IS OF BULK AT MOST 1048576: true; the input reads as it did. -/
def fnExactCatOkUptoRow : OpenClaim := { program := "ytopdaicfhfjmgaa", sum := "fed0ca2adf61534dfbf51c36db795927455ef1491c6c7cecb4ee09fbb09bbd10", func := "loop.example/g00954/laws.FnExactCatOk", spec := "fnExactCatOk", unfollowed := true, recurses := true, apart := false, narrowed := true }
def FnExactCatOkUptoSaid : Prop := fnExactCatOkUptoRow.holds Try.pinned (OpenSpec.upto fnExactCatOkSpec)

/-- 'laws.FnExactCallsOk', WHERE WHAT IT READS IS OF BULK AT MOST 1048576: true; the input reads as it did. -/
def fnExactCallsOkUptoRow : OpenClaim := { program := "ytopdaicfhfjmgaa", sum := "fed0ca2adf61534dfbf51c36db795927455ef1491c6c7cecb4ee09fbb09bbd10", func := "loop.example/g00954/laws.FnExactCallsOk", spec := "fnExactCallsOk", apart := false, narrowed := true }
def FnExactCallsOkUptoSaid : Prop := fnExactCallsOkUptoRow.holds Try.pinned (OpenSpec.upto fnExactCallsOkSpec)

/-- 'laws.FnExactRefsOf', WHERE WHAT IT READS IS OF BULK AT MOST 1048576: true; the input reads as it did. -/
def fnExactRefsOfUptoRow : OpenClaim := { program := "ytopdaicfhfjmgaa", sum := "fed0ca2adf61534dfbf51c36db795927455ef1491c6c7cecb4ee09fbb09bbd10", func := "loop.example/g00954/laws.FnExactRefsOf", spec := "fnExactRefsOf", unfollowed := true, recurses := true, apart := false, narrowed := true }
def FnExactRefsOfUptoSaid : Prop := fnExactRefsOfUptoRow.holds Try.pinned (OpenSpec.upto fnExactRefsOfSpec)

/-- 'laws.FnExactStateOk', WHERE WHAT IT READS IS OF BULK AT MOST 1048576: true; the input reads as it did. -/
def fnExactStateOkUptoRow : OpenClaim := { program := "ytopdaicfhfjmgaa", sum := "fed0ca2adf61534dfbf51c36db795927455ef1491c6c7cecb4ee09fbb09bbd10", func := "loop.example/g00954/laws.FnExactStateOk", spec := "fnExactStateOk", unfollowed := true, recurses := true, apart := false, narrowed := true }
def FnExactStateOkUptoSaid : Prop := fnExactStateOkUptoRow.holds Try.pinned (OpenSpec.upto fnExactStateOkSpec)

/-- 'laws.FnExactShowState', WHERE WHAT IT READS IS OF BULK AT MOST 1048576: true; the input reads as it did. -/
def fnExactShowStateUptoRow : OpenClaim := { program := "ytopdaicfhfjmgaa", sum := "fed0ca2adf61534dfbf51c36db795927455ef1491c6c7cecb4ee09fbb09bbd10", func := "loop.example/g00954/laws.FnExactShowState", spec := "fnExactShowState", unfollowed := true, recurses := true, apart := false, narrowed := true }
def FnExactShowStateUptoSaid : Prop := fnExactShowStateUptoRow.holds Try.pinned (OpenSpec.upto fnExactShowStateSpec)

/-- 'laws.FnExactFits', WHERE WHAT IT READS IS OF BULK AT MOST 1048576: true; the input reads as it did. -/
def fnExactFitsUptoRow : OpenClaim := { program := "ytopdaicfhfjmgaa", sum := "fed0ca2adf61534dfbf51c36db795927455ef1491c6c7cecb4ee09fbb09bbd10", func := "loop.example/g00954/laws.FnExactFits", spec := "fnExactFits", inPlace := ["slices.overlaps[loop.example/g00954/impl.CSet]", "slices.overlaps[loop.example/g00954/impl.Said]"], unfollowed := true, recurses := true, apart := false, narrowed := true }
def FnExactFitsUptoSaid : Prop := fnExactFitsUptoRow.holds Try.pinned (OpenSpec.upto fnExactFitsSpec)

end Rows
end Go.Proofs.Ytopdaicfhfjmgaa
