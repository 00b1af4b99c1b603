/-
  No cell of these rows narrows 'for every input' (looked for: loops, veiled, ifaces, maps, wideKeys, modest, calm, conditions, laid).
  DERIVED. THE GIVEN ROWS OF THIS SEAT. 5 by the template 'for every input the law returns true; each argument reads behind the call as it read before'; 0 by the template 'total and deterministic' (their statements: YtmheohnbkaoipaaTotals.lean).
  GIVEN WITH THE SEED: the statements are not yours to turn. If you find one false, say at which input.
  Laid BY PROGRAM, IN A SANDBOX (cutbox-rows.mjs): the forced cells as the released guide's own fill.sh prints them over the translation c6cb1ee0f19ab1f1… (all of the seat's roots in one cut). By AI agents, Wed Nov 11 2026. No macro, syntax, notation, axiom, sorry.
-/
import Derived.Test.YtmheohnbkaoipaaChecked
import GoSem.Claim
import GoSem.ClaimJoined
import GoSem.ClaimMapViews
import Derived.JoinedTies
import Derived.KernelRfl
namespace Go.Proofs.Ytmheohnbkaoipaa
/- THE CELL 'sum', in the pinned program and in every row, IS THE sha256 OF THE DUMP (.gsa) THAT YtmheohnbkaoipaaProg.lean LOADS. Nothing in Lean hashes anything: it is a label: what it is worth is what the hold of that sum in a sandbox is worth. -/
noncomputable def Try.pinned : Pinned := { name := "ytmheohnbkaoipaa", sum := "c6cb1ee0f19ab1f185d90188e979001de2244cda441543c921e8fb1ca28b0d5c", checked := Try.checked }
namespace Rows
def none {H : Type} : Left H := { results := [], args := [] }

/-- 'laws.FnExactCatDo': WHATEVER THE INPUT: true; the input reads as it did. -/
def fnExactCatDoSpec : ChangeSpec := { name := "fnExactCatDo", fn := fun _ => fun
  | [d1, d2] => { results := [.lit (.bool true)], args := [d1, d2] }
  | _ => none }
def fnExactCatDoRow : OpenClaim := { program := "ytmheohnbkaoipaa", sum := "c6cb1ee0f19ab1f185d90188e979001de2244cda441543c921e8fb1ca28b0d5c", func := "loop.example/g00954/laws.FnExactCatDo", spec := "fnExactCatDo", inPlace := ["slices.overlaps[loop.example/g00954/impl.CSet]"], unfollowed := true, recurses := true, apart := false }
def FnExactCatDoSaid : Prop := fnExactCatDoRow.holds Try.pinned (OpenSpec.ofChange fnExactCatDoSpec)

/-- ITS FALSE NEIGHBOUR: 'it returns false'. Refute it at one input. -/
def fnExactCatDoWrong : ChangeSpec := { name := "fnExactCatDo", fn := fun _ => fun
  | [d1, d2] => { results := [.lit (.bool false)], args := [d1, d2] }
  | _ => none }
def FnExactCatDoWrongFalsely : Prop := fnExactCatDoRow.holds Try.pinned (OpenSpec.ofChange fnExactCatDoWrong)

/-- 'laws.FnExactCatPlay': WHATEVER THE INPUT: true; the input reads as it did. -/
def fnExactCatPlaySpec : ChangeSpec := { name := "fnExactCatPlay", fn := fun _ => fun
  | [d] => { results := [.lit (.bool true)], args := [d] }
  | _ => none }
def fnExactCatPlayRow : OpenClaim := { program := "ytmheohnbkaoipaa", sum := "c6cb1ee0f19ab1f185d90188e979001de2244cda441543c921e8fb1ca28b0d5c", func := "loop.example/g00954/laws.FnExactCatPlay", spec := "fnExactCatPlay", inPlace := ["slices.overlaps[loop.example/g00954/impl.CSet]"], unfollowed := true, recurses := true, apart := false }
def FnExactCatPlaySaid : Prop := fnExactCatPlayRow.holds Try.pinned (OpenSpec.ofChange fnExactCatPlaySpec)

/-- ITS FALSE NEIGHBOUR: 'it returns false'. Refute it at one input. -/
def fnExactCatPlayWrong : ChangeSpec := { name := "fnExactCatPlay", fn := fun _ => fun
  | [d] => { results := [.lit (.bool false)], args := [d] }
  | _ => none }
def FnExactCatPlayWrongFalsely : Prop := fnExactCatPlayRow.holds Try.pinned (OpenSpec.ofChange fnExactCatPlayWrong)

/-- 'laws.FnExactStatePlay': WHATEVER THE INPUT: true; the input reads as it did. -/
def fnExactStatePlaySpec : ChangeSpec := { name := "fnExactStatePlay", fn := fun _ => fun
  | [d] => { results := [.lit (.bool true)], args := [d] }
  | _ => none }
def fnExactStatePlayRow : OpenClaim := { program := "ytmheohnbkaoipaa", sum := "c6cb1ee0f19ab1f185d90188e979001de2244cda441543c921e8fb1ca28b0d5c", func := "loop.example/g00954/laws.FnExactStatePlay", spec := "fnExactStatePlay", inPlace := ["slices.overlaps[loop.example/g00954/impl.CSet]", "slices.overlaps[loop.example/g00954/impl.Said]"], unfollowed := true, recurses := true, apart := false }
def FnExactStatePlaySaid : Prop := fnExactStatePlayRow.holds Try.pinned (OpenSpec.ofChange fnExactStatePlaySpec)

/-- ITS FALSE NEIGHBOUR: 'it returns false'. Refute it at one input. -/
def fnExactStatePlayWrong : ChangeSpec := { name := "fnExactStatePlay", fn := fun _ => fun
  | [d] => { results := [.lit (.bool false)], args := [d] }
  | _ => none }
def FnExactStatePlayWrongFalsely : Prop := fnExactStatePlayRow.holds Try.pinned (OpenSpec.ofChange fnExactStatePlayWrong)

/-- 'laws.FnExactFits': WHATEVER THE INPUT: true; the input reads as it did. -/
def fnExactFitsSpec : ChangeSpec := { name := "fnExactFits", fn := fun _ => fun
  | [d1, d2] => { results := [.lit (.bool true)], args := [d1, d2] }
  | _ => none }
def fnExactFitsRow : OpenClaim := { program := "ytmheohnbkaoipaa", sum := "c6cb1ee0f19ab1f185d90188e979001de2244cda441543c921e8fb1ca28b0d5c", func := "loop.example/g00954/laws.FnExactFits", spec := "fnExactFits", inPlace := ["slices.overlaps[loop.example/g00954/impl.CSet]", "slices.overlaps[loop.example/g00954/impl.Said]"], unfollowed := true, recurses := true, apart := false }
def FnExactFitsSaid : Prop := fnExactFitsRow.holds Try.pinned (OpenSpec.ofChange fnExactFitsSpec)

/-- ITS FALSE NEIGHBOUR: 'it returns false'. Refute it at one input. -/
def fnExactFitsWrong : ChangeSpec := { name := "fnExactFits", fn := fun _ => fun
  | [d1, d2] => { results := [.lit (.bool false)], args := [d1, d2] }
  | _ => none }
def FnExactFitsWrongFalsely : Prop := fnExactFitsRow.holds Try.pinned (OpenSpec.ofChange fnExactFitsWrong)

/-- 'laws.FnExactLineOf': WHATEVER THE INPUT: true; the input reads as it did. -/
def fnExactLineOfSpec : ChangeSpec := { name := "fnExactLineOf", fn := fun _ => fun
  | [d] => { results := [.lit (.bool true)], args := [d] }
  | _ => none }
def fnExactLineOfRow : OpenClaim := { program := "ytmheohnbkaoipaa", sum := "c6cb1ee0f19ab1f185d90188e979001de2244cda441543c921e8fb1ca28b0d5c", func := "loop.example/g00954/laws.FnExactLineOf", spec := "fnExactLineOf", inPlace := ["slices.overlaps[loop.example/g00954/impl.CSet]", "slices.overlaps[loop.example/g00954/impl.Said]"], unfollowed := true, recurses := true, apart := false }
def FnExactLineOfSaid : Prop := fnExactLineOfRow.holds Try.pinned (OpenSpec.ofChange fnExactLineOfSpec)

/-- ITS FALSE NEIGHBOUR: 'it returns false'. Refute it at one input. -/
def fnExactLineOfWrong : ChangeSpec := { name := "fnExactLineOf", fn := fun _ => fun
  | [d] => { results := [.lit (.bool false)], args := [d] }
  | _ => none }
def FnExactLineOfWrongFalsely : Prop := fnExactLineOfRow.holds Try.pinned (OpenSpec.ofChange fnExactLineOfWrong)

/- THE SECOND FORM. 'bulk': how many values and letters a reading holds, each counted each time it is reached (what is shared counts as often as it is met; a slice's spare places count too). A statement '..UptoSaid' is the law's where the arguments, and the package variables that the reading takes, are together of bulk at most 1048576: NARROWER than '..Said'. Prove '..Said' where nothing that the law and all that it calls make is longer than what came in: it says more and counts as full. Else prove '..UptoSaid'. A law counts once. -/
mutual
def uptoBulk {H : Type} : DataW H → Nat
  | .lit (.string bytes) => bytes.length + 1
  | .lit _ => 1
  | .nil => 1
  | .ptr d => uptoBulk d + 1
  | .slice elems spare => uptoBulkAll elems + uptoBulkAll spare + 1
  | .agg parts => uptoBulkAll parts + 1
  | .iface _ d => uptoBulk d + 1
  | .map entries => uptoBulkEntries entries + 1
  | .held _ => 1
def uptoBulkAll {H : Type} : List (DataW H) → Nat
  | [] => 0
  | d :: r => uptoBulk d + uptoBulkAll r
def uptoBulkEntries {H : Type} : List (Lit × DataW H) → Nat
  | [] => 0
  | x :: r => uptoBulkEntry x + uptoBulkEntries r
def uptoBulkEntry {H : Type} : Lit × DataW H → Nat
  | (.string bytes, d) => bytes.length + uptoBulk d + 1
  | (_, d) => uptoBulk d + 1
 end
def uptoSmall : (H : Type) → List (DataW H) → Bool := fun _ ds => decide (uptoBulkAll ds ≤ 1048576)
def OpenSpec.upto (s : _root_.Go.ChangeSpec) : _root_.Go.OpenSpec := { _root_.Go.OpenSpec.ofChange s with cond := some uptoSmall }

/-- 'laws.FnExactCatDo', WHERE WHAT IT READS IS OF BULK AT MOST 1048576: true; the input reads as it did. -/
def fnExactCatDoUptoRow : OpenClaim := { program := "ytmheohnbkaoipaa", sum := "c6cb1ee0f19ab1f185d90188e979001de2244cda441543c921e8fb1ca28b0d5c", func := "loop.example/g00954/laws.FnExactCatDo", spec := "fnExactCatDo", inPlace := ["slices.overlaps[loop.example/g00954/impl.CSet]"], unfollowed := true, recurses := true, apart := false, narrowed := true }
def FnExactCatDoUptoSaid : Prop := fnExactCatDoUptoRow.holds Try.pinned (OpenSpec.upto fnExactCatDoSpec)

/-- 'laws.FnExactCatPlay', WHERE WHAT IT READS IS OF BULK AT MOST 1048576: true; the input reads as it did. -/
def fnExactCatPlayUptoRow : OpenClaim := { program := "ytmheohnbkaoipaa", sum := "c6cb1ee0f19ab1f185d90188e979001de2244cda441543c921e8fb1ca28b0d5c", func := "loop.example/g00954/laws.FnExactCatPlay", spec := "fnExactCatPlay", inPlace := ["slices.overlaps[loop.example/g00954/impl.CSet]"], unfollowed := true, recurses := true, apart := false, narrowed := true }
def FnExactCatPlayUptoSaid : Prop := fnExactCatPlayUptoRow.holds Try.pinned (OpenSpec.upto fnExactCatPlaySpec)

/-- 'laws.FnExactStatePlay', WHERE WHAT IT READS IS OF BULK AT MOST 1048576: true; the input reads as it did. -/
def fnExactStatePlayUptoRow : OpenClaim := { program := "ytmheohnbkaoipaa", sum := "c6cb1ee0f19ab1f185d90188e979001de2244cda441543c921e8fb1ca28b0d5c", func := "loop.example/g00954/laws.FnExactStatePlay", spec := "fnExactStatePlay", inPlace := ["slices.overlaps[loop.example/g00954/impl.CSet]", "slices.overlaps[loop.example/g00954/impl.Said]"], unfollowed := true, recurses := true, apart := false, narrowed := true }
def FnExactStatePlayUptoSaid : Prop := fnExactStatePlayUptoRow.holds Try.pinned (OpenSpec.upto fnExactStatePlaySpec)

/-- 'laws.FnExactFits', WHERE WHAT IT READS IS OF BULK AT MOST 1048576: true; the input reads as it did. -/
def fnExactFitsUptoRow : OpenClaim := { program := "ytmheohnbkaoipaa", sum := "c6cb1ee0f19ab1f185d90188e979001de2244cda441543c921e8fb1ca28b0d5c", func := "loop.example/g00954/laws.FnExactFits", spec := "fnExactFits", inPlace := ["slices.overlaps[loop.example/g00954/impl.CSet]", "slices.overlaps[loop.example/g00954/impl.Said]"], unfollowed := true, recurses := true, apart := false, narrowed := true }
def FnExactFitsUptoSaid : Prop := fnExactFitsUptoRow.holds Try.pinned (OpenSpec.upto fnExactFitsSpec)

/-- 'laws.FnExactLineOf', WHERE WHAT IT READS IS OF BULK AT MOST 1048576: true; the input reads as it did. -/
def fnExactLineOfUptoRow : OpenClaim := { program := "ytmheohnbkaoipaa", sum := "c6cb1ee0f19ab1f185d90188e979001de2244cda441543c921e8fb1ca28b0d5c", func := "loop.example/g00954/laws.FnExactLineOf", spec := "fnExactLineOf", inPlace := ["slices.overlaps[loop.example/g00954/impl.CSet]", "slices.overlaps[loop.example/g00954/impl.Said]"], unfollowed := true, recurses := true, apart := false, narrowed := true }
def FnExactLineOfUptoSaid : Prop := fnExactLineOfUptoRow.holds Try.pinned (OpenSpec.upto fnExactLineOfSpec)

end Rows
end Go.Proofs.Ytmheohnbkaoipaa
