/-
  DERIVED. GIVEN WITH THE SEED: THE CARDS: each row of YtchpfloemfoomaaDoorRows.lean that lists a variable, with what it lists TIED to the program's text (the seventh form; the later family's looks); each row that meets fmt, with fmt's text TOLD by the authors' own Lean function (tested against real Go, not proved from fmt's source: count such statements apart). THE CARD IS WHAT COUNTS. Prove the row's statement (the work); the ties are given (YtchpfloemfoomaaDoorTie.lean); close each card by the builder's one call (the guide's Derived/Test/ToyasCard.lean, 'card_holds'). Laid BY PROGRAM, IN A SANDBOX (cutbox-door.mjs). By AI agents, Wed Nov 11 2026. No macro, syntax, notation, axiom, sorry.
-/
import Derived.Test.YtchpfloemfoomaaDoorRows
import GoSem.ClaimSeven
namespace Go.Proofs.YtchpfloemfoomaaDoor
namespace Rows

/-- THE TIED CARD OF 'laws.FnExactCutIds'. -/
def fnExactCutIdsCard : Claim7 := { stood := { row := fnExactCutIdsRow, standIns := [], harness := (true, "0172248043db2c7e4949ef93b23abfe433bfa7a146bf75eab6b57ce4f0ca3026"), looks := false }, kinds := [], alts := [], laidByText := true, laidKinds := [.data], laidTests := true, laidLooks := .later }
def FnExactCutIdsCardSaid : Prop := Claim7.holds Tryd.pinned (.plain (OpenSpec.ofChange fnExactCutIdsSpec)) fnExactCutIdsCard

/-- THE TIED CARD OF 'laws.FnExactShared'. -/
def fnExactSharedCard : Claim7 := { stood := { row := fnExactSharedRow, standIns := [], harness := (true, "0172248043db2c7e4949ef93b23abfe433bfa7a146bf75eab6b57ce4f0ca3026"), looks := false }, kinds := [], alts := [], laidByText := true, laidKinds := [.data], laidTests := true, laidLooks := .later }
def FnExactSharedCardSaid : Prop := Claim7.holds Tryd.pinned (.plain (OpenSpec.ofChange fnExactSharedSpec)) fnExactSharedCard

/-- THE TIED CARD OF 'laws.FnExactStateHash'. -/
def fnExactStateHashCard : Claim7 := { stood := { row := fnExactStateHashRow, standIns := [], harness := (true, "0172248043db2c7e4949ef93b23abfe433bfa7a146bf75eab6b57ce4f0ca3026"), looks := false }, kinds := [], alts := [], laidByText := true, laidKinds := [.data], laidTests := true, laidLooks := .later }
def FnExactStateHashCardSaid : Prop := Claim7.holds Tryd.pinned (.plain (OpenSpec.ofChange fnExactStateHashSpec)) fnExactStateHashCard

/-- THE SECOND FORM's CARD OF 'laws.FnExactCutIds'. -/
def fnExactCutIdsUptoCard : Claim7 := { stood := { row := fnExactCutIdsUptoRow, standIns := [], harness := (true, "0172248043db2c7e4949ef93b23abfe433bfa7a146bf75eab6b57ce4f0ca3026"), looks := false }, kinds := [], alts := [], laidByText := true, laidKinds := [.data], laidTests := true, laidLooks := .later }
def FnExactCutIdsUptoCardSaid : Prop := Claim7.holds Tryd.pinned (.plain (OpenSpec.upto fnExactCutIdsSpec)) fnExactCutIdsUptoCard

/-- THE SECOND FORM's CARD OF 'laws.FnExactShared'. -/
def fnExactSharedUptoCard : Claim7 := { stood := { row := fnExactSharedUptoRow, standIns := [], harness := (true, "0172248043db2c7e4949ef93b23abfe433bfa7a146bf75eab6b57ce4f0ca3026"), looks := false }, kinds := [], alts := [], laidByText := true, laidKinds := [.data], laidTests := true, laidLooks := .later }
def FnExactSharedUptoCardSaid : Prop := Claim7.holds Tryd.pinned (.plain (OpenSpec.upto fnExactSharedSpec)) fnExactSharedUptoCard

/-- THE SECOND FORM's CARD OF 'laws.FnExactStateHash'. -/
def fnExactStateHashUptoCard : Claim7 := { stood := { row := fnExactStateHashUptoRow, standIns := [], harness := (true, "0172248043db2c7e4949ef93b23abfe433bfa7a146bf75eab6b57ce4f0ca3026"), looks := false }, kinds := [], alts := [], laidByText := true, laidKinds := [.data], laidTests := true, laidLooks := .later }
def FnExactStateHashUptoCardSaid : Prop := Claim7.holds Tryd.pinned (.plain (OpenSpec.upto fnExactStateHashSpec)) fnExactStateHashUptoCard
end Rows
end Go.Proofs.YtchpfloemfoomaaDoor
