/-
  DERIVED. GIVEN WITH THE SEED: THE CARDS: each row of YtodmafgmdlkhoaaDoorRows.lean that lists a variable, with what it lists TIED to the program's text (the seventh form; the later family's looks); each row that meets fmt, with fmt's text TOLD by the authors' own Lean function (tested against real Go, not proved from fmt's source: count such statements apart). THE CARD IS WHAT COUNTS. Prove the row's statement (the work); the ties are given (YtodmafgmdlkhoaaDoorTie.lean); close each card by the builder's one call (the guide's Derived/Test/ToyasCard.lean, 'card_holds'). Laid BY PROGRAM, IN A SANDBOX (cutbox-door.mjs). By AI agents, Wed Nov 11 2026. No macro, syntax, notation, axiom, sorry.
-/
import Derived.Test.YtodmafgmdlkhoaaDoorRows
import GoSem.ClaimSeven
namespace Go.Proofs.YtodmafgmdlkhoaaDoor
namespace Rows

/-- THE TIED CARD OF 'laws.FnState'. -/
def fnStateCard : Claim7 := { stood := { row := fnStateRow, standIns := [], harness := (true, "7d52e0e265efed3236a9ca0fdad792811d1929a1fb951f9691e7c27b43af6322"), looks := false }, kinds := [], alts := [], laidByText := true, laidKinds := [.data], laidTests := true, laidLooks := .later }
def FnStateCardSaid : Prop := Claim7.holds Tryd.pinned (.plain (OpenSpec.ofChange fnStateSpec)) fnStateCard

/-- THE SECOND FORM's CARD OF 'laws.FnState'. -/
def fnStateUptoCard : Claim7 := { stood := { row := fnStateUptoRow, standIns := [], harness := (true, "7d52e0e265efed3236a9ca0fdad792811d1929a1fb951f9691e7c27b43af6322"), looks := false }, kinds := [], alts := [], laidByText := true, laidKinds := [.data], laidTests := true, laidLooks := .later }
def FnStateUptoCardSaid : Prop := Claim7.holds Tryd.pinned (.plain (OpenSpec.upto fnStateSpec)) fnStateUptoCard
end Rows
end Go.Proofs.YtodmafgmdlkhoaaDoor
