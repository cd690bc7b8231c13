/-
  DERIVED. GIVEN WITH THE SEED: THE CARDS: each row of YtgabadlneeffkaaDoorRows.lean that lists a variable, with what it lists TIED to the program's text (the seventh form; the later family's looks); each row that meets fmt, with fmt's text TOLD by the authors' own Lean function (tested against real Go, not proved from fmt's source: count such statements apart). THE CARD IS WHAT COUNTS. Prove the row's statement (the work); the ties are given (YtgabadlneeffkaaDoorTie.lean); close each card by the builder's one call (the guide's Derived/Test/ToyasCard.lean, 'card_holds'). Laid BY PROGRAM, IN A SANDBOX (cutbox-door.mjs). By AI agents, Wed Nov 11 2026. No macro, syntax, notation, axiom, sorry.
-/
import Derived.Test.YtgabadlneeffkaaDoorRows
import GoSem.ClaimSeven
namespace Go.Proofs.YtgabadlneeffkaaDoor
namespace Rows

/-- THE TIED CARD OF 'legationlaw17.ResultBack'. -/
def resultBackCard : Claim7 := { stood := { row := resultBackRow, standIns := [], harness := (true, "b3b51225765baf707c90f1142c5326d9549597a7a13e416d5fae67725d5f221b"), looks := true }, kinds := [], alts := [], laidByText := true, laidKinds := [.data, .data, .data, .data, .sentinel, .sentinel, .pinned], laidTests := true, laidLooks := .later }
def ResultBackCardSaid : Prop := Claim7.holds Tryd.pinned (.plain (OpenSpec.ofChange resultBackSpec)) resultBackCard

/-- THE TIED CARD OF 'legationlaw17.ResultSames'. -/
def resultSamesCard : Claim7 := { stood := { row := resultSamesRow, standIns := [], harness := (true, "b3b51225765baf707c90f1142c5326d9549597a7a13e416d5fae67725d5f221b"), looks := true }, kinds := [], alts := [], laidByText := true, laidKinds := [.data, .data, .data, .data, .sentinel, .sentinel, .pinned], laidTests := true, laidLooks := .later }
def ResultSamesCardSaid : Prop := Claim7.holds Tryd.pinned (.plain (OpenSpec.ofChange resultSamesSpec)) resultSamesCard

/-- THE SECOND FORM's CARD OF 'legationlaw17.ResultBack'. -/
def resultBackUptoCard : Claim7 := { stood := { row := resultBackUptoRow, standIns := [], harness := (true, "b3b51225765baf707c90f1142c5326d9549597a7a13e416d5fae67725d5f221b"), looks := true }, kinds := [], alts := [], laidByText := true, laidKinds := [.data, .data, .data, .data, .sentinel, .sentinel, .pinned], laidTests := true, laidLooks := .later }
def ResultBackUptoCardSaid : Prop := Claim7.holds Tryd.pinned (.plain (OpenSpec.upto resultBackSpec)) resultBackUptoCard

/-- THE SECOND FORM's CARD OF 'legationlaw17.ResultSames'. -/
def resultSamesUptoCard : Claim7 := { stood := { row := resultSamesUptoRow, standIns := [], harness := (true, "b3b51225765baf707c90f1142c5326d9549597a7a13e416d5fae67725d5f221b"), looks := true }, kinds := [], alts := [], laidByText := true, laidKinds := [.data, .data, .data, .data, .sentinel, .sentinel, .pinned], laidTests := true, laidLooks := .later }
def ResultSamesUptoCardSaid : Prop := Claim7.holds Tryd.pinned (.plain (OpenSpec.upto resultSamesSpec)) resultSamesUptoCard
end Rows
end Go.Proofs.YtgabadlneeffkaaDoor
