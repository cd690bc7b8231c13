/-
  DERIVED. GIVEN WITH THE SEED: THE CARDS: each row of YtgabadlneeffkaaGreatDoorRows.lean that lists a variable, with what it lists TIED to the program's text (the seventh form; the later family's looks); each row that meets fmt, with fmt's text TOLD by the authors' own Lean function (tested against real Go, not proved from fmt's source: count such statements apart). THE CARD IS WHAT COUNTS. Prove the row's statement (the work); the ties are given (YtgabadlneeffkaaGreatDoorTie.lean); close each card by the builder's one call (the guide's Derived/Test/ToyasCard.lean, 'card_holds'). Laid BY PROGRAM, IN A SANDBOX (cutbox-door.mjs). By AI agents, Wed Nov 11 2026. No macro, syntax, notation, axiom, sorry.
-/
import Derived.Test.YtgabadlneeffkaaGreatDoorRows
import GoSem.ClaimSeven
namespace Go.Proofs.YtgabadlneeffkaaGreatDoor
namespace Rows

/-- THE TIED CARD OF 'legationlaw17.ResultChecks'. -/
def resultChecksCard : Claim7 := { stood := { row := resultChecksRow, standIns := [], harness := (true, "043bf1b279b465ff551f73e1ef572096177ada4263fa11ec55a96173bb3a0e18"), looks := true }, kinds := [], alts := [], laidByText := true, laidKinds := [.data, .data, .data, .data, .sentinel, .sentinel, .pinned], laidTests := true, laidLooks := .later }
def ResultChecksCardSaid : Prop := Claim7.holds Tryz.pinned (.plain (OpenSpec.ofChange resultChecksSpec)) resultChecksCard

/-- THE TIED CARD OF 'legationlaw17.ResultPuts'. -/
def resultPutsCard : Claim7 := { stood := { row := resultPutsRow, standIns := [], harness := (true, "043bf1b279b465ff551f73e1ef572096177ada4263fa11ec55a96173bb3a0e18"), looks := true }, kinds := [], alts := [], laidByText := true, laidKinds := [.data, .data, .data, .data, .sentinel, .sentinel, .pinned], laidTests := true, laidLooks := .later }
def ResultPutsCardSaid : Prop := Claim7.holds Tryz.pinned (.plain (OpenSpec.ofChange resultPutsSpec)) resultPutsCard

/-- THE TIED CARD OF 'legationlaw17.ResultGets'. -/
def resultGetsCard : Claim7 := { stood := { row := resultGetsRow, standIns := [], harness := (true, "043bf1b279b465ff551f73e1ef572096177ada4263fa11ec55a96173bb3a0e18"), looks := true }, kinds := [], alts := [], laidByText := true, laidKinds := [.data, .data, .data, .data, .sentinel, .sentinel, .pinned], laidTests := true, laidLooks := .later }
def ResultGetsCardSaid : Prop := Claim7.holds Tryz.pinned (.plain (OpenSpec.ofChange resultGetsSpec)) resultGetsCard

/-- THE SECOND FORM's CARD OF 'legationlaw17.ResultChecks'. -/
def resultChecksUptoCard : Claim7 := { stood := { row := resultChecksUptoRow, standIns := [], harness := (true, "043bf1b279b465ff551f73e1ef572096177ada4263fa11ec55a96173bb3a0e18"), looks := true }, kinds := [], alts := [], laidByText := true, laidKinds := [.data, .data, .data, .data, .sentinel, .sentinel, .pinned], laidTests := true, laidLooks := .later }
def ResultChecksUptoCardSaid : Prop := Claim7.holds Tryz.pinned (.plain (OpenSpec.upto resultChecksSpec)) resultChecksUptoCard

/-- THE SECOND FORM's CARD OF 'legationlaw17.ResultPuts'. -/
def resultPutsUptoCard : Claim7 := { stood := { row := resultPutsUptoRow, standIns := [], harness := (true, "043bf1b279b465ff551f73e1ef572096177ada4263fa11ec55a96173bb3a0e18"), looks := true }, kinds := [], alts := [], laidByText := true, laidKinds := [.data, .data, .data, .data, .sentinel, .sentinel, .pinned], laidTests := true, laidLooks := .later }
def ResultPutsUptoCardSaid : Prop := Claim7.holds Tryz.pinned (.plain (OpenSpec.upto resultPutsSpec)) resultPutsUptoCard

/-- THE SECOND FORM's CARD OF 'legationlaw17.ResultGets'. -/
def resultGetsUptoCard : Claim7 := { stood := { row := resultGetsUptoRow, standIns := [], harness := (true, "043bf1b279b465ff551f73e1ef572096177ada4263fa11ec55a96173bb3a0e18"), looks := true }, kinds := [], alts := [], laidByText := true, laidKinds := [.data, .data, .data, .data, .sentinel, .sentinel, .pinned], laidTests := true, laidLooks := .later }
def ResultGetsUptoCardSaid : Prop := Claim7.holds Tryz.pinned (.plain (OpenSpec.upto resultGetsSpec)) resultGetsUptoCard
end Rows
end Go.Proofs.YtgabadlneeffkaaGreatDoor
