/-
  DERIVED. GIVEN WITH THE SEED: THE CARDS: each row of YtlkpdfbmklanoaaDoorRows.lean that lists a variable, with what it lists TIED to the program's text (the seventh form; the later family's looks); each row that meets fmt, with fmt's text TOLD by the authors' own Lean function (tested against real Go, not proved from fmt's source: count such statements apart). THE CARD IS WHAT COUNTS. Prove the row's statement (the work); the ties are given (YtlkpdfbmklanoaaDoorTie.lean); close each card by the builder's one call (the guide's Derived/Test/ToyasCard.lean, 'card_holds'). Laid BY PROGRAM, IN A SANDBOX (cutbox-door.mjs). By AI agents, Wed Nov 11 2026. No macro, syntax, notation, axiom, sorry.
-/
import Derived.Test.YtlkpdfbmklanoaaDoorRows
import GoSem.ClaimSeven
namespace Go.Proofs.YtlkpdfbmklanoaaDoor
namespace Rows

/-- THE TIED CARD OF 'legationlaw16.RequestPuts'. -/
def requestPutsCard : Claim7 := { stood := { row := requestPutsRow, standIns := [], harness := (true, "939b1e7ee19f50586810688ad7f44d9416a65bdb399b86e9036bc8ef61079805"), looks := true }, kinds := [], alts := [], laidByText := true, laidKinds := [.data, .data, .data, .data, .sentinel, .sentinel, .pinned], laidTests := true, laidLooks := .later }
def RequestPutsCardSaid : Prop := Claim7.holds Tryd.pinned (.plain (OpenSpec.ofChange requestPutsSpec)) requestPutsCard

/-- THE TIED CARD OF 'legationlaw16.RequestGets'. -/
def requestGetsCard : Claim7 := { stood := { row := requestGetsRow, standIns := [], harness := (true, "939b1e7ee19f50586810688ad7f44d9416a65bdb399b86e9036bc8ef61079805"), looks := true }, kinds := [], alts := [], laidByText := true, laidKinds := [.data, .data, .data, .data, .sentinel, .sentinel, .pinned], laidTests := true, laidLooks := .later }
def RequestGetsCardSaid : Prop := Claim7.holds Tryd.pinned (.plain (OpenSpec.ofChange requestGetsSpec)) requestGetsCard

/-- THE TIED CARD OF 'legationlaw16.RequestBack'. -/
def requestBackCard : Claim7 := { stood := { row := requestBackRow, standIns := [], harness := (true, "939b1e7ee19f50586810688ad7f44d9416a65bdb399b86e9036bc8ef61079805"), looks := true }, kinds := [], alts := [], laidByText := true, laidKinds := [.data, .data, .data, .data, .sentinel, .sentinel, .pinned], laidTests := true, laidLooks := .later }
def RequestBackCardSaid : Prop := Claim7.holds Tryd.pinned (.plain (OpenSpec.ofChange requestBackSpec)) requestBackCard

/-- THE SECOND FORM's CARD OF 'legationlaw16.RequestPuts'. -/
def requestPutsUptoCard : Claim7 := { stood := { row := requestPutsUptoRow, standIns := [], harness := (true, "939b1e7ee19f50586810688ad7f44d9416a65bdb399b86e9036bc8ef61079805"), looks := true }, kinds := [], alts := [], laidByText := true, laidKinds := [.data, .data, .data, .data, .sentinel, .sentinel, .pinned], laidTests := true, laidLooks := .later }
def RequestPutsUptoCardSaid : Prop := Claim7.holds Tryd.pinned (.plain (OpenSpec.upto requestPutsSpec)) requestPutsUptoCard

/-- THE SECOND FORM's CARD OF 'legationlaw16.RequestGets'. -/
def requestGetsUptoCard : Claim7 := { stood := { row := requestGetsUptoRow, standIns := [], harness := (true, "939b1e7ee19f50586810688ad7f44d9416a65bdb399b86e9036bc8ef61079805"), looks := true }, kinds := [], alts := [], laidByText := true, laidKinds := [.data, .data, .data, .data, .sentinel, .sentinel, .pinned], laidTests := true, laidLooks := .later }
def RequestGetsUptoCardSaid : Prop := Claim7.holds Tryd.pinned (.plain (OpenSpec.upto requestGetsSpec)) requestGetsUptoCard

/-- THE SECOND FORM's CARD OF 'legationlaw16.RequestBack'. -/
def requestBackUptoCard : Claim7 := { stood := { row := requestBackUptoRow, standIns := [], harness := (true, "939b1e7ee19f50586810688ad7f44d9416a65bdb399b86e9036bc8ef61079805"), looks := true }, kinds := [], alts := [], laidByText := true, laidKinds := [.data, .data, .data, .data, .sentinel, .sentinel, .pinned], laidTests := true, laidLooks := .later }
def RequestBackUptoCardSaid : Prop := Claim7.holds Tryd.pinned (.plain (OpenSpec.upto requestBackSpec)) requestBackUptoCard
end Rows
end Go.Proofs.YtlkpdfbmklanoaaDoor
