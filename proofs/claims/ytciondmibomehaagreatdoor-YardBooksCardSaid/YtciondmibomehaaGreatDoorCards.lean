/-
  DERIVED. GIVEN WITH THE SEED: THE CARDS: each row of YtciondmibomehaaGreatDoorRows.lean that lists a variable, with what it lists TIED to the program's text (the seventh form; the later family's looks); each row that meets fmt, with fmt's text TOLD by the authors' own Lean function (tested against real Go, not proved from fmt's source: count such statements apart). THE CARD IS WHAT COUNTS. Prove the row's statement (the work); the ties are given (YtciondmibomehaaGreatDoorTie.lean); close each card by the builder's one call (the guide's Derived/Test/ToyasCard.lean, 'card_holds'). Laid BY PROGRAM, IN A SANDBOX (cutbox-door.mjs). By AI agents, Wed Nov 11 2026. No macro, syntax, notation, axiom, sorry.
-/
import Derived.Test.YtciondmibomehaaGreatDoorRows
import GoSem.ClaimSeven
namespace Go.Proofs.YtciondmibomehaaGreatDoor
namespace Rows

/-- THE TIED CARD OF 'trunnellaw10.YardBooks'. -/
def yardBooksCard : Claim7 := { stood := { row := yardBooksRow, standIns := [], harness := (true, "4ac591a16b8c53479631761d3abf339e55f4a9d87829cc24a7ff92ca5521474c"), looks := true }, kinds := [], alts := [], laidByText := true, laidKinds := [.sentinel, .sentinel, .data, .data, .data, .pinned, .data], laidTests := true, laidLooks := .later }
def YardBooksCardSaid : Prop := Claim7.holds Tryz.pinned (.plain (OpenSpec.ofChange yardBooksSpec)) yardBooksCard

/-- THE SECOND FORM's CARD OF 'trunnellaw10.YardBooks'. -/
def yardBooksUptoCard : Claim7 := { stood := { row := yardBooksUptoRow, standIns := [], harness := (true, "4ac591a16b8c53479631761d3abf339e55f4a9d87829cc24a7ff92ca5521474c"), looks := true }, kinds := [], alts := [], laidByText := true, laidKinds := [.sentinel, .sentinel, .data, .data, .data, .pinned, .data], laidTests := true, laidLooks := .later }
def YardBooksUptoCardSaid : Prop := Claim7.holds Tryz.pinned (.plain (OpenSpec.upto yardBooksSpec)) yardBooksUptoCard
end Rows
end Go.Proofs.YtciondmibomehaaGreatDoor
