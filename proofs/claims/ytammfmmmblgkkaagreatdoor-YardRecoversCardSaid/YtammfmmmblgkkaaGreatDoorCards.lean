/-
  DERIVED. GIVEN WITH THE SEED: THE CARDS: each row of YtammfmmmblgkkaaGreatDoorRows.lean that lists a variable, with what it lists TIED to the program's text (the seventh form; the later family's looks); each row that meets fmt, with fmt's text TOLD by the authors' own Lean function (tested against real Go, not proved from fmt's source: count such statements apart). THE CARD IS WHAT COUNTS. Prove the row's statement (the work); the ties are given (YtammfmmmblgkkaaGreatDoorTie.lean); close each card by the builder's one call (the guide's Derived/Test/ToyasCard.lean, 'card_holds'). Laid BY PROGRAM, IN A SANDBOX (cutbox-door.mjs). By AI agents, Wed Nov 11 2026. No macro, syntax, notation, axiom, sorry.
-/
import Derived.Test.YtammfmmmblgkkaaGreatDoorRows
import GoSem.ClaimSeven
namespace Go.Proofs.YtammfmmmblgkkaaGreatDoor
namespace Rows

/-- THE TIED CARD OF 'trunnellaw10.YardRecovers'. -/
def yardRecoversCard : Claim7 := { stood := { row := yardRecoversRow, standIns := [], harness := (true, "02f6a5476f7891d63b7c9fa6bcb9103947497c457941ecc52b1392bf04189773"), looks := true }, kinds := [], alts := [], laidByText := true, laidKinds := [.sentinel, .sentinel, .data, .data, .data, .pinned, .data], laidTests := true, laidLooks := .later }
def YardRecoversCardSaid : Prop := Claim7.holds Tryz.pinned (.plain (OpenSpec.ofChange yardRecoversSpec)) yardRecoversCard

/-- THE SECOND FORM's CARD OF 'trunnellaw10.YardRecovers'. -/
def yardRecoversUptoCard : Claim7 := { stood := { row := yardRecoversUptoRow, standIns := [], harness := (true, "02f6a5476f7891d63b7c9fa6bcb9103947497c457941ecc52b1392bf04189773"), looks := true }, kinds := [], alts := [], laidByText := true, laidKinds := [.sentinel, .sentinel, .data, .data, .data, .pinned, .data], laidTests := true, laidLooks := .later }
def YardRecoversUptoCardSaid : Prop := Claim7.holds Tryz.pinned (.plain (OpenSpec.upto yardRecoversSpec)) yardRecoversUptoCard
end Rows
end Go.Proofs.YtammfmmmblgkkaaGreatDoor
