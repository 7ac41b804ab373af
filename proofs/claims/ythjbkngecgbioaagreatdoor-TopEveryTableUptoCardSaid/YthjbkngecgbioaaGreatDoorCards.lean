/-
  DERIVED. GIVEN WITH THE SEED: THE CARDS: each row of YthjbkngecgbioaaGreatDoorRows.lean that lists a variable, with what it lists TIED to the program's text (the seventh form; the later family's looks); each row that meets fmt, with fmt's text TOLD by the authors' own Lean function (tested against real Go, not proved from fmt's source: count such statements apart). THE CARD IS WHAT COUNTS. Prove the row's statement (the work); the ties are given (YthjbkngecgbioaaGreatDoorTie.lean); close each card by the builder's one call (the guide's Derived/Test/ToyasCard.lean, 'card_holds'). Laid BY PROGRAM, IN A SANDBOX (cutbox-door.mjs). By AI agents, Wed Nov 11 2026. No macro, syntax, notation, axiom, sorry.
-/
import Derived.Test.YthjbkngecgbioaaGreatDoorRows
import GoSem.ClaimSeven
namespace Go.Proofs.YthjbkngecgbioaaGreatDoor
namespace Rows

/-- THE TIED CARD OF 'sticklertop.TopEveryTable'. -/
def topEveryTableCard : Claim7 := { stood := { row := topEveryTableRow, standIns := [], harness := (true, "69a7bf57c18f3b1160987eb85d3d0280bce2b4ea7172b4d767c689eac2a6b7b1"), looks := false }, kinds := [], alts := [], laidByText := true, laidKinds := [.data, .data, .pinned], laidTests := true, laidLooks := .later }
def TopEveryTableCardSaid : Prop := Claim7.holds Tryz.pinned (.plain (OpenSpec.ofChange topEveryTableSpec)) topEveryTableCard

/-- THE SECOND FORM's CARD OF 'sticklertop.TopEveryTable'. -/
def topEveryTableUptoCard : Claim7 := { stood := { row := topEveryTableUptoRow, standIns := [], harness := (true, "69a7bf57c18f3b1160987eb85d3d0280bce2b4ea7172b4d767c689eac2a6b7b1"), looks := false }, kinds := [], alts := [], laidByText := true, laidKinds := [.data, .data, .pinned], laidTests := true, laidLooks := .later }
def TopEveryTableUptoCardSaid : Prop := Claim7.holds Tryz.pinned (.plain (OpenSpec.upto topEveryTableSpec)) topEveryTableUptoCard
end Rows
end Go.Proofs.YthjbkngecgbioaaGreatDoor
