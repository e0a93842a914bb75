/-
  DERIVED. GIVEN WITH THE SEED: THE CARDS: each row of YtaallgkomohenaaGreatDoorRows.lean that lists a variable, with what it lists TIED to the program's text (the seventh form; the later family's looks); each row that meets fmt, with fmt's text TOLD by the authors' own Lean function (tested against real Go, not proved from fmt's source: count such statements apart). THE CARD IS WHAT COUNTS. Prove the row's statement (the work); the ties are given (YtaallgkomohenaaGreatDoorTie.lean); close each card by the builder's one call (the guide's Derived/Test/ToyasCard.lean, 'card_holds'). Laid BY PROGRAM, IN A SANDBOX (cutbox-door.mjs). By AI agents, Wed Nov 11 2026. No macro, syntax, notation, axiom, sorry.
-/
import Derived.Test.YtaallgkomohenaaGreatDoorRows
import GoSem.ClaimSeven
namespace Go.Proofs.YtaallgkomohenaaGreatDoor
namespace Rows

/-- THE TIED CARD OF 'skirmishlaw45.SimEquals'. -/
def simEqualsCard : Claim7 := { stood := { row := simEqualsRow, standIns := [], harness := (true, "b315a52079c9f8105c9d811f700de6a2da8cdb7e2d30c3d9ddedb03a7c47f035"), looks := true }, kinds := [], alts := [], laidByText := true, laidKinds := [.data], laidTests := true, laidLooks := .later }
def SimEqualsCardSaid : Prop := Claim7.holds Tryz.pinned (.plain (OpenSpec.ofChange simEqualsSpec)) simEqualsCard

/-- THE SECOND FORM's CARD OF 'skirmishlaw45.SimEquals'. -/
def simEqualsUptoCard : Claim7 := { stood := { row := simEqualsUptoRow, standIns := [], harness := (true, "b315a52079c9f8105c9d811f700de6a2da8cdb7e2d30c3d9ddedb03a7c47f035"), looks := true }, kinds := [], alts := [], laidByText := true, laidKinds := [.data], laidTests := true, laidLooks := .later }
def SimEqualsUptoCardSaid : Prop := Claim7.holds Tryz.pinned (.plain (OpenSpec.upto simEqualsSpec)) simEqualsUptoCard
end Rows
end Go.Proofs.YtaallgkomohenaaGreatDoor
