/-
  DERIVED. GIVEN WITH THE SEED: THE CARDS: each row of YtfodoaiodagncaaGreatDoorRows.lean that lists a variable, with what it lists TIED to the program's text (the seventh form; the later family's looks); each row that meets fmt, with fmt's text TOLD by the authors' own Lean function (tested against real Go, not proved from fmt's source: count such statements apart). THE CARD IS WHAT COUNTS. Prove the row's statement (the work); the ties are given (YtfodoaiodagncaaGreatDoorTie.lean); close each card by the builder's one call (the guide's Derived/Test/ToyasCard.lean, 'card_holds'). Laid BY PROGRAM, IN A SANDBOX (cutbox-door.mjs). By AI agents, Wed Nov 11 2026. No macro, syntax, notation, axiom, sorry.
-/
import Derived.Test.YtfodoaiodagncaaGreatDoorRows
import GoSem.ClaimSeven
namespace Go.Proofs.YtfodoaiodagncaaGreatDoor
namespace Rows

/-- THE TIED CARD OF 'skirmishlaw41.StateValidates'. -/
def stateValidatesCard : Claim7 := { stood := { row := stateValidatesRow, standIns := [], harness := (true, "5f2c150a8ea55ae635699f8e3112d44a69797c1670c75571b391655560aa314a"), looks := true }, kinds := [], alts := [], laidByText := true, laidKinds := [.data, .data, .listed, .data, .data, .data, .pinned, .data, .sentinel, .sentinel], laidTests := true, laidLooks := .later }
def StateValidatesCardSaid : Prop := Claim7.holds Tryz.pinned (.plain (OpenSpec.ofChange stateValidatesSpec)) stateValidatesCard

/-- THE SECOND FORM's CARD OF 'skirmishlaw41.StateValidates'. -/
def stateValidatesUptoCard : Claim7 := { stood := { row := stateValidatesUptoRow, standIns := [], harness := (true, "5f2c150a8ea55ae635699f8e3112d44a69797c1670c75571b391655560aa314a"), looks := true }, kinds := [], alts := [], laidByText := true, laidKinds := [.data, .data, .listed, .data, .data, .data, .pinned, .data, .sentinel, .sentinel], laidTests := true, laidLooks := .later }
def StateValidatesUptoCardSaid : Prop := Claim7.holds Tryz.pinned (.plain (OpenSpec.upto stateValidatesSpec)) stateValidatesUptoCard
end Rows
end Go.Proofs.YtfodoaiodagncaaGreatDoor
