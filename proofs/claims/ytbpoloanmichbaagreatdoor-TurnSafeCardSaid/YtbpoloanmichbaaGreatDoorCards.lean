/-
  DERIVED. GIVEN WITH THE SEED: THE CARDS: each row of YtbpoloanmichbaaGreatDoorRows.lean that lists a variable, with what it lists TIED to the program's text (the seventh form; the later family's looks); each row that meets fmt, with fmt's text TOLD by the authors' own Lean function (tested against real Go, not proved from fmt's source: count such statements apart). THE CARD IS WHAT COUNTS. Prove the row's statement (the work); the ties are given (YtbpoloanmichbaaGreatDoorTie.lean); close each card by the builder's one call (the guide's Derived/Test/ToyasCard.lean, 'card_holds'). Laid BY PROGRAM, IN A SANDBOX (cutbox-door.mjs). By AI agents, Wed Nov 11 2026. No macro, syntax, notation, axiom, sorry.
-/
import Derived.Test.YtbpoloanmichbaaGreatDoorRows
import GoSem.ClaimSeven
namespace Go.Proofs.YtbpoloanmichbaaGreatDoor
namespace Rows

/-- THE TIED CARD OF 'skirmishlaw44.TurnSafe'. -/
def turnSafeCard : Claim7 := { stood := { row := turnSafeRow, standIns := [], harness := (true, "d72c486b2573f409b8317c478deb9aef70a3a421e4b49c5a08951f3056e62a31"), looks := true }, kinds := [], alts := [], laidByText := true, laidKinds := [.data], laidTests := true, laidLooks := .later }
def TurnSafeCardSaid : Prop := Claim7.holds Tryz.pinned (.plain (OpenSpec.ofChange turnSafeSpec)) turnSafeCard

/-- THE SECOND FORM's CARD OF 'skirmishlaw44.TurnSafe'. -/
def turnSafeUptoCard : Claim7 := { stood := { row := turnSafeUptoRow, standIns := [], harness := (true, "d72c486b2573f409b8317c478deb9aef70a3a421e4b49c5a08951f3056e62a31"), looks := true }, kinds := [], alts := [], laidByText := true, laidKinds := [.data], laidTests := true, laidLooks := .later }
def TurnSafeUptoCardSaid : Prop := Claim7.holds Tryz.pinned (.plain (OpenSpec.upto turnSafeSpec)) turnSafeUptoCard
end Rows
end Go.Proofs.YtbpoloanmichbaaGreatDoor
