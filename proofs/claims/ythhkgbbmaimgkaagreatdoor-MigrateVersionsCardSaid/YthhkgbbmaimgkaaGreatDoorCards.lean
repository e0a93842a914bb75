/-
  DERIVED. GIVEN WITH THE SEED: THE CARDS: each row of YthhkgbbmaimgkaaGreatDoorRows.lean that lists a variable, with what it lists TIED to the program's text (the seventh form; the later family's looks); each row that meets fmt, with fmt's text TOLD by the authors' own Lean function (tested against real Go, not proved from fmt's source: count such statements apart). THE CARD IS WHAT COUNTS. Prove the row's statement (the work); the ties are given (YthhkgbbmaimgkaaGreatDoorTie.lean); close each card by the builder's one call (the guide's Derived/Test/ToyasCard.lean, 'card_holds'). Laid BY PROGRAM, IN A SANDBOX (cutbox-door.mjs). By AI agents, Wed Nov 11 2026. No macro, syntax, notation, axiom, sorry.
-/
import Derived.Test.YthhkgbbmaimgkaaGreatDoorRows
import GoSem.ClaimSeven
namespace Go.Proofs.YthhkgbbmaimgkaaGreatDoor
namespace Rows

/-- THE TIED CARD OF 'skirmishlaw42.MigrateVersions'. -/
def migrateVersionsCard : Claim7 := { stood := { row := migrateVersionsRow, standIns := [], harness := (true, "227ae44f91057dcc981b87112439a5e074ef03e9a968c1a09a6b327ccf3a0f7b"), looks := true }, kinds := [], alts := [], laidByText := true, laidKinds := [.data, .data, .data, .data, .sentinel, .sentinel, .listed, .data, .data, .data, .pinned], laidTests := true, laidLooks := .later }
def MigrateVersionsCardSaid : Prop := Claim7.holds Tryz.pinned (.plain (OpenSpec.ofChange migrateVersionsSpec)) migrateVersionsCard

/-- THE SECOND FORM's CARD OF 'skirmishlaw42.MigrateVersions'. -/
def migrateVersionsUptoCard : Claim7 := { stood := { row := migrateVersionsUptoRow, standIns := [], harness := (true, "227ae44f91057dcc981b87112439a5e074ef03e9a968c1a09a6b327ccf3a0f7b"), looks := true }, kinds := [], alts := [], laidByText := true, laidKinds := [.data, .data, .data, .data, .sentinel, .sentinel, .listed, .data, .data, .data, .pinned], laidTests := true, laidLooks := .later }
def MigrateVersionsUptoCardSaid : Prop := Claim7.holds Tryz.pinned (.plain (OpenSpec.upto migrateVersionsSpec)) migrateVersionsUptoCard
end Rows
end Go.Proofs.YthhkgbbmaimgkaaGreatDoor
