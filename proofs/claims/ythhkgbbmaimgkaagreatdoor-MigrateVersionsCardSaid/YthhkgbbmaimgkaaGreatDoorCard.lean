/-
  Proved here: the tied card of MigrateVersions: for every text the law answers true, and what the row lists is what the program's text lays. No further condition.
-/
import Derived.Test.YthhkgbbmaimgkaaGreatDoorTie
import Derived.Test.YthhkgbbmaimgkaaGreatDoorCards
import Derived.Test.YthhkgbbmaimgkaaGreatDoorLaw
import Derived.SevenTiedAt
namespace Go.Proofs.YthhkgbbmaimgkaaGreatDoor
open Go
set_option maxRecDepth 100000
theorem card1 : Rows.migrateVersionsRow.wfByText (OpenSpec.ofChange Rows.migrateVersionsSpec) = true := by kernel_rfl
theorem card2 : Tryz.prog.mainIs = some (true, "227ae44f91057dcc981b87112439a5e074ef03e9a968c1a09a6b327ccf3a0f7b".toList) := by kernel_rfl
theorem card3 : true = Tryz.prog.looks [] := by kernel_rfl
theorem card4 : false = Rows.migrateVersionsRow.goesBy Tryz.prog := by kernel_rfl
theorem card5 : Tryz.prog.funcNamed "skirmish/skirmishlaw42.MigrateVersions" = some 3 := by kernel_rfl
theorem card6 : ([9].all fun u => !Tryz.prog.wantsStandIn u) = true := by kernel_rfl
theorem migrateVersions_holds : Rows.MigrateVersionsCardSaid :=
  Claim7.holds_tied_plain_at .later [] [.data, .data, .data, .data, .sentinel, .sentinel, .listed, .data, .data, .data, .pinned] true (true, "227ae44f91057dcc981b87112439a5e074ef03e9a968c1a09a6b327ccf3a0f7b") true over (fun _ h => by cases h) card1 (fun _ h => by cases h) migrateVersions_row_tie rfl ⟨rfl, rfl⟩ card2 rfl
    (fun f fn hf hfn => by
      obtain rfl : f = 3 := Option.some.inj (card5.symm.trans hf) |>.symm
      obtain rfl : fn = Tryz.f3 := (Option.some.inj (Tryz.func3.symm.trans hfn)).symm
      exact ⟨card3, fun j t ht => by
        rw [Tryz.params3] at ht
        have hm : t ∈ [9] := by simpa using Array.mem_of_getElem? ht
        exact (show Tryz.prog.wantsStandIn t = false by simpa using List.all_eq_true.1 card6 t hm)⟩)
    card4
#print axioms migrateVersions_holds
end Go.Proofs.YthhkgbbmaimgkaaGreatDoor
