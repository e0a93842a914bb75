/-
  Proved here: the tied card of SimEquals: for every two lists the law answers true, and what the row lists is what the program's text lays. No further condition.
-/
import Derived.Test.YtaallgkomohenaaGreatDoorT1
import Derived.Test.YtaallgkomohenaaGreatDoorCards
import Derived.Test.YtaallgkomohenaaGreatDoorLaw
import Derived.Test.YtaallgkomohenaaGreatDoorKA
import Derived.Test.YtaallgkomohenaaGreatDoorKA5
import Derived.SevenTiedAt
namespace Go.Proofs.YtaallgkomohenaaGreatDoor
open Go
set_option maxRecDepth 100000
theorem simEquals_holds : Rows.SimEqualsCardSaid :=
  Claim7.holds_tied_plain_at .later [] [.data] true (true, "b315a52079c9f8105c9d811f700de6a2da8cdb7e2d30c3d9ddedb03a7c47f035") true over (fun _ h => by cases h) card1 (fun _ h => by cases h) rowTie rfl ⟨rfl, rfl⟩ card2 rfl
    (fun f fn hf hfn => by
      obtain rfl : f = 3 := Option.some.inj (card5.symm.trans hf) |>.symm
      obtain rfl : fn = Tryz.f3 := (Option.some.inj (Tryz.func3.symm.trans hfn)).symm
      exact ⟨card3, fun j t ht => by
        rw [Tryz.params3] at ht
        have hm : t ∈ [22] := by simpa using Array.mem_of_getElem? ht
        exact (show Tryz.prog.wantsStandIn t = false by simpa using List.all_eq_true.1 card6 t hm)⟩)
    card4
#print axioms simEquals_holds
end Go.Proofs.YtaallgkomohenaaGreatDoor
