/-
  Proved here: the tie of the row: what it lists is what the program's text lays. No condition.
-/
import Derived.Test.YtaallgkomohenaaGreatDoorTA
import Derived.Test.YtaallgkomohenaaGreatDoorTB
import Derived.Test.YtaallgkomohenaaGreatDoorTC
import Derived.Test.YtaallgkomohenaaGreatDoorTD
import Derived.Test.YtaallgkomohenaaGreatDoorTE
namespace Go.Proofs.YtaallgkomohenaaGreatDoor
open Go
theorem tieOwn : Tryz.prog.laidByTextLater [("skirmish/terrain.passable", Rows.laid_skirmish_terrain_passable)] [.data] true :=
  Program.laidByTextLater_by_run 400 8 tie_hw tie_hw2 tie_hr tie_hk tie_hg tie_hn tie_hd tie_h1 tie_h2 (by kernel_rfl)
theorem rowTie : Rows.simEqualsRow.laidByTextAt .later Tryz.pinned [.data] true :=
  OpenClaim.laidByTextAt_later rfl rfl tieOwn tie_a
end Go.Proofs.YtaallgkomohenaaGreatDoor
