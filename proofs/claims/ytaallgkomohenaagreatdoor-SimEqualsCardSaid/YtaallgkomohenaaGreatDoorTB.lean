/-
  Proved here: a part of the tie: facts of the row, read off the program by the kernel. No condition.
-/
import Derived.Test.YtaallgkomohenaaGreatDoorRows
import Derived.LaidByTextLater
import Derived.SevenTiedAt
import Derived.KernelRfl
namespace Go.Proofs.YtaallgkomohenaaGreatDoor
open Go
set_option maxRecDepth 100000
theorem tie_hn : varsNamedLaterB Tryz.prog (varsId Tryz.prog) [("skirmish/terrain.passable", Rows.laid_skirmish_terrain_passable)] = true := by kernel_rfl
end Go.Proofs.YtaallgkomohenaaGreatDoor
