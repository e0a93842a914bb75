/-
  Proved here: a part of the tie: facts of the row, read off the program by the kernel. No condition.
-/
import Derived.Test.YtaallgkomohenaaGreatDoorRows
import Derived.LaidByTextLater
import Derived.SevenTiedAt
import Derived.KernelRfl
namespace Go.Proofs.YtaallgkomohenaaGreatDoor
open Go
set_option maxRecDepth 100000
theorem tie_h1 : ∀ os tape, (DataW.laidRun Tryz.prog (varsWorld Tryz.prog 400 (varsId Tryz.prog) os tape).memory 8 (([("skirmish/terrain.passable", Rows.laid_skirmish_terrain_passable)] : List (String × DataW Unit)).map (·.1))).map (·.1) = some [("skirmish/terrain.passable", Rows.laid_skirmish_terrain_passable)] := fun _ _ => by kernel_rfl
end Go.Proofs.YtaallgkomohenaaGreatDoor
