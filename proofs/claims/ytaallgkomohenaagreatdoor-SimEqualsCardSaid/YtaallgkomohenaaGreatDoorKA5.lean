/-
  Proved here: facts of the row, read off the program by the kernel. No condition.
-/
import Derived.Test.YtaallgkomohenaaGreatDoorRows
import Derived.SevenTiedAt
namespace Go.Proofs.YtaallgkomohenaaGreatDoor
open Go
set_option maxRecDepth 100000
theorem card5 : Tryz.prog.funcNamed "skirmish/skirmishlaw45.SimEquals" = some 3 := by kernel_rfl
end Go.Proofs.YtaallgkomohenaaGreatDoor
