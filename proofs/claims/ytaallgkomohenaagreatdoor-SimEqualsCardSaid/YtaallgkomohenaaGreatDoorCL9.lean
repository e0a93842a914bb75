/-
  Proved here: facts of the row, read off the program by the kernel. No condition.
-/
import Derived.Test.YtaallgkomohenaaGreatDoorCLO
namespace Go.Proofs.YtaallgkomohenaaGreatDoor
open Go
set_option maxRecDepth 100000
theorem limb9 : ((Rows.simEqualsRow.inPlace == Tryz.prog.inPlace 3)) = true := by
  unfold Program.inPlace
  rw [clo]
  kernel_rfl
end Go.Proofs.YtaallgkomohenaaGreatDoor
