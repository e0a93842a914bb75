/-
  Proved here: facts of the row, read off the program by the kernel. No condition.
-/
import Derived.Test.YtaallgkomohenaaGreatDoorCLO
namespace Go.Proofs.YtaallgkomohenaaGreatDoor
open Go
set_option maxRecDepth 100000
theorem limb12 : ((Rows.simEqualsRow.named == Tryz.prog.varsNamed 3)) = true := by
  unfold Program.varsNamed
  rw [clo]
  kernel_rfl
end Go.Proofs.YtaallgkomohenaaGreatDoor
