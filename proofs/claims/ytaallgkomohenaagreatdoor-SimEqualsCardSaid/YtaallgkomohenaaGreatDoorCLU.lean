/-
  Proved here: facts of the row, read off the program by the kernel. No condition.
-/
import Derived.Test.YtaallgkomohenaaGreatDoorCLO
namespace Go.Proofs.YtaallgkomohenaaGreatDoor
open Go
set_option maxRecDepth 100000
theorem unf : Tryz.prog.unfollowed 3 = true := by
  unfold Program.unfollowed
  rw [clo]
  kernel_rfl
end Go.Proofs.YtaallgkomohenaaGreatDoor
namespace Go.Proofs.YtaallgkomohenaaGreatDoor
open Go
theorem limb10 : ((Rows.simEqualsRow.unfollowed == Tryz.prog.unfollowed 3)) = true := by
  rw [unf]; rfl
theorem limb11 : ((Rows.simEqualsRow.recurses == Tryz.prog.recurses 3)) = true := by
  unfold Program.recurses
  rw [unf]; rfl
end Go.Proofs.YtaallgkomohenaaGreatDoor
