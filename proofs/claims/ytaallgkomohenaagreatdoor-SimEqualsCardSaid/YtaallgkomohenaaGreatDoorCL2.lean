/-
  Proved here: facts of the row, read off the program by the kernel. No condition.
-/
import Derived.Test.YtaallgkomohenaaGreatDoorRows
import Derived.JoinedOf
import Derived.KernelRfl
namespace Go.Proofs.YtaallgkomohenaaGreatDoor
open Go
set_option maxRecDepth 100000
theorem limb2 : (mapsRowed Tryz.prog) = true := by kernel_rfl
end Go.Proofs.YtaallgkomohenaaGreatDoor
