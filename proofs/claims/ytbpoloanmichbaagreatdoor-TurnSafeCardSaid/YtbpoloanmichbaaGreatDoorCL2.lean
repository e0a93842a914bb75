/-
  Proved here: facts of the row, read off the program by the kernel. No condition.
-/
import Derived.Test.YtbpoloanmichbaaGreatDoorRows
import Derived.JoinedOf
import Derived.KernelRfl
namespace Go.Proofs.YtbpoloanmichbaaGreatDoor
open Go
set_option maxRecDepth 100000
theorem aga:(mapsRowed Tryz.prog)=true:=by kernel_rfl
end Go.Proofs.YtbpoloanmichbaaGreatDoor
