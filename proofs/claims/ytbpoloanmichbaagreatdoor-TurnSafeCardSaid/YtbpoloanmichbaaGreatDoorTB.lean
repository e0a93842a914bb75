/-
  Proved here: a part of the tie: facts of the row, read off the program by the kernel. No condition.
-/
import Derived.Test.YtbpoloanmichbaaGreatDoorTA
import Derived.KernelRfl
namespace Go.Proofs.YtbpoloanmichbaaGreatDoor
open Go
set_option maxRecDepth 100000
theorem adQ:varsNamedLaterB Tryz.prog (varsId Tryz.prog) N9=true:=by kernel_rfl
end Go.Proofs.YtbpoloanmichbaaGreatDoor
