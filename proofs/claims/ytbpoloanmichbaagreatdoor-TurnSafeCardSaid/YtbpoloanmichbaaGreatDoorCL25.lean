/-
  Proved here: facts of the row, read off the program by the kernel. No condition.
-/
import Derived.Test.YtbpoloanmichbaaGreatDoorRows
import Derived.JoinedOf
import Derived.KernelRfl
namespace Go.Proofs.YtbpoloanmichbaaGreatDoor
open Go
set_option maxRecDepth 100000
theorem adK:(Tryz.prog.mayEnter)=true:=by kernel_rfl
end Go.Proofs.YtbpoloanmichbaaGreatDoor
