/-
  Proved here: a part of the tie: facts of the row, read off the program by the kernel. No condition.
-/
import Derived.Test.YtbpoloanmichbaaGreatDoorTA
import Derived.KernelRfl
namespace Go.Proofs.YtbpoloanmichbaaGreatDoor
open Go
set_option maxRecDepth 100000
theorem adR: ∀ os tape,varsDone Tryz.prog 400 (varsId Tryz.prog) os tape=true:=fun _ _=>by kernel_rfl
end Go.Proofs.YtbpoloanmichbaaGreatDoor
