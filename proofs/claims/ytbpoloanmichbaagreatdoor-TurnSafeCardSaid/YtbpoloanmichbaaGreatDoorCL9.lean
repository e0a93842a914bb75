/-
  Proved here: facts of the row, read off the program by the kernel. No condition.
-/
import Derived.Test.YtbpoloanmichbaaGreatDoorRows
import Derived.JoinedOf
import Derived.KernelRfl
import Derived.Test.YtbpoloanmichbaaGreatDoorCLO
namespace Go.Proofs.YtbpoloanmichbaaGreatDoor
open Go
set_option maxRecDepth 100000
theorem agb:((Rows.turnSafeRow.inPlace==Tryz.prog.inPlace 3))=true:=by
 unfold Program.inPlace;rw [clo]
 kernel_rfl
end Go.Proofs.YtbpoloanmichbaaGreatDoor
