/-
  Proved here: facts of the row, read off the program by the kernel. No condition.
-/
import Derived.Test.YtbpoloanmichbaaGreatDoorRows
import Derived.SevenTiedAt
import Derived.KernelRfl
namespace Go.Proofs.YtbpoloanmichbaaGreatDoor
open Go
set_option maxRecDepth 100000
theorem agp:Tryz.prog.funcNamed "skirmish/skirmishlaw44.TurnSafe" =some 3:=by kernel_rfl
theorem agq:([37].all fun u=> !Tryz.prog.wantsStandIn u)=true:=by kernel_rfl
end Go.Proofs.YtbpoloanmichbaaGreatDoor
