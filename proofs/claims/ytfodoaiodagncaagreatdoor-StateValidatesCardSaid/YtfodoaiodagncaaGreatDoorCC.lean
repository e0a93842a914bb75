/-
  Proved here: facts of the row, read off the program by the kernel. No condition.
-/
import Derived.Test.YtfodoaiodagncaaGreatDoorRows
import Derived.JoinedOf
import Derived.KernelRfl
namespace Go.Proofs.YtfodoaiodagncaaGreatDoor
open Go
set_option maxRecDepth 100000
theorem adF:((Rows.stateValidatesRow.unfollowed==Tryz.prog.unfollowed 3))=true:=by kernel_rfl
end Go.Proofs.YtfodoaiodagncaaGreatDoor
