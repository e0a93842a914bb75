/-
  Proved here: facts of the row, read off the program by the kernel. No condition.
-/
import Derived.Test.YtbpoloanmichbaaGreatDoorCLO
import Derived.Test.YtbpoloanmichbaaGreatDoorRows
import Derived.JoinedOf
import Derived.KernelRfl
namespace Go.Proofs.YtbpoloanmichbaaGreatDoor
open Go
set_option maxRecDepth 100000
theorem unf:Tryz.prog.unfollowed 3=true:=by
 unfold Program.unfollowed;rw [clo]
 kernel_rfl
end Go.Proofs.YtbpoloanmichbaaGreatDoor
namespace Go.Proofs.YtbpoloanmichbaaGreatDoor
open Go
theorem adF:((Rows.turnSafeRow.unfollowed==Tryz.prog.unfollowed 3))=true:=by
 rw [unf]; rfl
theorem adG:((Rows.turnSafeRow.recurses==Tryz.prog.recurses 3))=true:=by
 unfold Program.recurses;rw [unf]; rfl
end Go.Proofs.YtbpoloanmichbaaGreatDoor
