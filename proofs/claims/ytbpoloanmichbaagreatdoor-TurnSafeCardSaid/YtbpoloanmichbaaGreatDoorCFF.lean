/-
  Proved here: facts of the row, read off the program by the kernel. No condition.
-/
import Derived.Test.YtbpoloanmichbaaGreatDoorRows
import Derived.JoinedOf
import Derived.KernelRfl
namespace Go.Proofs.YtbpoloanmichbaaGreatDoor
open Go
set_option maxRecDepth 100000
theorem akp:Tryz.prog.funcs.all (fun f=>f.params.all fun t=>decide (t<Tryz.prog.types.size))=true:=by kernel_rfl
end Go.Proofs.YtbpoloanmichbaaGreatDoor
