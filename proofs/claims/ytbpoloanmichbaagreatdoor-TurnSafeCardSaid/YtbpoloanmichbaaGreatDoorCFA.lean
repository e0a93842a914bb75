/-
  Proved here: facts of the row, read off the program by the kernel. No condition.
-/
import Derived.Test.YtbpoloanmichbaaGreatDoorRows
import Derived.JoinedOf
import Derived.KernelRfl
set_option maxRecDepth 100000
namespace Go.Proofs.YtbpoloanmichbaaGreatDoor
open Go
theorem aki:(List.range' 0 150).all (rowFine Tryz.prog)=true:=by kernel_rfl
end Go.Proofs.YtbpoloanmichbaaGreatDoor
namespace Go.Proofs.YtbpoloanmichbaaGreatDoor
open Go
theorem akj:(List.range' 150 150).all (rowFine Tryz.prog)=true:=by kernel_rfl
end Go.Proofs.YtbpoloanmichbaaGreatDoor
namespace Go.Proofs.YtbpoloanmichbaaGreatDoor
open Go
theorem akk:(List.range' 300 150).all (rowFine Tryz.prog)=true:=by kernel_rfl
end Go.Proofs.YtbpoloanmichbaaGreatDoor
namespace Go.Proofs.YtbpoloanmichbaaGreatDoor
open Go
theorem akl:(List.range' 450 150).all (rowFine Tryz.prog)=true:=by kernel_rfl
end Go.Proofs.YtbpoloanmichbaaGreatDoor
namespace Go.Proofs.YtbpoloanmichbaaGreatDoor
open Go
theorem akm:(List.range' 600 99).all (rowFine Tryz.prog)=true:=by kernel_rfl
end Go.Proofs.YtbpoloanmichbaaGreatDoor
namespace Go.Proofs.YtbpoloanmichbaaGreatDoor
open Go
theorem akn:Tryz.prog.globals.all (fun g=>decide (g.type<Tryz.prog.types.size))=true:=by kernel_rfl
theorem ako:Tryz.prog.types.size=699:=by kernel_rfl
end Go.Proofs.YtbpoloanmichbaaGreatDoor
