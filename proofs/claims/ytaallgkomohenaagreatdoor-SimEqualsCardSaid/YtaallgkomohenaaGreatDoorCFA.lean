/-
  Proved here: facts of the row, read off the program by the kernel. No condition.
-/
import Derived.Test.YtaallgkomohenaaGreatDoorRows
import Derived.JoinedOf
import Derived.KernelRfl
namespace Go.Proofs.YtaallgkomohenaaGreatDoor
open Go
set_option maxRecDepth 100000
theorem fine0 : (List.range' 0 150).all (rowFine Tryz.prog) = true := by kernel_rfl
end Go.Proofs.YtaallgkomohenaaGreatDoor
namespace Go.Proofs.YtaallgkomohenaaGreatDoor
open Go
set_option maxRecDepth 100000
theorem fine1 : (List.range' 150 150).all (rowFine Tryz.prog) = true := by kernel_rfl
end Go.Proofs.YtaallgkomohenaaGreatDoor
namespace Go.Proofs.YtaallgkomohenaaGreatDoor
open Go
set_option maxRecDepth 100000
theorem fine2 : (List.range' 300 150).all (rowFine Tryz.prog) = true := by kernel_rfl
end Go.Proofs.YtaallgkomohenaaGreatDoor
namespace Go.Proofs.YtaallgkomohenaaGreatDoor
open Go
set_option maxRecDepth 100000
theorem fine3 : (List.range' 450 150).all (rowFine Tryz.prog) = true := by kernel_rfl
end Go.Proofs.YtaallgkomohenaaGreatDoor
namespace Go.Proofs.YtaallgkomohenaaGreatDoor
open Go
set_option maxRecDepth 100000
theorem fine4 : (List.range' 600 108).all (rowFine Tryz.prog) = true := by kernel_rfl
end Go.Proofs.YtaallgkomohenaaGreatDoor
namespace Go.Proofs.YtaallgkomohenaaGreatDoor
open Go
set_option maxRecDepth 100000
theorem fineG : Tryz.prog.globals.all (fun g => decide (g.type < Tryz.prog.types.size)) = true := by kernel_rfl
theorem fineN : Tryz.prog.types.size = 708 := by kernel_rfl
end Go.Proofs.YtaallgkomohenaaGreatDoor
