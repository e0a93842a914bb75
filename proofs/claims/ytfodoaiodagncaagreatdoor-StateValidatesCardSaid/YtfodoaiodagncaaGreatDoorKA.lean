/-
  Proved here: facts of the row, read off the program by the kernel. No condition.
-/
import Derived.Test.YtfodoaiodagncaaGreatDoorRows
import Derived.SevenTiedAt
import Derived.KernelRfl
namespace Go.Proofs.YtfodoaiodagncaaGreatDoor
open Go
set_option maxRecDepth 100000
theorem agh:Rows.stateValidatesRow.wfByText (OpenSpec.ofChange Rows.stateValidatesSpec)=true:=by kernel_rfl
end Go.Proofs.YtfodoaiodagncaaGreatDoor
namespace Go.Proofs.YtfodoaiodagncaaGreatDoor
open Go
theorem agi:Tryz.prog.mainIs=some (true, "5f2c150a8ea55ae635699f8e3112d44a69797c1670c75571b391655560aa314a".toList):=by kernel_rfl
end Go.Proofs.YtfodoaiodagncaaGreatDoor
namespace Go.Proofs.YtfodoaiodagncaaGreatDoor
open Go
theorem agj:true=Tryz.prog.looks []:=by kernel_rfl
end Go.Proofs.YtfodoaiodagncaaGreatDoor
namespace Go.Proofs.YtfodoaiodagncaaGreatDoor
open Go
theorem agp:Tryz.prog.funcNamed "skirmish/skirmishlaw41.StateValidates" =some 3:=by kernel_rfl
theorem agq:([37].all fun u=> !Tryz.prog.wantsStandIn u)=true:=by kernel_rfl
end Go.Proofs.YtfodoaiodagncaaGreatDoor
