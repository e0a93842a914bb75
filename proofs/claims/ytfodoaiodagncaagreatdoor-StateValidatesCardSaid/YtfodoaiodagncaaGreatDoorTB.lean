/-
  Proved here: a part of the tie: facts of the row, read off the program by the kernel. No condition.
-/
import Derived.Test.YtfodoaiodagncaaGreatDoorTA
import Derived.KernelRfl
namespace Go.Proofs.YtfodoaiodagncaaGreatDoor
open Go
set_option maxRecDepth 100000
theorem adQ:varsNamedLaterB Tryz.prog (varsId Tryz.prog) N9=true:=by kernel_rfl
end Go.Proofs.YtfodoaiodagncaaGreatDoor
namespace Go.Proofs.YtfodoaiodagncaaGreatDoor
open Go
theorem adR: ∀ os tape,varsDone Tryz.prog 400 (varsId Tryz.prog) os tape=true:=fun _ _=>by kernel_rfl
end Go.Proofs.YtfodoaiodagncaaGreatDoor
