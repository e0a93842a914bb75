/-
  Proved here: what one of the calls of 'examples' answers, by the kernel's run of the evaluator. Its condition is that the listed variable holds its table.
-/
import Derived.Test.YtaallgkomohenaaGreatDoorEd
import Derived.Test.YtaallgkomohenaaGreatDoorProg
set_option maxRecDepth 1000000
namespace Go.Proofs.YtaallgkomohenaaGreatDoor.Ex
open Go Go.Sim Go.Proofs
theorem k_e9 : entB Tryz.prog GV noM 1000000 e9 = true := by kernel_rfl
end Go.Proofs.YtaallgkomohenaaGreatDoor.Ex
