/-
  Proved here: what one of the calls of 'examples' answers, by the kernel's run of the evaluator. Its condition is that the listed variable holds its table.
-/
import Derived.Test.YtaallgkomohenaaGreatDoorEd
import Derived.Test.YtaallgkomohenaaGreatDoorProg
set_option maxRecDepth 1000000
namespace Go.Proofs.YtaallgkomohenaaGreatDoor.Ex
open Go Go.Sim Go.Proofs
noncomputable def TS : Go.Sim.Call := (putE (putE (putE (putE (putE (putE noM e0) e1) e2) e3) e4) e5)
theorem k_e6 : entB Tryz.prog GV TS 1000000 e6 = true := by kernel_rfl
end Go.Proofs.YtaallgkomohenaaGreatDoor.Ex
