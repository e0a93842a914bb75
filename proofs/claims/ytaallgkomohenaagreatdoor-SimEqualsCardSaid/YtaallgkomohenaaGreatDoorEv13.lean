/-
  Proved here: 'examples' answers true, under the evaluator. Its condition is that the listed variable holds its table.
-/
import Derived.Test.YtaallgkomohenaaGreatDoorEd
import Derived.Test.YtaallgkomohenaaGreatDoorProg
set_option maxRecDepth 1000000
namespace Go.Proofs.YtaallgkomohenaaGreatDoor.Ex
open Go Go.Sim Go.Proofs
noncomputable def TF : Go.Sim.Call := (putE (putE (putE (putE (putE (putE (putE noM e6) e7) e8) e9) e10) e11) e12)
theorem k_fin : yieldsM Tryz.prog GV TF 1000000 6 [] (.bool true) = true := by kernel_rfl
end Go.Proofs.YtaallgkomohenaaGreatDoor.Ex
