/-
  Proved here: 'examples' answers true under every draw; its condition is that the listed variable holds its table.
-/
import Derived.Test.YtaallgkomohenaaGreatDoorEv13
import Derived.Test.YtaallgkomohenaaGreatDoorEv6
import Derived.Test.YtaallgkomohenaaGreatDoorEv7
import Derived.Test.YtaallgkomohenaaGreatDoorEv8
import Derived.Test.YtaallgkomohenaaGreatDoorEv9
import Derived.Test.YtaallgkomohenaaGreatDoorEv10
import Derived.Test.YtaallgkomohenaaGreatDoorEv11
import Derived.Test.YtaallgkomohenaaGreatDoorEv12
import Derived.Test.YtaallgkomohenaaGreatDoorEv0
import Derived.Test.YtaallgkomohenaaGreatDoorEv1
import Derived.Test.YtaallgkomohenaaGreatDoorEv2
import Derived.Test.YtaallgkomohenaaGreatDoorEv3
import Derived.Test.YtaallgkomohenaaGreatDoorEv4
import Derived.Test.YtaallgkomohenaaGreatDoorEv5
import Derived.Test.YtaallgkomohenaaGreatDoorSim3
namespace Go.Proofs.YtaallgkomohenaaGreatDoor
open Go Go.Sim Ex
set_option maxRecDepth 100000
theorem names : namesB Tryz.prog = true := by kernel_rfl
theorem mixed : Tryz.prog.follows .mixedOrders = true := by kernel_rfl
theorem ok0 : CallOk Tryz.prog GV noM := noM_ok
theorem okS : CallOk Tryz.prog GV TS :=
  putE_ok (names_ok names) mixed ok0 (putE_ok (names_ok names) mixed ok0 (putE_ok (names_ok names) mixed ok0 (putE_ok (names_ok names) mixed ok0 (putE_ok (names_ok names) mixed ok0 (putE_ok (names_ok names) mixed ok0 ok0 k_e0) k_e1) k_e2) k_e3) k_e4) k_e5
theorem okF : CallOk Tryz.prog GV TF :=
  putE_ok (names_ok names) mixed ok0 (putE_ok (names_ok names) mixed ok0 (putE_ok (names_ok names) mixed ok0 (putE_ok (names_ok names) mixed ok0 (putE_ok (names_ok names) mixed ok0 (putE_ok (names_ok names) mixed ok0 (putE_ok (names_ok names) mixed okS ok0 k_e6) k_e7) k_e8) k_e9) k_e10) k_e11) k_e12
theorem examplesOk {w : World} (hG : GlobIn GV w) : Calls Tryz.prog 6 #[] w fun e w' => e = .returned (.bool true) ∧ Go.RowKit.Below w.heap.size w w' :=
  calls_of_yieldsM (names_ok names) mixed okF k_fin hG
end Go.Proofs.YtaallgkomohenaaGreatDoor
