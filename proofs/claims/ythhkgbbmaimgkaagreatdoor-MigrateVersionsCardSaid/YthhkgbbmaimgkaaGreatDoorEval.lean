/-
  Proved here: 'awake' answers true under every draw, shown by the kernel's run of the evaluator; its condition is that the variable 'keeps' holds its table.
-/
import Derived.Test.YthhkgbbmaimgkaaGreatDoorSim2
import Derived.Test.YthhkgbbmaimgkaaGreatDoorProg
namespace Go.Proofs.YthhkgbbmaimgkaaGreatDoor
open Go Go.Sim
set_option maxRecDepth 100000
def keepsCells : List Value := [.bool false, .bool false, .bool false, .bool false, .bool false, .bool false, .bool true, .bool true, .bool false, .bool true, .bool true, .bool true]
def GV : Nat → Option (List Value) := lookG [(0, keepsCells)]
theorem names : namesB Tryz.prog = true := by kernel_rfl
theorem mixed : Tryz.prog.follows .mixedOrders = true := by kernel_rfl
theorem awakeRuns : yieldsB Tryz.prog GV noTab 1000000 4 [] (.bool true) = true := by kernel_rfl
theorem awakeOk {w : World} (hG : GlobIn GV w) : Calls Tryz.prog 4 #[] w fun e w' => e = .returned (.bool true) ∧ Go.RowKit.Below w.heap.size w w' :=
  calls_of_yields (names_ok names) mixed noTab_ok awakeRuns hG
end Go.Proofs.YthhkgbbmaimgkaaGreatDoor
