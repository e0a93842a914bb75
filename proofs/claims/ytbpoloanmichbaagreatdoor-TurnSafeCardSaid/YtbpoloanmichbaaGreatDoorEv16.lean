/-
  Proved here: 'examples' answers true, under the evaluator. Its condition is that the listed variable holds its table.
-/
import Derived.Test.YtbpoloanmichbaaGreatDoorEd
import Derived.Test.YtbpoloanmichbaaGreatDoorProg
import Derived.KernelRfl
set_option maxRecDepth 1000000
namespace dj
open Go Go.Sim Go.Proofs
noncomputable def TF:Go.Sim.Call:=(z5 (z5 (z5 (z5 noM e6) e9) e12) e15)
theorem akb:Gn Tryz.prog GV TF 1000000 6 [] (.bool true)=true:=by kernel_rfl
end dj
