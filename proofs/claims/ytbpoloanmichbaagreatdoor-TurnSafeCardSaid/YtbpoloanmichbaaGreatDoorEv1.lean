/-
  Proved here: what some of the calls of 'examples' answer, by the kernel's run of the evaluator. Its condition is that the listed variable holds its table.
-/
import Derived.Test.YtbpoloanmichbaaGreatDoorEd
import Derived.Test.YtbpoloanmichbaaGreatDoorProg
import Derived.KernelRfl
set_option maxRecDepth 1000000
namespace dj
open Go Go.Sim Go.Proofs
theorem akx:z9 Tryz.prog GV noM 1000000 e1=true:=by kernel_rfl
end dj
