/-
  Proved here: a part of the tie: facts of the row, read off the program by the kernel. No condition.
-/
import Derived.Test.YtbpoloanmichbaaGreatDoorRows
import Derived.LaidByTextLater
import Derived.SevenTiedAt
import Derived.KernelRfl
set_option maxRecDepth 100000
namespace Go.Proofs.YtbpoloanmichbaaGreatDoor
open Go
def N9:List (String×DataW Unit):=[("skirmish/terrain.passable",Rows.laid_skirmish_terrain_passable)]
theorem akq:Tryz.pinned.checked.prog.headLifts.contains "ownunsafe" =false:=by kernel_rfl
theorem adM:Tryz.prog.worded (varsWordLater true)=true:=by kernel_rfl
theorem aaX:Tryz.prog.worded (varsWordLater !true)=false:=by kernel_rfl
theorem adN:Tryz.prog.worded rootWordLater=true:=by kernel_rfl
theorem adO:N9.map (fun x=>Tryz.prog.kindOfLater x.1)=([.data]:List LaidKind).map some:=by kernel_rfl
theorem adP:(Tryz.prog.funcNamed "gosem.cut.vars").isSome=true:=by kernel_rfl
end Go.Proofs.YtbpoloanmichbaaGreatDoor
