/-
  Proved here: a part of the tie: facts of the row, read off the program by the kernel. No condition.
-/
import Derived.Test.YtaallgkomohenaaGreatDoorRows
import Derived.LaidByTextLater
import Derived.SevenTiedAt
import Derived.KernelRfl
namespace Go.Proofs.YtaallgkomohenaaGreatDoor
open Go
set_option maxRecDepth 100000
theorem tie_a : Tryz.pinned.checked.prog.headLifts.contains "ownunsafe" = false := by kernel_rfl
theorem tie_hw : Tryz.prog.worded (varsWordLater true) = true := by kernel_rfl
theorem tie_hw2 : Tryz.prog.worded (varsWordLater !true) = false := by kernel_rfl
theorem tie_hr : Tryz.prog.worded rootWordLater = true := by kernel_rfl
theorem tie_hk : ([("skirmish/terrain.passable", Rows.laid_skirmish_terrain_passable)] : List (String × DataW Unit)).map (fun x => Tryz.prog.kindOfLater x.1) = [LaidKind.data].map some := by kernel_rfl
theorem tie_hg : (Tryz.prog.funcNamed "gosem.cut.vars").isSome = true := by kernel_rfl
end Go.Proofs.YtaallgkomohenaaGreatDoor
