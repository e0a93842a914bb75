/-
  Proved here: facts of the row, read off the program by the kernel. No condition.
-/
import Derived.Test.YtaallgkomohenaaGreatDoorRows
import Derived.SevenTiedAt
namespace Go.Proofs.YtaallgkomohenaaGreatDoor
open Go
set_option maxRecDepth 100000
theorem goes0 : ((Tryz.prog.funcs.toList.drop 0).take 120).any Func.goes = false := by kernel_rfl
end Go.Proofs.YtaallgkomohenaaGreatDoor
namespace Go.Proofs.YtaallgkomohenaaGreatDoor
open Go
set_option maxRecDepth 100000
theorem goes1 : ((Tryz.prog.funcs.toList.drop 120).take 120).any Func.goes = false := by kernel_rfl
end Go.Proofs.YtaallgkomohenaaGreatDoor
namespace Go.Proofs.YtaallgkomohenaaGreatDoor
open Go
set_option maxRecDepth 100000
theorem goes2 : ((Tryz.prog.funcs.toList.drop 240).take 120).any Func.goes = false := by kernel_rfl
end Go.Proofs.YtaallgkomohenaaGreatDoor
namespace Go.Proofs.YtaallgkomohenaaGreatDoor
open Go
set_option maxRecDepth 100000
theorem goes3 : ((Tryz.prog.funcs.toList.drop 360).take 120).any Func.goes = false := by kernel_rfl
end Go.Proofs.YtaallgkomohenaaGreatDoor
namespace Go.Proofs.YtaallgkomohenaaGreatDoor
open Go
set_option maxRecDepth 100000
theorem goes4 : ((Tryz.prog.funcs.toList.drop 480).take 120).any Func.goes = false := by kernel_rfl
end Go.Proofs.YtaallgkomohenaaGreatDoor
namespace Go.Proofs.YtaallgkomohenaaGreatDoor
open Go
set_option maxRecDepth 100000
theorem goes5 : ((Tryz.prog.funcs.toList.drop 600).take 120).any Func.goes = false := by kernel_rfl
end Go.Proofs.YtaallgkomohenaaGreatDoor
namespace Go.Proofs.YtaallgkomohenaaGreatDoor
open Go
set_option maxRecDepth 100000
theorem chunkAny {α : Type} {f : α → Bool} {l : List α} {a m : Nat} (h : ((l.drop a).take m).any f = false) (h' : (l.drop (a + m)).any f = false) : (l.drop a).any f = false := by
  rw [← List.take_append_drop m (l.drop a), List.any_append, h, List.drop_drop, h']; rfl
theorem goes_of {P : Program} (h : P.funcs.toList.any Func.goes = false) (f : FuncId) : P.goes f = false := by
  have h1 : ∀ g : FuncId, (P.funcs[g]?).any Func.goes = false := by
    intro g
    cases hg : P.funcs[g]? with
    | none => rfl
    | some fn =>
      have hm : fn ∈ P.funcs.toList := Array.mem_toList_iff.2 (Array.mem_of_getElem? hg)
      have := List.any_eq_false.1 h fn hm
      simpa using this
  have h2 : P.funcs.any Func.goes = false := by rw [← Array.any_toList]; exact h
  unfold Program.goes
  rw [h2, Bool.and_false, Bool.or_false]
  rw [List.any_eq_false]
  intro g _
  rw [h1]; simp
theorem goesBy_of {P : Program} (h : P.funcs.toList.any Func.goes = false) (c : OpenClaim) : c.goesBy P = false := by
  unfold OpenClaim.goesBy Program.goesAt Program.goesFrom
  have h1 : (P.funcNamed c.func).any P.goes = false := by
    cases P.funcNamed c.func with
    | none => rfl
    | some f => exact goes_of h f
  have h2 : P.inits.toList.any P.goes = false := by
    rw [List.any_eq_false]
    intro g _
    rw [goes_of h]; simp
  rw [h1, h2]
  cases c.start <;> rfl
theorem goesEnd : (Tryz.prog.funcs.toList.drop 720).any Func.goes = false := by kernel_rfl
theorem goesAll : Tryz.prog.funcs.toList.any Func.goes = false := (chunkAny goes0 (chunkAny goes1 (chunkAny goes2 (chunkAny goes3 (chunkAny goes4 (chunkAny goes5 goesEnd))))))
theorem card4 : false = Rows.simEqualsRow.goesBy Tryz.prog := (goesBy_of goesAll _).symm
end Go.Proofs.YtaallgkomohenaaGreatDoor
namespace Go.Proofs.YtaallgkomohenaaGreatDoor
open Go
set_option maxRecDepth 100000
theorem card1 : Rows.simEqualsRow.wfByText (OpenSpec.ofChange Rows.simEqualsSpec) = true := by kernel_rfl
end Go.Proofs.YtaallgkomohenaaGreatDoor
namespace Go.Proofs.YtaallgkomohenaaGreatDoor
open Go
set_option maxRecDepth 100000
theorem card2 : Tryz.prog.mainIs = some (true, "b315a52079c9f8105c9d811f700de6a2da8cdb7e2d30c3d9ddedb03a7c47f035".toList) := by kernel_rfl
end Go.Proofs.YtaallgkomohenaaGreatDoor
namespace Go.Proofs.YtaallgkomohenaaGreatDoor
open Go
set_option maxRecDepth 100000
theorem card3 : true = Tryz.prog.looks [] := by kernel_rfl
end Go.Proofs.YtaallgkomohenaaGreatDoor
namespace Go.Proofs.YtaallgkomohenaaGreatDoor
open Go
set_option maxRecDepth 100000
theorem card6 : ([22].all fun u => !Tryz.prog.wantsStandIn u) = true := by kernel_rfl
end Go.Proofs.YtaallgkomohenaaGreatDoor
