/-
  Proved here: facts of the row, read off the program by the kernel. No condition.
-/
import Derived.Test.YtaallgkomohenaaGreatDoorCFA
import Derived.Test.YtaallgkomohenaaGreatDoorCFF
import Derived.Test.YtaallgkomohenaaGreatDoorRows
import Derived.JoinedOf
import Derived.KernelRfl
namespace Go.Proofs.YtaallgkomohenaaGreatDoor
open Go
theorem limb1 : (laidOutB Tryz.prog) = true := by
  unfold laidOutB
  rw [fineG, fineF, fineN, List.range_eq_range']
  rw [show (708 : Nat) = 150 + (150 + (150 + (150 + 108))) from rfl, ← List.range'_append_1, ← List.range'_append_1, ← List.range'_append_1, ← List.range'_append_1]
  simp only [List.all_append, Nat.zero_add, Nat.reduceAdd]
  rw [fine0, fine1, fine2, fine3, fine4]
  rfl
end Go.Proofs.YtaallgkomohenaaGreatDoor
namespace Go.Proofs.YtaallgkomohenaaGreatDoor
open Go
set_option maxRecDepth 100000
theorem limb0 : (Rows.simEqualsRow.wf (OpenSpec.ofChange Rows.simEqualsSpec)) = true := by kernel_rfl
end Go.Proofs.YtaallgkomohenaaGreatDoor
namespace Go.Proofs.YtaallgkomohenaaGreatDoor
open Go
set_option maxRecDepth 100000
theorem limb3 : (Tryz.f3.params.all (Tryz.prog.readableRec ·)) = true := by kernel_rfl
end Go.Proofs.YtaallgkomohenaaGreatDoor
namespace Go.Proofs.YtaallgkomohenaaGreatDoor
open Go
set_option maxRecDepth 100000
theorem limb4 : (namedTie Tryz.prog Rows.simEqualsRow.named Rows.simEqualsSpec.vars) = true := by kernel_rfl
end Go.Proofs.YtaallgkomohenaaGreatDoor
namespace Go.Proofs.YtaallgkomohenaaGreatDoor
open Go
set_option maxRecDepth 100000
theorem limb5 : ((Rows.simEqualsRow.stops == [])) = true := by kernel_rfl
end Go.Proofs.YtaallgkomohenaaGreatDoor
namespace Go.Proofs.YtaallgkomohenaaGreatDoor
open Go
set_option maxRecDepth 100000
theorem limb6 : ((Tryz.prog.stops == [])) = true := by kernel_rfl
end Go.Proofs.YtaallgkomohenaaGreatDoor
namespace Go.Proofs.YtaallgkomohenaaGreatDoor
open Go
set_option maxRecDepth 100000
theorem limb7 : ((Rows.simEqualsRow.knobs == [])) = true := by kernel_rfl
end Go.Proofs.YtaallgkomohenaaGreatDoor
namespace Go.Proofs.YtaallgkomohenaaGreatDoor
open Go
set_option maxRecDepth 100000
theorem limb8 : ((Tryz.prog.stopKnobs == [])) = true := by kernel_rfl
end Go.Proofs.YtaallgkomohenaaGreatDoor
namespace Go.Proofs.YtaallgkomohenaaGreatDoor
open Go
set_option maxRecDepth 100000
theorem limb13 : ((Rows.simEqualsRow.maps == (Tryz.f3.params.toList ++ Rows.simEqualsSpec.plain.varTypes Tryz.prog).any (Tryz.prog.mapsRec ·))) = true := by kernel_rfl
end Go.Proofs.YtaallgkomohenaaGreatDoor
namespace Go.Proofs.YtaallgkomohenaaGreatDoor
open Go
set_option maxRecDepth 100000
theorem limb14 : ((Rows.simEqualsRow.ifaces == (Tryz.f3.params.toList ++ Rows.simEqualsSpec.plain.varTypes Tryz.prog).any (Tryz.prog.ifacesRec ·))) = true := by kernel_rfl
end Go.Proofs.YtaallgkomohenaaGreatDoor
namespace Go.Proofs.YtaallgkomohenaaGreatDoor
open Go
set_option maxRecDepth 100000
theorem limb15 : ((Rows.simEqualsRow.mapsOut == Tryz.prog.mapsAmong Tryz.f3.resultTypes.toList)) = true := by kernel_rfl
end Go.Proofs.YtaallgkomohenaaGreatDoor
namespace Go.Proofs.YtaallgkomohenaaGreatDoor
open Go
set_option maxRecDepth 100000
theorem limb16 : ((Rows.simEqualsRow.loops == (Tryz.f3.params.toList ++ Rows.simEqualsSpec.plain.varTypes Tryz.prog).any (Tryz.prog.loopsFrom ·))) = true := by kernel_rfl
end Go.Proofs.YtaallgkomohenaaGreatDoor
namespace Go.Proofs.YtaallgkomohenaaGreatDoor
open Go
set_option maxRecDepth 100000
theorem limb17 : ((Rows.simEqualsRow.wideKeys == (Tryz.f3.params.toList ++ Rows.simEqualsSpec.plain.varTypes Tryz.prog ++ Tryz.f3.resultTypes.toList).any (Tryz.prog.wideKeysFrom ·))) = true := by kernel_rfl
end Go.Proofs.YtaallgkomohenaaGreatDoor
namespace Go.Proofs.YtaallgkomohenaaGreatDoor
open Go
set_option maxRecDepth 100000
theorem limb18 : (Rows.simEqualsSpec.vars.all (Tryz.prog.varReadable ·)) = true := by kernel_rfl
end Go.Proofs.YtaallgkomohenaaGreatDoor
namespace Go.Proofs.YtaallgkomohenaaGreatDoor
open Go
set_option maxRecDepth 100000
theorem limb19 : (Tryz.f3.resultTypes.all (fun t => Tryz.prog.readableRec t && decide (t < Tryz.prog.types.size))) = true := by kernel_rfl
end Go.Proofs.YtaallgkomohenaaGreatDoor
namespace Go.Proofs.YtaallgkomohenaaGreatDoor
open Go
set_option maxRecDepth 100000
theorem limb20 : ((Rows.simEqualsRow.ifacesOut == Tryz.f3.resultTypes.toList.any (Tryz.prog.ifacesRec ·))) = true := by kernel_rfl
end Go.Proofs.YtaallgkomohenaaGreatDoor
namespace Go.Proofs.YtaallgkomohenaaGreatDoor
open Go
set_option maxRecDepth 100000
theorem limb21 : ((Rows.simEqualsRow.loopsOut == Tryz.f3.resultTypes.toList.any (Tryz.prog.loopsFrom ·))) = true := by kernel_rfl
end Go.Proofs.YtaallgkomohenaaGreatDoor
namespace Go.Proofs.YtaallgkomohenaaGreatDoor
open Go
set_option maxRecDepth 100000
theorem limb23 : (Rows.simEqualsRow.shortTexts.isNone) = true := by kernel_rfl
end Go.Proofs.YtaallgkomohenaaGreatDoor
namespace Go.Proofs.YtaallgkomohenaaGreatDoor
open Go
set_option maxRecDepth 100000
theorem limb26 : ((Rows.simEqualsRow.lifted == Tryz.prog.liftsFinal)) = true := by kernel_rfl
end Go.Proofs.YtaallgkomohenaaGreatDoor
namespace Go.Proofs.YtaallgkomohenaaGreatDoor
open Go
set_option maxRecDepth 100000
theorem limb27 : ((Tryz.prog.make == some Rows.simEqualsRow.make)) = true := by kernel_rfl
end Go.Proofs.YtaallgkomohenaaGreatDoor
namespace Go.Proofs.YtaallgkomohenaaGreatDoor
open Go
set_option maxRecDepth 100000
theorem limb28 : ((Rows.simEqualsRow.kinds == (if Rows.simEqualsRow.domain.isEmpty then [] else Tryz.f3.params.toList.map fun t => match Tryz.prog.underlying t with | some (.int k) => some k | _ => none))) = true := by kernel_rfl
end Go.Proofs.YtaallgkomohenaaGreatDoor
namespace Go.Proofs.YtaallgkomohenaaGreatDoor
open Go
set_option maxRecDepth 100000
theorem limb29 : ((Rows.simEqualsRow.pinned == Rows.simEqualsRow.pinnedBy)) = true := by kernel_rfl
end Go.Proofs.YtaallgkomohenaaGreatDoor
namespace Go.Proofs.YtaallgkomohenaaGreatDoor
open Go
set_option maxRecDepth 100000
theorem limb30 : ((Rows.simEqualsRow.veiled == (Tryz.f3.params.toList ++ Rows.simEqualsSpec.plain.varTypes Tryz.prog ++ Tryz.f3.resultTypes.toList).any (Tryz.prog.veiledRec ·))) = true := by kernel_rfl
end Go.Proofs.YtaallgkomohenaaGreatDoor
namespace Go.Proofs.YtaallgkomohenaaGreatDoor
open Go
set_option maxRecDepth 100000
theorem limb31 : (Rows.simEqualsRow.veiledFits Tryz.prog Tryz.f3.params.toList (Tryz.f3.params.toList ++ Rows.simEqualsSpec.plain.varTypes Tryz.prog ++ Tryz.f3.resultTypes.toList)) = true := by kernel_rfl
end Go.Proofs.YtaallgkomohenaaGreatDoor
