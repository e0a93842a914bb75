/-
  Proved here: facts of the row, read off the program by the kernel. No condition.
-/
import Derived.Test.YtfodoaiodagncaaGreatDoorRows
import Derived.JoinedOf
import Derived.KernelRfl
namespace Go.Proofs.YtfodoaiodagncaaGreatDoor
open Go
set_option maxRecDepth 100000
theorem af4:(Rows.stateValidatesRow.wf (OpenSpec.ofChange Rows.stateValidatesSpec))=true:=by kernel_rfl
theorem af5:(Tryz.f3.params.all (Tryz.prog.readableRec ·))=true:=by kernel_rfl
theorem af6:(namedTie Tryz.prog Rows.stateValidatesRow.named Rows.stateValidatesSpec.vars)=true:=by kernel_rfl
theorem af7:((Rows.stateValidatesRow.stops==[]))=true:=by kernel_rfl
theorem af8:((Tryz.prog.stops==[]))=true:=by kernel_rfl
theorem af9:((Rows.stateValidatesRow.knobs==[]))=true:=by kernel_rfl
theorem af_:((Tryz.prog.stopKnobs==[]))=true:=by kernel_rfl
theorem adp:((Rows.stateValidatesRow.maps==(Tryz.f3.params.toList++Rows.stateValidatesSpec.plain.varTypes Tryz.prog).any (Tryz.prog.mapsRec ·)))=true:=by kernel_rfl
theorem adq:((Rows.stateValidatesRow.ifaces==(Tryz.f3.params.toList++Rows.stateValidatesSpec.plain.varTypes Tryz.prog).any (Tryz.prog.ifacesRec ·)))=true:=by kernel_rfl
theorem adr:((Rows.stateValidatesRow.mapsOut==Tryz.prog.mapsAmong Tryz.f3.resultTypes.toList))=true:=by kernel_rfl
theorem ads:((Rows.stateValidatesRow.loops==(Tryz.f3.params.toList++Rows.stateValidatesSpec.plain.varTypes Tryz.prog).any (Tryz.prog.loopsFrom ·)))=true:=by kernel_rfl
theorem adt:((Rows.stateValidatesRow.wideKeys==(Tryz.f3.params.toList++Rows.stateValidatesSpec.plain.varTypes Tryz.prog++Tryz.f3.resultTypes.toList).any (Tryz.prog.wideKeysFrom ·)))=true:=by kernel_rfl
theorem adu:(Rows.stateValidatesSpec.vars.all (Tryz.prog.varReadable ·))=true:=by kernel_rfl
theorem adv:(Tryz.f3.resultTypes.all (fun t=>Tryz.prog.readableRec t&&decide (t<Tryz.prog.types.size)))=true:=by kernel_rfl
theorem adw:((Rows.stateValidatesRow.ifacesOut==Tryz.f3.resultTypes.toList.any (Tryz.prog.ifacesRec ·)))=true:=by kernel_rfl
theorem adx:((Rows.stateValidatesRow.loopsOut==Tryz.f3.resultTypes.toList.any (Tryz.prog.loopsFrom ·)))=true:=by kernel_rfl
theorem ady:(Rows.stateValidatesRow.shortTexts.isNone)=true:=by kernel_rfl
theorem adz:((Rows.stateValidatesRow.lifted==Tryz.prog.liftsFinal))=true:=by kernel_rfl
theorem adA:((Tryz.prog.make==some Rows.stateValidatesRow.make))=true:=by kernel_rfl
theorem adB:((Rows.stateValidatesRow.kinds==(if Rows.stateValidatesRow.domain.isEmpty then [] else Tryz.f3.params.toList.map fun t=>match Tryz.prog.underlying t with|some (.int k)=>some k|_=>none)))=true:=by kernel_rfl
theorem adC:((Rows.stateValidatesRow.pinned==Rows.stateValidatesRow.pinnedBy))=true:=by kernel_rfl
theorem adD:((Rows.stateValidatesRow.veiled==(Tryz.f3.params.toList++Rows.stateValidatesSpec.plain.varTypes Tryz.prog++Tryz.f3.resultTypes.toList).any (Tryz.prog.veiledRec ·)))=true:=by kernel_rfl
theorem adE:(Rows.stateValidatesRow.veiledFits Tryz.prog Tryz.f3.params.toList (Tryz.f3.params.toList++Rows.stateValidatesSpec.plain.varTypes Tryz.prog++Tryz.f3.resultTypes.toList))=true:=by kernel_rfl
end Go.Proofs.YtfodoaiodagncaaGreatDoor
namespace Go.Proofs.YtfodoaiodagncaaGreatDoor
open Go
theorem abL:(laidOutB Tryz.prog)=true:=by kernel_rfl
end Go.Proofs.YtfodoaiodagncaaGreatDoor
namespace Go.Proofs.YtfodoaiodagncaaGreatDoor
open Go
theorem agb:((Rows.stateValidatesRow.inPlace==Tryz.prog.inPlace 3))=true:=by kernel_rfl
end Go.Proofs.YtfodoaiodagncaaGreatDoor
