/-
  Proved here: facts of the row, read off the program by the kernel. No condition.
-/
import Derived.Test.YtbpoloanmichbaaGreatDoorCFA
import Derived.Test.YtbpoloanmichbaaGreatDoorCFF
import Derived.Test.YtbpoloanmichbaaGreatDoorRows
import Derived.JoinedOf
import Derived.KernelRfl
namespace Go.Proofs.YtbpoloanmichbaaGreatDoor
open Go
set_option maxRecDepth 100000
theorem abL:(laidOutB Tryz.prog)=true:=by
 unfold laidOutB;rw [akn,akp,ako,List.range_eq_range'];rw [show (699:Nat)=150+(150+(150+(150+99))) from rfl, ←List.range'_append_1, ←List.range'_append_1, ←List.range'_append_1, ←List.range'_append_1];simp only [List.all_append,Nat.zero_add,Nat.reduceAdd];rw [aki,akj,akk,akl,akm];rfl
end Go.Proofs.YtbpoloanmichbaaGreatDoor
namespace Go.Proofs.YtbpoloanmichbaaGreatDoor
open Go
theorem af4:(Rows.turnSafeRow.wf (OpenSpec.ofChange Rows.turnSafeSpec))=true:=by kernel_rfl
theorem af5:(Tryz.f3.params.all (Tryz.prog.readableRec ·))=true:=by kernel_rfl
theorem af6:(namedTie Tryz.prog Rows.turnSafeRow.named Rows.turnSafeSpec.vars)=true:=by kernel_rfl
theorem af7:((Rows.turnSafeRow.stops==[]))=true:=by kernel_rfl
theorem af8:((Tryz.prog.stops==[]))=true:=by kernel_rfl
theorem af9:((Rows.turnSafeRow.knobs==[]))=true:=by kernel_rfl
theorem af_:((Tryz.prog.stopKnobs==[]))=true:=by kernel_rfl
theorem adp:((Rows.turnSafeRow.maps==(Tryz.f3.params.toList++Rows.turnSafeSpec.plain.varTypes Tryz.prog).any (Tryz.prog.mapsRec ·)))=true:=by kernel_rfl
theorem adq:((Rows.turnSafeRow.ifaces==(Tryz.f3.params.toList++Rows.turnSafeSpec.plain.varTypes Tryz.prog).any (Tryz.prog.ifacesRec ·)))=true:=by kernel_rfl
theorem adr:((Rows.turnSafeRow.mapsOut==Tryz.prog.mapsAmong Tryz.f3.resultTypes.toList))=true:=by kernel_rfl
theorem ads:((Rows.turnSafeRow.loops==(Tryz.f3.params.toList++Rows.turnSafeSpec.plain.varTypes Tryz.prog).any (Tryz.prog.loopsFrom ·)))=true:=by kernel_rfl
theorem adt:((Rows.turnSafeRow.wideKeys==(Tryz.f3.params.toList++Rows.turnSafeSpec.plain.varTypes Tryz.prog++Tryz.f3.resultTypes.toList).any (Tryz.prog.wideKeysFrom ·)))=true:=by kernel_rfl
theorem adu:(Rows.turnSafeSpec.vars.all (Tryz.prog.varReadable ·))=true:=by kernel_rfl
theorem adv:(Tryz.f3.resultTypes.all (fun t=>Tryz.prog.readableRec t&&decide (t<Tryz.prog.types.size)))=true:=by kernel_rfl
theorem adw:((Rows.turnSafeRow.ifacesOut==Tryz.f3.resultTypes.toList.any (Tryz.prog.ifacesRec ·)))=true:=by kernel_rfl
theorem adx:((Rows.turnSafeRow.loopsOut==Tryz.f3.resultTypes.toList.any (Tryz.prog.loopsFrom ·)))=true:=by kernel_rfl
theorem ady:(Rows.turnSafeRow.shortTexts.isNone)=true:=by kernel_rfl
theorem adz:((Rows.turnSafeRow.lifted==Tryz.prog.liftsFinal))=true:=by kernel_rfl
theorem adA:((Tryz.prog.make==some Rows.turnSafeRow.make))=true:=by kernel_rfl
theorem adB:((Rows.turnSafeRow.kinds==(if Rows.turnSafeRow.domain.isEmpty then [] else Tryz.f3.params.toList.map fun t=>match Tryz.prog.underlying t with|some (.int k)=>some k|_=>none)))=true:=by kernel_rfl
theorem adC:((Rows.turnSafeRow.pinned==Rows.turnSafeRow.pinnedBy))=true:=by kernel_rfl
theorem adD:((Rows.turnSafeRow.veiled==(Tryz.f3.params.toList++Rows.turnSafeSpec.plain.varTypes Tryz.prog++Tryz.f3.resultTypes.toList).any (Tryz.prog.veiledRec ·)))=true:=by kernel_rfl
theorem adE:(Rows.turnSafeRow.veiledFits Tryz.prog Tryz.f3.params.toList (Tryz.f3.params.toList++Rows.turnSafeSpec.plain.varTypes Tryz.prog++Tryz.f3.resultTypes.toList))=true:=by kernel_rfl
end Go.Proofs.YtbpoloanmichbaaGreatDoor
