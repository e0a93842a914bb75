/-
  Proved here: facts of the row, read off the program by the kernel. No condition.
-/
import Derived.Test.YtbpoloanmichbaaGreatDoorRows
import Derived.SevenTiedAt
import Derived.KernelRfl
set_option maxRecDepth 100000
namespace Go.Proofs.YtbpoloanmichbaaGreatDoor
open Go
theorem agk:((Tryz.prog.funcs.toList.drop 0).take 120).any Func.goes=false:=by kernel_rfl
end Go.Proofs.YtbpoloanmichbaaGreatDoor
namespace Go.Proofs.YtbpoloanmichbaaGreatDoor
open Go
theorem agl:((Tryz.prog.funcs.toList.drop 120).take 120).any Func.goes=false:=by kernel_rfl
end Go.Proofs.YtbpoloanmichbaaGreatDoor
namespace Go.Proofs.YtbpoloanmichbaaGreatDoor
open Go
theorem agm:((Tryz.prog.funcs.toList.drop 240).take 120).any Func.goes=false:=by kernel_rfl
end Go.Proofs.YtbpoloanmichbaaGreatDoor
namespace Go.Proofs.YtbpoloanmichbaaGreatDoor
open Go
theorem agn:((Tryz.prog.funcs.toList.drop 360).take 120).any Func.goes=false:=by kernel_rfl
end Go.Proofs.YtbpoloanmichbaaGreatDoor
namespace Go.Proofs.YtbpoloanmichbaaGreatDoor
open Go
theorem akr:((Tryz.prog.funcs.toList.drop 480).take 120).any Func.goes=false:=by kernel_rfl
end Go.Proofs.YtbpoloanmichbaaGreatDoor
namespace Go.Proofs.YtbpoloanmichbaaGreatDoor
open Go
theorem aks:((Tryz.prog.funcs.toList.drop 600).take 120).any Func.goes=false:=by kernel_rfl
end Go.Proofs.YtbpoloanmichbaaGreatDoor
namespace Go.Proofs.YtbpoloanmichbaaGreatDoor
open Go
theorem C4 {α:Type} {f:α→Bool} {l:List α} {a m:Nat} (h:((l.drop a).take m).any f=false) (h':(l.drop (a+m)).any f=false):(l.drop a).any f=false:=by
 rw [← List.take_append_drop m (l.drop a),List.any_append,h,List.drop_drop,h']; rfl
theorem UH {P:Program} (h:P.funcs.toList.any Func.goes=false) (f:FuncId):P.goes f=false:=by
 have h1: ∀ g:FuncId,(P.funcs[g]?).any Func.goes=false:=by
  intro g;cases hg:P.funcs[g]? with
  |none=>rfl
  |some fn=>
   have hm:fn∈P.funcs.toList:=Array.mem_toList_iff.2 (Array.mem_of_getElem? hg);have:=List.any_eq_false.1 h fn hm;simpa using this
 have h2:P.funcs.any Func.goes=false:=by rw [← Array.any_toList]; exact h
 unfold Program.goes;rw [h2,Bool.and_false,Bool.or_false];rw [List.any_eq_false];intro g _;rw [h1]; simp
theorem WC {P:Program} (h:P.funcs.toList.any Func.goes=false) (c:OpenClaim):c.goesBy P=false:=by
 unfold OpenClaim.goesBy Program.goesAt Program.goesFrom;have h1:(P.funcNamed c.func).any P.goes=false:=by
  cases P.funcNamed c.func with
  |none=>rfl
  |some f=>exact UH h f
 have h2:P.inits.toList.any P.goes=false:=by
  rw [List.any_eq_false];intro g _;rw [UH h]; simp
 rw [h1,h2];cases c.start<;>rfl
theorem aaY:(Tryz.prog.funcs.toList.drop 720).any Func.goes=false:=by kernel_rfl
theorem aaZ:Tryz.prog.funcs.toList.any Func.goes=false:=(C4 agk (C4 agl (C4 agm (C4 agn (C4 akr (C4 aks aaY))))))
theorem ago:false=Rows.turnSafeRow.goesBy Tryz.prog:=(WC aaZ _).symm
end Go.Proofs.YtbpoloanmichbaaGreatDoor
namespace Go.Proofs.YtbpoloanmichbaaGreatDoor
open Go
theorem agh:Rows.turnSafeRow.wfByText (OpenSpec.ofChange Rows.turnSafeSpec)=true:=by kernel_rfl
end Go.Proofs.YtbpoloanmichbaaGreatDoor
namespace Go.Proofs.YtbpoloanmichbaaGreatDoor
open Go
theorem agi:Tryz.prog.mainIs=some (true, "d72c486b2573f409b8317c478deb9aef70a3a421e4b49c5a08951f3056e62a31".toList):=by kernel_rfl
end Go.Proofs.YtbpoloanmichbaaGreatDoor
namespace Go.Proofs.YtbpoloanmichbaaGreatDoor
open Go
theorem agj:true=Tryz.prog.looks []:=by kernel_rfl
end Go.Proofs.YtbpoloanmichbaaGreatDoor
