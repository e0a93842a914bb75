/-
  Proved here: the tied card of TurnSafe: for every game the law answers true, and what the row lists is what the program's text lays. No further condition.
-/
import Derived.Test.YtbpoloanmichbaaGreatDoorTE
import Derived.Test.YtbpoloanmichbaaGreatDoorTF
import Derived.Test.YtbpoloanmichbaaGreatDoorTA
import Derived.Test.YtbpoloanmichbaaGreatDoorTB
import Derived.Test.YtbpoloanmichbaaGreatDoorTC
import Derived.Test.YtbpoloanmichbaaGreatDoorTD
import Derived.Test.YtbpoloanmichbaaGreatDoorCards
import Derived.Test.YtbpoloanmichbaaGreatDoorR
import Derived.Test.YtbpoloanmichbaaGreatDoorKA
import Derived.Test.YtbpoloanmichbaaGreatDoorKB
import Derived.SevenTiedAt
set_option maxRecDepth 100000
namespace Go.Proofs.YtbpoloanmichbaaGreatDoor
open Go
theorem adT: ∀ os tape,(DataW.laidRun Tryz.prog (varsWorld Tryz.prog 400 (varsId Tryz.prog) os tape).memory 8 (N9.map (·.1))).map (fun x=>decide x.2.Nodup&&laidRowsB Tryz.prog (varsWorld Tryz.prog 400 (varsId Tryz.prog) os tape).memory x.2)=some true:=by
 intro os tape;have h1:=age os tape;have h2:=agf os tape;generalize DataW.laidRun Tryz.prog (varsWorld Tryz.prog 400 (varsId Tryz.prog) os tape).memory 8 (N9.map (·.1))=x at h1 h2 ⊢;cases x with
 |none=>cases h1
 |some x=>
  simp only [Option.map_some,Option.some.injEq] at h1 h2 ⊢;rw [h1,h2]; rfl
end Go.Proofs.YtbpoloanmichbaaGreatDoor
namespace Go.Proofs.YtbpoloanmichbaaGreatDoor
open Go
theorem ajW:Tryz.prog.laidByTextLater N9 [.data] true:=
 Program.laidByTextLater_by_run 400 8 adM aaX adN adO adP adQ adR adS adT (by kernel_rfl)
theorem ajX:Rows.turnSafeRow.laidByTextAt .later Tryz.pinned [.data] true:=
 OpenClaim.laidByTextAt_later rfl rfl ajW akq
end Go.Proofs.YtbpoloanmichbaaGreatDoor
namespace Go.Proofs.YtbpoloanmichbaaGreatDoor
open Go
theorem turnSafe_holds:Rows.TurnSafeCardSaid:=
 Claim7.holds_tied_plain_at .later [] [.data] true (true, "d72c486b2573f409b8317c478deb9aef70a3a421e4b49c5a08951f3056e62a31") true over (fun _ h=>by cases h) agh (fun _ h=>by cases h) ajX rfl ⟨rfl,rfl⟩ agi rfl
  (fun f fn hf hfn=>by
   obtain rfl:f=3:=Option.some.inj (agp.symm.trans hf) |>.symm
   obtain rfl:fn=Tryz.f3:=(Option.some.inj (Tryz.func3.symm.trans hfn)).symm;exact ⟨agj,fun j t ht=>by
    rw [Tryz.params3] at ht;have hm:t∈[37]:=by simpa using Array.mem_of_getElem? ht
    exact (show Tryz.prog.wantsStandIn t=false by simpa using List.all_eq_true.1 agq t hm)⟩)
  ago
end Go.Proofs.YtbpoloanmichbaaGreatDoor
