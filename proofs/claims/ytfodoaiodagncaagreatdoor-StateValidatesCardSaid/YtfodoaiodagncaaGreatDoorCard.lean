/-
  Proved here: the tied card of StateValidates: for every game the law answers true, and what the row lists is what the program's text lays. No further condition.
-/
import Derived.Test.YtfodoaiodagncaaGreatDoorTD
import Derived.Test.YtfodoaiodagncaaGreatDoorTE
import Derived.Test.YtfodoaiodagncaaGreatDoorTA
import Derived.Test.YtfodoaiodagncaaGreatDoorTB
import Derived.Test.YtfodoaiodagncaaGreatDoorTC
import Derived.Test.YtfodoaiodagncaaGreatDoorCards
import Derived.Test.YtfodoaiodagncaaGreatDoorR
import Derived.Test.YtfodoaiodagncaaGreatDoorKA
import Derived.Test.YtfodoaiodagncaaGreatDoorKB
import Derived.SevenTiedAt
set_option maxRecDepth 100000
namespace Go.Proofs.YtfodoaiodagncaaGreatDoor
open Go
theorem adT: ∀ os tape,(DataW.laidRun Tryz.prog (varsWorld Tryz.prog 400 (varsId Tryz.prog) os tape).memory 8 (N9.map (·.1))).map (fun x=>decide x.2.Nodup&&laidRowsB Tryz.prog (varsWorld Tryz.prog 400 (varsId Tryz.prog) os tape).memory x.2)=some true:=by
 intro os tape;have h1:=age os tape;have h2:=agf os tape;generalize DataW.laidRun Tryz.prog (varsWorld Tryz.prog 400 (varsId Tryz.prog) os tape).memory 8 (N9.map (·.1))=x at h1 h2 ⊢;cases x with
 |none=>cases h1
 |some x=>
  simp only [Option.map_some,Option.some.injEq] at h1 h2 ⊢;rw [h1,h2]; rfl
end Go.Proofs.YtfodoaiodagncaaGreatDoor
namespace Go.Proofs.YtfodoaiodagncaaGreatDoor
open Go
theorem tie:Tryz.prog.laidByTextLater N9 [.data, .data, .listed, .data, .data, .data, .data, .sentinel, .sentinel] true:=
 Program.laidByTextLater_by_run 400 8 adM aaX adN adO adP adQ adR adS adT (by kernel_rfl)
theorem vL:Rows.stateValidatesRow.laidByTextAt .later Tryz.pinned [.data, .data, .listed, .data, .data, .data, .pinned, .data, .sentinel, .sentinel] true:=
 OpenClaim.laidByTextAt_pinned rfl rfl tie rfl rfl rfl rfl (fun y hy _e=>by
  simp only [Rows.stateValidatesRow,List.zip_cons_cons,List.zip_nil_right,List.mem_cons,List.mem_nil_iff,or_false] at hy;rcases hy with rfl|rfl|rfl|rfl|rfl|rfl|rfl|rfl|rfl|rfl
  ·cases _e
  ·cases _e
  ·cases _e
  ·cases _e
  ·cases _e
  ·cases _e
  ·exact ⟨pO,by kernel_rfl⟩
  ·cases _e
  ·cases _e
  ·cases _e) agd
end Go.Proofs.YtfodoaiodagncaaGreatDoor
namespace Go.Proofs.YtfodoaiodagncaaGreatDoor
open Go
theorem stateValidates_holds:Rows.StateValidatesCardSaid:=
 Claim7.holds_tied_plain_at .later [] [.data, .data, .listed, .data, .data, .data, .pinned, .data, .sentinel, .sentinel] true (true, "5f2c150a8ea55ae635699f8e3112d44a69797c1670c75571b391655560aa314a") true over (fun _ h=>by cases h) agh (fun _ h=>by cases h) vL rfl ⟨rfl,rfl⟩ agi rfl
  (fun f fn hf hfn=>by
   obtain rfl:f=3:=Option.some.inj (agp.symm.trans hf) |>.symm
   obtain rfl:fn=Tryz.f3:=(Option.some.inj (Tryz.func3.symm.trans hfn)).symm;exact ⟨agj,fun j t ht=>by
    rw [Tryz.params3] at ht;have hm:t∈[37]:=by simpa using Array.mem_of_getElem? ht
    exact (show Tryz.prog.wantsStandIn t=false by simpa using List.all_eq_true.1 agq t hm)⟩)
  ago
end Go.Proofs.YtfodoaiodagncaaGreatDoor
