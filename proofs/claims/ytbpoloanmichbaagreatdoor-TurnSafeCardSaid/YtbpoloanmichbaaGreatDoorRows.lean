/-
  NARROWER THAN 'FOR EVERY INPUT', by the rows' own cells (each row's printed sentence says how): TurnSafe: laid.
  DERIVED. THE GIVEN ROWS OF THIS SEAT. 1 by the template 'for every input the law returns true; each argument reads behind the call as it read before'; 0 by the template 'total and deterministic' (their statements: YtbpoloanmichbaaGreatDoorTotals.lean).
  GIVEN WITH THE SEED: the statements are not yours to turn. If you find one false, say at which input.
  Laid BY PROGRAM, IN A SANDBOX (cutbox-rows.mjs): the forced cells as the released guide's own fill.sh prints them over the translation f99b01f3532037fa… (all of the seat's roots in one cut). By AI agents, Wed Nov 11 2026. No macro, syntax, notation, axiom, sorry.
-/
import Derived.Test.YtbpoloanmichbaaGreatDoorChecked
import GoSem.Claim
import GoSem.ClaimJoined
import GoSem.ClaimMapViews
import Derived.JoinedTies
import Derived.KernelRfl
namespace Go.Proofs.YtbpoloanmichbaaGreatDoor
/- THE CELL 'sum', in the pinned program and in every row, IS THE sha256 OF THE DUMP (.gsa) THAT YtbpoloanmichbaaGreatDoorProg.lean LOADS. Nothing in Lean hashes anything: it is a label: what it is worth is what the hold of that sum in a sandbox is worth. -/
noncomputable def Tryz.pinned : Pinned := { name := "ytbpoloanmichbaagreatdoor", sum := "f99b01f3532037faeeedbeeb65c531fd9e99dc7c3f658f99e1b5738c52bbf44b", checked := Tryz.checked }
namespace Rows
def none {H : Type} : Left H := { results := [], args := [] }

/- WHAT THE LISTED PACKAGE-LEVEL VARIABLES READ AS WHEN THE CALL BEGINS. Each datum BY PROGRAM (the guide's laid-datum.mjs) off the statement by which the dump's own 'gosem.cut.vars' lays the variable. In a bare row this is a premise. The card (YtbpoloanmichbaaGreatDoorCards.lean) ties it to the program's text. -/
def laid_skirmish_terrain_passable {H : Type} : DataW H := .agg [.agg [.lit (.bool false), .lit (.bool false), .lit (.bool false), .lit (.bool false), .lit (.bool false), .lit (.bool false)], .agg [.lit (.bool false), .lit (.bool true), .lit (.bool false), .lit (.bool false), .lit (.bool false), .lit (.bool true)], .agg [.lit (.bool false), .lit (.bool true), .lit (.bool true), .lit (.bool false), .lit (.bool false), .lit (.bool true)], .agg [.lit (.bool false), .lit (.bool true), .lit (.bool true), .lit (.bool true), .lit (.bool true), .lit (.bool true)]]

/-- 'skirmishlaw44.TurnSafe': WHATEVER THE INPUT: true; the input reads as it did. -/
def turnSafeSpec : ChangeSpec := { name := "turnSafe", fn := fun _ => fun
  | [d] => { results := [.lit (.bool true)], args := [d] }
  | _ => none }
def turnSafeRow : OpenClaim := { program := "ytbpoloanmichbaagreatdoor", sum := "f99b01f3532037faeeedbeeb65c531fd9e99dc7c3f658f99e1b5738c52bbf44b", func := "skirmish/skirmishlaw44.TurnSafe", spec := "turnSafe", inPlace := ["slices.overlaps[skirmish/api.Entity]", "slices.overlaps[string]", "slices.overlaps[skirmish/api.Sighting]"], unfollowed := true, recurses := true, named := ["skirmish/terrain.passable"], plainKeys := false, apart := false, laid := [("skirmish/terrain.passable", laid_skirmish_terrain_passable)] }
def TurnSafeSaid : Prop := turnSafeRow.holds Tryz.pinned (OpenSpec.ofChange turnSafeSpec)

/-- ITS FALSE NEIGHBOUR: 'it returns false'. Refute it at one input. -/
def turnSafeWrong : ChangeSpec := { name := "turnSafe", fn := fun _ => fun
  | [d] => { results := [.lit (.bool false)], args := [d] }
  | _ => none }
def TurnSafeWrongFalsely : Prop := turnSafeRow.holds Tryz.pinned (OpenSpec.ofChange turnSafeWrong)

/- THE SECOND FORM. 'bulk': how many values and letters a reading holds, each counted each time it is reached (what is shared counts as often as it is met; a slice's spare places count too). A statement '..UptoSaid' is the law's where the arguments, and the package variables that the reading takes, are together of bulk at most 1048576: NARROWER than '..Said'. Prove '..Said' where nothing that the law and all that it calls make is longer than what came in: it says more and counts as full. Else prove '..UptoSaid'. A law counts once. -/
mutual
def uptoBulk {H : Type} : DataW H → Nat
  | .lit (.string bytes) => bytes.length + 1
  | .lit _ => 1
  | .nil => 1
  | .ptr d => uptoBulk d + 1
  | .slice elems spare => uptoBulkAll elems + uptoBulkAll spare + 1
  | .agg parts => uptoBulkAll parts + 1
  | .iface _ d => uptoBulk d + 1
  | .map entries => uptoBulkEntries entries + 1
  | .held _ => 1
def uptoBulkAll {H : Type} : List (DataW H) → Nat
  | [] => 0
  | d :: r => uptoBulk d + uptoBulkAll r
def uptoBulkEntries {H : Type} : List (Lit × DataW H) → Nat
  | [] => 0
  | x :: r => uptoBulkEntry x + uptoBulkEntries r
def uptoBulkEntry {H : Type} : Lit × DataW H → Nat
  | (.string bytes, d) => bytes.length + uptoBulk d + 1
  | (_, d) => uptoBulk d + 1
 end
def uptoSmall : (H : Type) → List (DataW H) → Bool := fun _ ds => decide (uptoBulkAll ds ≤ 1048576)
def OpenSpec.upto (s : _root_.Go.ChangeSpec) : _root_.Go.OpenSpec := { _root_.Go.OpenSpec.ofChange s with cond := some uptoSmall }

/-- 'skirmishlaw44.TurnSafe', WHERE WHAT IT READS IS OF BULK AT MOST 1048576: true; the input reads as it did. -/
def turnSafeUptoRow : OpenClaim := { program := "ytbpoloanmichbaagreatdoor", sum := "f99b01f3532037faeeedbeeb65c531fd9e99dc7c3f658f99e1b5738c52bbf44b", func := "skirmish/skirmishlaw44.TurnSafe", spec := "turnSafe", inPlace := ["slices.overlaps[skirmish/api.Entity]", "slices.overlaps[string]", "slices.overlaps[skirmish/api.Sighting]"], unfollowed := true, recurses := true, named := ["skirmish/terrain.passable"], plainKeys := false, apart := false, laid := [("skirmish/terrain.passable", laid_skirmish_terrain_passable)], narrowed := true }
def TurnSafeUptoSaid : Prop := turnSafeUptoRow.holds Tryz.pinned (OpenSpec.upto turnSafeSpec)

end Rows
end Go.Proofs.YtbpoloanmichbaaGreatDoor
