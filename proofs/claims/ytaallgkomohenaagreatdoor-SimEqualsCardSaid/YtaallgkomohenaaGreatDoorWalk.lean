/-
  Proved here: Equal of the package and of the reference answer the same for every two lists, and the law answers true where 'examples' does. No other condition.
-/
import Derived.Test.YtaallgkomohenaaGreatDoorProg
import Derived.WalkKit
import Derived.RegionTactic
import Derived.ChangeAlike
import Derived.Below
namespace Go.Proofs.YtaallgkomohenaaGreatDoor
open Go
set_option maxRecDepth 100000
/-- the first place from k on at which two lists differ -/
def fd (zs ys : List Int) : Nat → Nat → Int
  | 0, _ => if zs.length = ys.length then -1 else (min zs.length ys.length : Nat)
  | f + 1, k => if zs.getD k 0 = ys.getD k 0 then fd zs ys f (k + 1) else k
theorem fd_eq {zs ys : List Int} {f k : Nat} (h : zs.getD k 0 = ys.getD k 0) : fd zs ys (f + 1) k = fd zs ys f (k + 1) := if_pos h
theorem fd_ne {zs ys : List Int} {f k : Nat} (h : zs.getD k 0 ≠ ys.getD k 0) : fd zs ys (f + 1) k = k := if_neg h
theorem gd (l : List Int) (k : Nat) (h : k < l.length) : l.getD k 0 = l[k] := by simp [h]
theorem eq4 (b off n1 c1 b' off' n2 c2 : Nat) (zs ys : List Int) (w : World) (h1 : zs.length = n1) (h2 : ys.length = n2) (hb1 : n1 ≤ 9223372036854775807) (hb2 : n2 ≤ 9223372036854775807)
    (hc1 : ∀ j, j < n1 → w.cell? ⟨b, off + j, none⟩ = some (.int .u64 (zs.getD j 0))) (hc2 : ∀ j, j < n2 → w.cell? ⟨b', off' + j, none⟩ = some (.int .u64 (ys.getD j 0))) {r : Int} (hr : r = fd zs ys (min n1 n2) 0) :
    Calls Tryz.prog 4 #[.slice (some ⟨b, off, none⟩) n1 c1, .slice (some ⟨b', off', none⟩) n2 c2] w fun e w' => e = .returned (.int .i64 r) ∧ Go.RowKit.Below w.heap.size w w' := by
  go_enter Tryz.func4, Tryz.ntmps4
  go_wp2
  case inr =>
    have hm : min n1 n2 = n1 := by omega
    rw [hm] at hr
    go_loopw [13] (fun v wr => ∃ k : Nat, k ≤ n1 ∧ v = .int .i64 k ∧ r = fd zs ys (n1 - k) k ∧ wr.heap = w.heap ∧ Go.RowKit.Below w.heap.size w wr) (fun v _ => match v with | .int _ n => n1 - n.toNat | _ => 0)
    case atStart => exact ⟨0, Nat.zero_le _, rfl, by simpa using hr, rfl, .refl _ _⟩
    case round =>
      obtain ⟨k, hk, rfl, hf, hh, hbl⟩ := hrel
      have hcw : ∀ a, wr.cell? a = w.cell? a := fun a => by simp only [World.cell?, hh]
      have hx : k < n1 → wr.cell? ⟨b, off + k, none⟩ = some (.int .u64 (zs.getD k 0)) := fun h => by rw [hcw]; exact hc1 k (by omega)
      have hy : k < n1 → wr.cell? ⟨b', off' + k, none⟩ = some (.int .u64 (ys.getD k 0)) := fun h => by rw [hcw]; exact hc2 k (by omega)
      have hk1 : k < n1 → k < n1 ∧ k < n2 := fun h => by omega
      have a1 : k < n1 → zs.getD k 0 ≠ ys.getD k 0 → (k : Int) = r := fun h1 h2 => by
        obtain ⟨f, hf1⟩ : ∃ f, n1 - k = f + 1 := ⟨n1 - k - 1, by omega⟩
        rw [hf, hf1, fd_ne h2]
      have a2 : k < n1 → zs.getD k 0 = ys.getD k 0 → r = fd zs ys (n1 - (k + 1)) (k + 1) := fun h1 h2 => by
        have hf1 : n1 - k = (n1 - (k + 1)) + 1 := by omega
        rw [hf, hf1, fd_eq h2]
      have a3 : ¬ k < n1 → n1 ≠ n2 → (n1 : Int) = r := fun h1 h2 => by
        rw [hf, show n1 - k = 0 by omega]
        simp only [fd]
        rw [if_neg (by omega)]
        omega
      have a4 : ¬ k < n1 → n1 = n2 → (-1 : Int) = r := fun h1 h2 => by
        rw [hf, show n1 - k = 0 by omega]
        simp only [fd]
        rw [if_pos (by omega)]
      have dr : Go.RowKit.Below w.heap.size w wr.drew := ⟨hbl.os, hbl.tape, hbl.output, hbl.size, hbl.block⟩
      go_wp2
      all_goals first
        | (go_region; all_goals go_wp2)
        | skip
      case roundEnd =>
        rename_i hlt hne
        have hlt : k < n1 := by assumption
        have e : zs.getD k 0 = ys.getD k 0 := by
          have : k < zs.length := by omega
          have : k < ys.length := by omega
          rw [gd _ _ ‹k < zs.length›, gd _ _ ‹k < ys.length›]
          simpa using hne
        exact ⟨⟨k + 1, by omega, by simp, a2 hlt e, hh, dr⟩, by simp; omega⟩
      all_goals go_ret
      all_goals refine ⟨?_, by first | exact hbl | exact dr⟩
      all_goals show Ending.returned (.int .i64 _) = _
      all_goals rename_i q
      all_goals first
        | (have q0 : (n1 : Int) ≠ n2 := by simpa using q
           have q1 : n1 ≠ n2 := by omega
           exact congrArg (fun z => Ending.returned (.int .i64 z)) (a3 (by assumption) q1))
        | (have q0 : (n1 : Int) = n2 := by simpa using q
           have q1 : n1 = n2 := by omega
           exact congrArg (fun z => Ending.returned (.int .i64 z)) (a4 (by assumption) q1))
        | (have l1 : k < zs.length := by omega
           have l2 : k < ys.length := by omega
           have ne : zs.getD k 0 ≠ ys.getD k 0 := by
             rw [gd _ _ l1, gd _ _ l2]
             simpa using q
           exact congrArg (fun z => Ending.returned (.int .i64 z)) (a1 (by assumption) ne))
  case inl =>
    have hm : min n1 n2 = n2 := by omega
    rw [hm] at hr
    go_loopw [13] (fun v wr => ∃ k : Nat, k ≤ n2 ∧ v = .int .i64 k ∧ r = fd zs ys (n2 - k) k ∧ wr.heap = w.heap ∧ Go.RowKit.Below w.heap.size w wr) (fun v _ => match v with | .int _ n => n2 - n.toNat | _ => 0)
    case atStart => exact ⟨0, Nat.zero_le _, rfl, by simpa using hr, rfl, .refl _ _⟩
    case round =>
      obtain ⟨k, hk, rfl, hf, hh, hbl⟩ := hrel
      have hcw : ∀ a, wr.cell? a = w.cell? a := fun a => by simp only [World.cell?, hh]
      have hx : k < n2 → wr.cell? ⟨b, off + k, none⟩ = some (.int .u64 (zs.getD k 0)) := fun h => by rw [hcw]; exact hc1 k (by omega)
      have hy : k < n2 → wr.cell? ⟨b', off' + k, none⟩ = some (.int .u64 (ys.getD k 0)) := fun h => by rw [hcw]; exact hc2 k (by omega)
      have hk1 : k < n2 → k < n1 ∧ k < n2 := fun h => by omega
      have a1 : k < n2 → zs.getD k 0 ≠ ys.getD k 0 → (k : Int) = r := fun h1 h2 => by
        obtain ⟨f, hf1⟩ : ∃ f, n2 - k = f + 1 := ⟨n2 - k - 1, by omega⟩
        rw [hf, hf1, fd_ne h2]
      have a2 : k < n2 → zs.getD k 0 = ys.getD k 0 → r = fd zs ys (n2 - (k + 1)) (k + 1) := fun h1 h2 => by
        have hf1 : n2 - k = (n2 - (k + 1)) + 1 := by omega
        rw [hf, hf1, fd_eq h2]
      have a3 : ¬ k < n2 → n1 ≠ n2 → (n2 : Int) = r := fun h1 h2 => by
        rw [hf, show n2 - k = 0 by omega]
        simp only [fd]
        rw [if_neg (by omega)]
        omega
      have a4 : ¬ k < n2 → n1 = n2 → (-1 : Int) = r := fun h1 h2 => by
        rw [hf, show n2 - k = 0 by omega]
        simp only [fd]
        rw [if_pos (by omega)]
      have dr : Go.RowKit.Below w.heap.size w wr.drew := ⟨hbl.os, hbl.tape, hbl.output, hbl.size, hbl.block⟩
      go_wp2
      all_goals first
        | (go_region; all_goals go_wp2)
        | skip
      case roundEnd =>
        rename_i hlt hne
        have hlt : k < n2 := by assumption
        have e : zs.getD k 0 = ys.getD k 0 := by
          have : k < zs.length := by omega
          have : k < ys.length := by omega
          rw [gd _ _ ‹k < zs.length›, gd _ _ ‹k < ys.length›]
          simpa using hne
        exact ⟨⟨k + 1, by omega, by simp, a2 hlt e, hh, dr⟩, by simp; omega⟩
      all_goals go_ret
      all_goals refine ⟨?_, by first | exact hbl | exact dr⟩
      all_goals show Ending.returned (.int .i64 _) = _
      all_goals rename_i q
      all_goals first
        | (have q0 : (n1 : Int) ≠ n2 := by simpa using q
           have q1 : n1 ≠ n2 := by omega
           exact congrArg (fun z => Ending.returned (.int .i64 z)) (a3 (by assumption) q1))
        | (have q0 : (n1 : Int) = n2 := by simpa using q
           have q1 : n1 = n2 := by omega
           exact congrArg (fun z => Ending.returned (.int .i64 z)) (a4 (by assumption) q1))
        | (have l1 : k < zs.length := by omega
           have l2 : k < ys.length := by omega
           have ne : zs.getD k 0 ≠ ys.getD k 0 := by
             rw [gd _ _ l1, gd _ _ l2]
             simpa using q
           exact congrArg (fun z => Ending.returned (.int .i64 z)) (a1 (by assumption) ne))
theorem eq5 (b off n1 c1 b' off' n2 c2 : Nat) (zs ys : List Int) (w : World) (h1 : zs.length = n1) (h2 : ys.length = n2) (hb1 : n1 ≤ 9223372036854775807) (hb2 : n2 ≤ 9223372036854775807)
    (hc1 : ∀ j, j < n1 → w.cell? ⟨b, off + j, none⟩ = some (.int .u64 (zs.getD j 0))) (hc2 : ∀ j, j < n2 → w.cell? ⟨b', off' + j, none⟩ = some (.int .u64 (ys.getD j 0))) {r : Int} (hr : r = fd zs ys (min n1 n2) 0) :
    Calls Tryz.prog 5 #[.slice (some ⟨b, off, none⟩) n1 c1, .slice (some ⟨b', off', none⟩) n2 c2] w fun e w' => e = .returned (.int .i64 r) ∧ Go.RowKit.Below w.heap.size w w' := by
  go_enter Tryz.func5, Tryz.ntmps5
  go_wp2
  case inr =>
    have hm : min n1 n2 = n1 := by omega
    rw [hm] at hr
    go_loopw [6] (fun v wr => ∃ k : Nat, k ≤ n1 ∧ v = .int .i64 k ∧ r = fd zs ys (n1 - k) k ∧ wr.heap = w.heap ∧ Go.RowKit.Below w.heap.size w wr) (fun v _ => match v with | .int _ n => n1 - n.toNat | _ => 0)
    case atStart => exact ⟨0, Nat.zero_le _, rfl, by simpa using hr, rfl, .refl _ _⟩
    case round =>
      obtain ⟨k, hk, rfl, hf, hh, hbl⟩ := hrel
      have hcw : ∀ a, wr.cell? a = w.cell? a := fun a => by simp only [World.cell?, hh]
      have hx : k < n1 → wr.cell? ⟨b, off + k, none⟩ = some (.int .u64 (zs.getD k 0)) := fun h => by rw [hcw]; exact hc1 k (by omega)
      have hy : k < n1 → wr.cell? ⟨b', off' + k, none⟩ = some (.int .u64 (ys.getD k 0)) := fun h => by rw [hcw]; exact hc2 k (by omega)
      have hk1 : k < n1 → k < n1 ∧ k < n2 := fun h => by omega
      have a1 : k < n1 → zs.getD k 0 ≠ ys.getD k 0 → (k : Int) = r := fun h1 h2 => by
        obtain ⟨f, hf1⟩ : ∃ f, n1 - k = f + 1 := ⟨n1 - k - 1, by omega⟩
        rw [hf, hf1, fd_ne h2]
      have a2 : k < n1 → zs.getD k 0 = ys.getD k 0 → r = fd zs ys (n1 - (k + 1)) (k + 1) := fun h1 h2 => by
        have hf1 : n1 - k = (n1 - (k + 1)) + 1 := by omega
        rw [hf, hf1, fd_eq h2]
      have a3 : ¬ k < n1 → n1 ≠ n2 → (n1 : Int) = r := fun h1 h2 => by
        rw [hf, show n1 - k = 0 by omega]
        simp only [fd]
        rw [if_neg (by omega)]
        omega
      have a4 : ¬ k < n1 → n1 = n2 → (-1 : Int) = r := fun h1 h2 => by
        rw [hf, show n1 - k = 0 by omega]
        simp only [fd]
        rw [if_pos (by omega)]
      have dr : Go.RowKit.Below w.heap.size w wr.drew := ⟨hbl.os, hbl.tape, hbl.output, hbl.size, hbl.block⟩
      go_wp2
      all_goals first
        | (go_region; all_goals go_wp2)
        | skip
      case roundEnd =>
        rename_i hlt hne
        have hlt : k < n1 := by assumption
        have e : zs.getD k 0 = ys.getD k 0 := by
          have : k < zs.length := by omega
          have : k < ys.length := by omega
          rw [gd _ _ ‹k < zs.length›, gd _ _ ‹k < ys.length›]
          simpa using hne
        exact ⟨⟨k + 1, by omega, by simp, a2 hlt e, hh, dr⟩, by simp; omega⟩
      all_goals go_ret
      all_goals refine ⟨?_, by first | exact hbl | exact dr⟩
      all_goals show Ending.returned (.int .i64 _) = _
      all_goals rename_i q
      all_goals first
        | (have q0 : (n1 : Int) ≠ n2 := by simpa using q
           have q1 : n1 ≠ n2 := by omega
           exact congrArg (fun z => Ending.returned (.int .i64 z)) (a3 (by assumption) q1))
        | (have q0 : (n1 : Int) = n2 := by simpa using q
           have q1 : n1 = n2 := by omega
           exact congrArg (fun z => Ending.returned (.int .i64 z)) (a4 (by assumption) q1))
        | (have l1 : k < zs.length := by omega
           have l2 : k < ys.length := by omega
           have ne : zs.getD k 0 ≠ ys.getD k 0 := by
             rw [gd _ _ l1, gd _ _ l2]
             simpa using q
           exact congrArg (fun z => Ending.returned (.int .i64 z)) (a1 (by assumption) ne))
  case inl =>
    have hm : min n1 n2 = n2 := by omega
    rw [hm] at hr
    go_loopw [6] (fun v wr => ∃ k : Nat, k ≤ n2 ∧ v = .int .i64 k ∧ r = fd zs ys (n2 - k) k ∧ wr.heap = w.heap ∧ Go.RowKit.Below w.heap.size w wr) (fun v _ => match v with | .int _ n => n2 - n.toNat | _ => 0)
    case atStart => exact ⟨0, Nat.zero_le _, rfl, by simpa using hr, rfl, .refl _ _⟩
    case round =>
      obtain ⟨k, hk, rfl, hf, hh, hbl⟩ := hrel
      have hcw : ∀ a, wr.cell? a = w.cell? a := fun a => by simp only [World.cell?, hh]
      have hx : k < n2 → wr.cell? ⟨b, off + k, none⟩ = some (.int .u64 (zs.getD k 0)) := fun h => by rw [hcw]; exact hc1 k (by omega)
      have hy : k < n2 → wr.cell? ⟨b', off' + k, none⟩ = some (.int .u64 (ys.getD k 0)) := fun h => by rw [hcw]; exact hc2 k (by omega)
      have hk1 : k < n2 → k < n1 ∧ k < n2 := fun h => by omega
      have a1 : k < n2 → zs.getD k 0 ≠ ys.getD k 0 → (k : Int) = r := fun h1 h2 => by
        obtain ⟨f, hf1⟩ : ∃ f, n2 - k = f + 1 := ⟨n2 - k - 1, by omega⟩
        rw [hf, hf1, fd_ne h2]
      have a2 : k < n2 → zs.getD k 0 = ys.getD k 0 → r = fd zs ys (n2 - (k + 1)) (k + 1) := fun h1 h2 => by
        have hf1 : n2 - k = (n2 - (k + 1)) + 1 := by omega
        rw [hf, hf1, fd_eq h2]
      have a3 : ¬ k < n2 → n1 ≠ n2 → (n2 : Int) = r := fun h1 h2 => by
        rw [hf, show n2 - k = 0 by omega]
        simp only [fd]
        rw [if_neg (by omega)]
        omega
      have a4 : ¬ k < n2 → n1 = n2 → (-1 : Int) = r := fun h1 h2 => by
        rw [hf, show n2 - k = 0 by omega]
        simp only [fd]
        rw [if_pos (by omega)]
      have dr : Go.RowKit.Below w.heap.size w wr.drew := ⟨hbl.os, hbl.tape, hbl.output, hbl.size, hbl.block⟩
      go_wp2
      all_goals first
        | (go_region; all_goals go_wp2)
        | skip
      case roundEnd =>
        rename_i hlt hne
        have hlt : k < n2 := by assumption
        have e : zs.getD k 0 = ys.getD k 0 := by
          have : k < zs.length := by omega
          have : k < ys.length := by omega
          rw [gd _ _ ‹k < zs.length›, gd _ _ ‹k < ys.length›]
          simpa using hne
        exact ⟨⟨k + 1, by omega, by simp, a2 hlt e, hh, dr⟩, by simp; omega⟩
      all_goals go_ret
      all_goals refine ⟨?_, by first | exact hbl | exact dr⟩
      all_goals show Ending.returned (.int .i64 _) = _
      all_goals rename_i q
      all_goals first
        | (have q0 : (n1 : Int) ≠ n2 := by simpa using q
           have q1 : n1 ≠ n2 := by omega
           exact congrArg (fun z => Ending.returned (.int .i64 z)) (a3 (by assumption) q1))
        | (have q0 : (n1 : Int) = n2 := by simpa using q
           have q1 : n1 = n2 := by omega
           exact congrArg (fun z => Ending.returned (.int .i64 z)) (a4 (by assumption) q1))
        | (have l1 : k < zs.length := by omega
           have l2 : k < ys.length := by omega
           have ne : zs.getD k 0 ≠ ys.getD k 0 := by
             rw [gd _ _ l1, gd _ _ l2]
             simpa using q
           exact congrArg (fun z => Ending.returned (.int .i64 z)) (a1 (by assumption) ne))
end Go.Proofs.YtaallgkomohenaaGreatDoor
namespace Go.Proofs.YtaallgkomohenaaGreatDoor
open Go
set_option maxRecDepth 100000
theorem z4a (a b : Option Addr) (c1 n2 c2 : Nat) (w : World) {r : Int} (hp : 0 = n2 → (-1 : Int) = r) (hn : 0 ≠ n2 → (0 : Int) = r) : Calls Tryz.prog 4 #[.slice a 0 c1, .slice b n2 c2] w fun e w' => e = .returned (.int .i64 r) ∧ w' = w := by
  go_enter Tryz.func4, Tryz.ntmps4
  go_wp2
  all_goals try (exfalso; omega)
  all_goals go_loopw [13] (fun v wr => v = .int .i64 0 ∧ wr = w) (fun _ _ => 0)
  all_goals first | exact ⟨rfl, rfl⟩ | skip
  all_goals obtain ⟨rfl, rfl⟩ := hrel
  all_goals go_wp2
  all_goals try (exfalso; omega)
  all_goals rename_i q
  all_goals go_ret
  all_goals refine ⟨?_, rfl⟩
  all_goals show Ending.returned (.int .i64 _) = _
  all_goals first
    | (have q0 : (0 : Int) ≠ n2 := by simpa using q
       have q1 : 0 ≠ n2 := by omega
       exact congrArg (fun z => Ending.returned (.int .i64 z)) (hn q1))
    | (have q0 : (0 : Int) = n2 := by simpa using q
       have q1 : 0 = n2 := by omega
       exact congrArg (fun z => Ending.returned (.int .i64 z)) (hp q1))
theorem z4b (a b : Option Addr) (c1 n1 c2 : Nat) (w : World) {r : Int} (hp : n1 = 0 → (-1 : Int) = r) (hn : n1 ≠ 0 → (0 : Int) = r) : Calls Tryz.prog 4 #[.slice a n1 c1, .slice b 0 c2] w fun e w' => e = .returned (.int .i64 r) ∧ w' = w := by
  go_enter Tryz.func4, Tryz.ntmps4
  go_wp2
  all_goals try (exfalso; omega)
  all_goals go_loopw [13] (fun v wr => v = .int .i64 0 ∧ wr = w) (fun _ _ => 0)
  all_goals first | exact ⟨rfl, rfl⟩ | skip
  all_goals obtain ⟨rfl, rfl⟩ := hrel
  all_goals go_wp2
  all_goals try (exfalso; omega)
  all_goals rename_i q
  all_goals go_ret
  all_goals refine ⟨?_, rfl⟩
  all_goals show Ending.returned (.int .i64 _) = _
  all_goals first
    | (have q0 : (n1 : Int) ≠ 0 := by simpa using q
       have q1 : n1 ≠ 0 := by omega
       exact congrArg (fun z => Ending.returned (.int .i64 z)) (hn q1))
    | (have q0 : (n1 : Int) = 0 := by simpa using q
       have q1 : n1 = 0 := by omega
       exact congrArg (fun z => Ending.returned (.int .i64 z)) (hp q1))
theorem z5a (a b : Option Addr) (c1 n2 c2 : Nat) (w : World) {r : Int} (hp : 0 = n2 → (-1 : Int) = r) (hn : 0 ≠ n2 → (0 : Int) = r) : Calls Tryz.prog 5 #[.slice a 0 c1, .slice b n2 c2] w fun e w' => e = .returned (.int .i64 r) ∧ w' = w := by
  go_enter Tryz.func5, Tryz.ntmps5
  go_wp2
  all_goals try (exfalso; omega)
  all_goals go_loopw [6] (fun v wr => v = .int .i64 0 ∧ wr = w) (fun _ _ => 0)
  all_goals first | exact ⟨rfl, rfl⟩ | skip
  all_goals obtain ⟨rfl, rfl⟩ := hrel
  all_goals go_wp2
  all_goals try (exfalso; omega)
  all_goals rename_i q
  all_goals go_ret
  all_goals refine ⟨?_, rfl⟩
  all_goals show Ending.returned (.int .i64 _) = _
  all_goals first
    | (have q0 : (0 : Int) ≠ n2 := by simpa using q
       have q1 : 0 ≠ n2 := by omega
       exact congrArg (fun z => Ending.returned (.int .i64 z)) (hn q1))
    | (have q0 : (0 : Int) = n2 := by simpa using q
       have q1 : 0 = n2 := by omega
       exact congrArg (fun z => Ending.returned (.int .i64 z)) (hp q1))
theorem z5b (a b : Option Addr) (c1 n1 c2 : Nat) (w : World) {r : Int} (hp : n1 = 0 → (-1 : Int) = r) (hn : n1 ≠ 0 → (0 : Int) = r) : Calls Tryz.prog 5 #[.slice a n1 c1, .slice b 0 c2] w fun e w' => e = .returned (.int .i64 r) ∧ w' = w := by
  go_enter Tryz.func5, Tryz.ntmps5
  go_wp2
  all_goals try (exfalso; omega)
  all_goals go_loopw [6] (fun v wr => v = .int .i64 0 ∧ wr = w) (fun _ _ => 0)
  all_goals first | exact ⟨rfl, rfl⟩ | skip
  all_goals obtain ⟨rfl, rfl⟩ := hrel
  all_goals go_wp2
  all_goals try (exfalso; omega)
  all_goals rename_i q
  all_goals go_ret
  all_goals refine ⟨?_, rfl⟩
  all_goals show Ending.returned (.int .i64 _) = _
  all_goals first
    | (have q0 : (n1 : Int) ≠ 0 := by simpa using q
       have q1 : n1 ≠ 0 := by omega
       exact congrArg (fun z => Ending.returned (.int .i64 z)) (hn q1))
    | (have q0 : (n1 : Int) = 0 := by simpa using q
       have q1 : n1 = 0 := by omega
       exact congrArg (fun z => Ending.returned (.int .i64 z)) (hp q1))
end Go.Proofs.YtaallgkomohenaaGreatDoor
namespace Go.Proofs.YtaallgkomohenaaGreatDoor
open Go Go.RowKit
set_option maxRecDepth 100000
/-- a slice of numbers, as memory has it -/
def Ints (w : World) (v : Value) (zs : List Int) : Prop := ∃ a c, v = .slice a zs.length c ∧ zs.length ≤ 9223372036854775807 ∧
  ∀ j, j < zs.length → ∃ b off, a = some ⟨b, off, none⟩ ∧ w.cell? ⟨b, off + j, none⟩ = some (.int .u64 (zs.getD j 0))
theorem cell_below {w w' : World} (hb : Below w.heap.size w w') {b o : Nat} {v : Value} (h : w.cell? ⟨b, o, none⟩ = some v) : w'.cell? ⟨b, o, none⟩ = some v := by
  have hlt : b < w.heap.size := by
    rcases Nat.lt_or_ge b w.heap.size with h1 | h1
    · exact h1
    · simp [World.cell?, Array.getElem?_eq_none h1] at h
  rw [← h]
  simp only [World.cell?, hb.block b hlt]
theorem Ints.below {w w' : World} {v : Value} {zs : List Int} (h : Ints w v zs) (hb : Below w.heap.size w w') : Ints w' v zs := by
  obtain ⟨a, c, h1, h2, h3⟩ := h
  refine ⟨a, c, h1, h2, fun j hj => ?_⟩
  obtain ⟨b, off, h4, h5⟩ := h3 j hj
  exact ⟨b, off, h4, cell_below hb h5⟩
theorem equal {w : World} {v1 v2 : Value} {zs ys : List Int} (h1 : Ints w v1 zs) (h2 : Ints w v2 ys) {r : Int} (hr : r = fd zs ys (min zs.length ys.length) 0) :
    (Calls Tryz.prog 4 #[v1, v2] w fun e w' => e = .returned (.int .i64 r) ∧ Below w.heap.size w w') ∧ (Calls Tryz.prog 5 #[v1, v2] w fun e w' => e = .returned (.int .i64 r) ∧ Below w.heap.size w w') := by
  obtain ⟨a, c1, rfl, hb1, hc1⟩ := h1
  obtain ⟨b, c2, rfl, hb2, hc2⟩ := h2
  by_cases hz : zs.length = 0
  · rw [hz] at hr ⊢
    have hm : min 0 ys.length = 0 := by omega
    rw [hm] at hr
    simp only [fd, hz] at hr
    have hp : 0 = ys.length → (-1 : Int) = r := fun h => by rw [hr, if_pos h]
    have hn : 0 ≠ ys.length → (0 : Int) = r := fun h => by rw [hr, if_neg h]; simp
    exact ⟨(z4a a b c1 ys.length c2 w hp hn).mono (by rintro e w' ⟨rfl, rfl⟩; exact ⟨rfl, .refl _ _⟩), (z5a a b c1 ys.length c2 w hp hn).mono (by rintro e w' ⟨rfl, rfl⟩; exact ⟨rfl, .refl _ _⟩)⟩
  · by_cases hy : ys.length = 0
    · rw [hy] at hr ⊢
      have hm : min zs.length 0 = 0 := by omega
      rw [hm] at hr
      simp only [fd, hy] at hr
      have hp : zs.length = 0 → (-1 : Int) = r := fun h => absurd h hz
      have hn : zs.length ≠ 0 → (0 : Int) = r := fun h => by rw [hr, if_neg h]; simp
      exact ⟨(z4b a b c1 zs.length c2 w hp hn).mono (by rintro e w' ⟨rfl, rfl⟩; exact ⟨rfl, .refl _ _⟩), (z5b a b c1 zs.length c2 w hp hn).mono (by rintro e w' ⟨rfl, rfl⟩; exact ⟨rfl, .refl _ _⟩)⟩
    · obtain ⟨b1, o1, rfl, _⟩ := hc1 0 (by omega)
      obtain ⟨b2, o2, rfl, _⟩ := hc2 0 (by omega)
      have g1 : ∀ j, j < zs.length → w.cell? ⟨b1, o1 + j, none⟩ = some (.int .u64 (zs.getD j 0)) := fun j hj => by
        obtain ⟨x, y, h3, h4⟩ := hc1 j hj
        cases h3
        exact h4
      have g2 : ∀ j, j < ys.length → w.cell? ⟨b2, o2 + j, none⟩ = some (.int .u64 (ys.getD j 0)) := fun j hj => by
        obtain ⟨x, y, h3, h4⟩ := hc2 j hj
        cases h3
        exact h4
      exact ⟨eq4 b1 o1 _ c1 b2 o2 _ c2 zs ys w rfl rfl hb1 hb2 g1 g2 hr, eq5 b1 o1 _ c1 b2 o2 _ c2 zs ys w rfl rfl hb1 hb2 g1 g2 hr⟩
theorem law {w : World} {v1 v2 : Value} {zs ys : List Int} (h1 : Ints w v1 zs) (h2 : Ints w v2 ys)
    (hex : ∀ w', Below w.heap.size w w' → Calls Tryz.prog 6 #[] w' fun e w2 => e = .returned (.bool true) ∧ Below w'.heap.size w' w2) :
    Calls Tryz.prog 3 #[v1, v2] w fun e w' => e = .returned (.bool true) ∧ Below w.heap.size w w' := by
  have c4 := (equal h1 h2 rfl).1
  have c5 : ∀ w', Below w.heap.size w w' → Calls Tryz.prog 5 #[v1, v2] w' _ := fun w' hb => (equal (h1.below hb) (h2.below hb) rfl).2
  go_enter Tryz.func3, Tryz.ntmps3
  go_wp2_with (first | (go_at_call 4; refine c4.mono ?_; rintro e w1 ⟨rfl, hb1⟩) | (go_at_call 5; refine (c5 _ hb1).mono ?_; rintro e w2 ⟨rfl, hb2⟩) | (go_at_call 6; refine (hex _ (hb1.trans (hb2.mono hb1.size))).mono ?_; rintro e w3 ⟨rfl, hb3⟩))
  go_ret
  exact ⟨rfl, (hb1.trans (hb2.mono hb1.size)).trans (hb3.mono (Nat.le_trans hb1.size hb2.size))⟩
end Go.Proofs.YtaallgkomohenaaGreatDoor
