/-
  Proved here: Version of the package and of the reference answer the same for every text, and the law's own body answers true where 'awake' does. No condition but that on 'awake', which stands in the theorem 'law'.
-/
import Derived.Test.YthhkgbbmaimgkaaGreatDoorChecked
import Derived.WalkKit
namespace Go.Proofs.YthhkgbbmaimgkaaGreatDoor
open Go
set_option maxRecDepth 100000
/-- what Version yields for a text that begins with this byte -/
def ver (b : UInt8) : Int × Int := if (b.toNat : Int) < 1 ∨ (3 : Int) < b.toNat then (0, 15) else (b.toNat, 0)
theorem at0 (b : UInt8) (r : List UInt8) (h : 0 < ({ data := { toList := b :: r } } : ByteArray).size) : (({ data := { toList := b :: r } } : ByteArray)[0]'h) = b := rfl
theorem v5_nil (w : World) : Calls Tryz.prog 5 #[.string ⟨#[]⟩] w fun e w' => e = .returned (.tuple #[.int .i64 0, .int .i64 4]) ∧ w' = w := by
  go_enter Tryz.func5, Tryz.ntmps5
  go_wp2
  go_ret2
  exact ⟨rfl, rfl⟩
theorem v6_nil (w : World) : Calls Tryz.prog 6 #[.string ⟨#[]⟩] w fun e w' => e = .returned (.tuple #[.int .i64 0, .int .i64 4]) ∧ w' = w := by
  go_enter Tryz.func6, Tryz.ntmps6
  go_wp2
  go_ret2
  exact ⟨rfl, rfl⟩
theorem v5_cons (b : UInt8) (r : List UInt8) (w : World) : Calls Tryz.prog 5 #[.string ⟨⟨b :: r⟩⟩] w fun e w' => e = .returned (.tuple #[.int .i64 (ver b).1, .int .i64 (ver b).2]) ∧ w' = w := by
  go_enter Tryz.func5, Tryz.ntmps5
  go_wp2
  all_goals go_ret2
  all_goals refine ⟨?_, rfl⟩
  all_goals simp only [at0] at *
  all_goals unfold ver
  all_goals first | (rw [if_pos (by omega)]; rfl) | (rw [if_neg (by omega)]; rfl)
theorem v6_cons (b : UInt8) (r : List UInt8) (w : World) : Calls Tryz.prog 6 #[.string ⟨⟨b :: r⟩⟩] w fun e w' => e = .returned (.tuple #[.int .i64 (ver b).1, .int .i64 (ver b).2]) ∧ w' = w := by
  go_enter Tryz.func6, Tryz.ntmps6
  go_wp2
  all_goals go_ret2
  all_goals refine ⟨?_, rfl⟩
  all_goals simp only [at0] at *
  all_goals unfold ver
  all_goals first | (rw [if_pos (by omega)]; rfl) | (rw [if_neg (by omega)]; rfl)
theorem version (s : ByteArray) : ∃ n e : Int, ∀ w : World, (Calls Tryz.prog 5 #[.string s] w fun x w' => x = .returned (.tuple #[.int .i64 n, .int .i64 e]) ∧ w' = w) ∧ (Calls Tryz.prog 6 #[.string s] w fun x w' => x = .returned (.tuple #[.int .i64 n, .int .i64 e]) ∧ w' = w) := by
  obtain ⟨⟨l⟩⟩ := s
  cases l with
  | nil => exact ⟨0, 4, fun w => ⟨v5_nil w, v6_nil w⟩⟩
  | cons b r => exact ⟨_, _, fun w => ⟨v5_cons b r w, v6_cons b r w⟩⟩
theorem law (s : ByteArray) (w : World) (ha : Calls Tryz.prog 4 #[] w fun e w' => e = .returned (.bool true) ∧ Go.RowKit.Below w.heap.size w w') : Calls Tryz.prog 3 #[.string s] w fun e w' => e = .returned (.bool true) ∧ Go.RowKit.Below w.heap.size w w' := by
  obtain ⟨n, x, hv⟩ := version s
  by_cases hs : s.size > 100000
  · go_enter Tryz.func3, Tryz.ntmps3
    go_wp2_with (first | (go_at_call 4; refine ha.mono ?_; rintro e w' ⟨rfl, hb⟩))
    go_ret
    exact ⟨rfl, hb⟩
  · go_enter Tryz.func3, Tryz.ntmps3
    go_wp2_with (first | (go_at_call 4; refine ha.mono ?_; rintro e w' ⟨rfl, hb⟩) | (go_at_call 5; refine (hv _).1.mono ?_; rintro e w' ⟨rfl, rfl⟩) | (go_at_call 6; refine (hv _).2.mono ?_; rintro e w' ⟨rfl, rfl⟩))
    go_ret
    exact ⟨rfl, hb⟩
end Go.Proofs.YthhkgbbmaimgkaaGreatDoor
