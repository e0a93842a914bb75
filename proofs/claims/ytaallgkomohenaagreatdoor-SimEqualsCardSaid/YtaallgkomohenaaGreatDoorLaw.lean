/-
  Proved here: the row of SimEquals: for every two lists the law answers true. Its conditions are the row's own: listed variables hold their data.
-/
import Derived.Test.YtaallgkomohenaaGreatDoorRows
import Derived.Test.YtaallgkomohenaaGreatDoorWalk
import Derived.Test.YtaallgkomohenaaGreatDoorClosed
import Derived.Test.YtaallgkomohenaaGreatDoorEval
import Derived.ProofKit
import Derived.OpenShut
import Derived.ShutString
import Derived.LaidMore
import Derived.Lay
import Derived.Carry
import Derived.ChangeSlices
import Derived.Stop.Joined
namespace Go.Proofs.YtaallgkomohenaaGreatDoor
open Go Go.ChangeShapes Go.WideShapes Go.ChangeAt Go.RowKit
open Go.Sim (lookG GlobIn globIn_look glob_of_laid)

theorem own : ownKnob Tryz.prog.godebug = none := by kernel_rfl
theorem cells26 : Tryz.prog.cellsOf 26 = 1 := by kernel_rfl
theorem globs {W : World} (h : laidMetH Tryz.prog Rows.simEqualsRow.laid W) : GlobIn Ex.GV W := by
  rw [MakeChecks.laidMetH_plain _ _ _ (by kernel_rfl)] at h
  refine globIn_look fun x hx => ?_
  obtain rfl := List.mem_singleton.1 hx
  exact glob_of_laid (n := "skirmish/terrain.passable") (d := Rows.laid_skirmish_terrain_passable) (t := 357) h (List.mem_of_getElem? (i := 0) rfl) (by kernel_rfl) (by kernel_rfl) (by kernel_rfl) rfl rfl
theorem globs_below {w w' : World} (h : GlobIn Ex.GV w) (hb : Below w.heap.size w w') : GlobIn Ex.GV w' := fun g l hg => by
  obtain ⟨h1, h2⟩ := h g l hg
  refine ⟨Nat.lt_of_lt_of_le h1 hb.size, fun k v hk => ?_⟩
  obtain ⟨h3, h4⟩ := h2 k v hk
  exact ⟨h3, by rw [← h4]; exact hb.cell (p := ⟨g, k, none⟩) h1⟩

set_option maxRecDepth 100000 in
/-- a slice of numbers that came in -/
theorem ints_of {H : Type} {enc : TypeId × Value → H} {W : World} {base : Nat} {v : Value} {d : DataW H} {p : List MemPlace} (hv : Value.okWide Tryz.prog W .any base 22 v) (h : DataW.Trod enc Tryz.prog W 0 (fun _ => true) true 22 v d p) : ∃ zs, Ints W v zs := by
  obtain ⟨a0, len, cap, rfl⟩ := okWide_slice Tryz.underlying22 hv
  obtain ⟨fuel, hf⟩ := h
  rcases open_ints Tryz.underlying22 Tryz.underlying26 cells26 hf with ⟨hcs, hx⟩ | ⟨a, len', cap', zs, hcs, _, hl, hm, hz, hx, hcell, hwz⟩
  · simp [Value.cells] at hcs
    obtain ⟨rfl, rfl, rfl⟩ := hcs
    exact ⟨[], none, 0, rfl, by simp, fun j hj => by simp at hj⟩
  · simp [Value.cells] at hcs
    obtain ⟨rfl, rfl, rfl⟩ := hcs
    simp only [if_true] at hz
    unfold maxLen at hm
    have hlen : (zs.take len).length = len := by simp; omega
    refine ⟨zs.take len, some a, cap, by rw [hlen], by rw [hlen]; omega, fun j hj => ?_⟩
    rw [hlen] at hj
    have hc := hcell j (by omega)
    have hg : (zs.take len).getD j 0 = zs.getD j 0 := by simp [List.getD, hj]
    rw [hg]
    cases hs : a.spot with
    | none =>
      obtain ⟨b, o, sp⟩ := a
      simp only at hs
      subst hs
      exact ⟨b, o, rfl, by rw [← hc, add_plain]⟩
    | some q =>
      have h0 := hcell 0 (by omega)
      simp [Addr.add, World.cell?, hs] at h0
      split at h0 <;> simp at h0

set_option maxRecDepth 100000 in
theorem lifted (os : Os) (started : os.Started) (H : Type) (enc : TypeId × Value → H) :
    ReturnsInHanded {} Tryz.checked os 3 .any (fun w args => (Rows.simEqualsSpec.pre enc Tryz.prog Tryz.f3 Rows.simEqualsRow.domain false w args ∧ laidMetH Tryz.prog Rows.simEqualsRow.laid w) ∧ sizedMet enc Tryz.prog Tryz.f3 (OpenSpec.ofChange Rows.simEqualsSpec) false w args)
      (Rows.simEqualsSpec.post enc Tryz.prog Tryz.f3 false true false false) := by
  refine returnsInHanded_of_change_and (C := Tryz.checked) (X := fun w _ => laidMetH Tryz.prog Rows.simEqualsRow.laid w) (fun _ _ _ hh h => h.of_heap hh) own started (by kernel_rfl) Tryz.func3
    (ChangeSpec.witness_shaped (enc := enc) (C := Tryz.checked) (os := os) (X := fun w _ => laidMetH Tryz.prog Rows.simEqualsRow.laid w) false (World.laidAll Tryz.prog os Rows.simEqualsRow.laid) #[.slice none 0 0, .slice none 0 0] 8 (World.laidAll_os _ _ _)
      (World.shaped_of_ZipB (by kernel_rfl) (by kernel_rfl)) (by kernel_rfl) (by kernel_rfl) (by kernel_rfl)
      (by rw [MakeChecks.laidMetH_plain _ _ _ (by kernel_rfl)]; exact laidMet_laidAll _ (by kernel_rfl) (by kernel_rfl))) ?_
  intro W base args ds gs before hval0 hW hc _ hL _
  have hval : ∀ (j : Nat) t v, Tryz.f3.params[j]? = some t → args[j]? = some v → Value.okWide Tryz.prog W .any base t v := hval0
  have hW' := hW
  obtain ⟨p, q, hA0, hV, rfl, _, _⟩ := hW
  have hA : DataW.TrodAll enc Tryz.prog W 0 (fun _ => true) true Tryz.f3.params.toList args.toList ds p := hA0
  rw [Tryz.params3] at hA hval
  obtain ⟨v0, v1, d0, d1, p0, p1, rfl, rfl, rfl, h0, h1⟩ := trodAll_two hA
  obtain ⟨rfl, rfl⟩ := trodVars_none hV
  obtain ⟨zs, i0⟩ := ints_of (hval 0 22 v0 rfl rfl) h0
  obtain ⟨ys, i1⟩ := ints_of (hval 1 22 v1 rfl rfl) h1
  clear hA0 hval0
  have hlt0 : ∀ x ∈ p0, x.block < W.heap.size := fun x hx => by have := hW'.lt x (by simp [hx]); simpa using this
  have hlt1 : ∀ x ∈ p1, x.block < W.heap.size := fun x hx => by have := hW'.lt x (by simp [hx]); simpa using this
  refine (law i0 i1 (fun w' hb => examplesOk (globs_below (globs hL) hb))).mono fun e W' ⟨he, bel⟩ => ?_
  subst he
  exact ⟨_, rfl, _, _, _, [], _, [], hW', trodAll_mk1 (shut_bool Tryz.underlying4 _), trodAll_mk2 (Below.trod limb1 (by kernel_rfl) (of_decide_eq_true (by kernel_rfl)) h0 bel hlt0) (Below.trod limb1 (by kernel_rfl) (of_decide_eq_true (by kernel_rfl)) h1 bel hlt1), rfl, bel.frame _, fun h => by cases h⟩

theorem over : Rows.SimEqualsSaid :=
  OpenClaim.holds_of_wide 3 Tryz.f3 rfl rfl rfl rfl rfl rfl rfl ⟨rfl, rfl, rfl, rfl, rfl⟩ rfl rfl rfl rfl rfl (by kernel_rfl) Tryz.func3 limbs
    (of_decide_eq_true (by kernel_rfl)) (by unfold Func.isWrapper; first | (rw [if_pos (by decide +kernel)]; kernel_rfl) | (rw [if_neg (by decide +kernel)]; exact ⟨rfl, rfl⟩))
    (fun os started H enc _ => lifted os started H enc)
end Go.Proofs.YtaallgkomohenaaGreatDoor
