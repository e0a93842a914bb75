/-
  Proved here: the row of MigrateVersions: for every text the law answers true. Its conditions are the row's own: listed variables hold their data.
-/
import Derived.Test.YthhkgbbmaimgkaaGreatDoorRows
import Derived.Test.YthhkgbbmaimgkaaGreatDoorWalk
import Derived.Test.YthhkgbbmaimgkaaGreatDoorClosed
import Derived.Test.YthhkgbbmaimgkaaGreatDoorEval
import Derived.ProofKit
import Derived.OpenShut
import Derived.ShutString
import Derived.LaidMore
import Derived.Lay
import Derived.Stop.Joined
namespace Go.Proofs.YthhkgbbmaimgkaaGreatDoor
open Go Go.ChangeShapes Go.WideShapes Go.ChangeAt Go.RowKit
open Go.ChangeMaps (open_string shut_string)
open Go.Sim (lookG GlobIn globIn_look glob_of_laid)

theorem own : ownKnob Tryz.prog.godebug = none := by kernel_rfl
theorem globs {W : World} (h : laidMetH Tryz.prog Rows.migrateVersionsRow.laid W) : GlobIn GV W := by
  rw [MakeChecks.laidMetH_plain _ _ _ (by kernel_rfl)] at h
  refine globIn_look fun x hx => ?_
  obtain rfl := List.mem_singleton.1 hx
  exact glob_of_laid (n := "skirmish/migrate.keeps") (d := Rows.laid_skirmish_migrate_keeps) (t := 49) h (List.mem_of_getElem? (i := 9) rfl) (by kernel_rfl) (by kernel_rfl) (by kernel_rfl) rfl rfl

set_option maxRecDepth 100000 in
theorem lifted (os : Os) (started : os.Started) (H : Type) (enc : TypeId × Value → H) :
    ReturnsInHanded {} Tryz.checked os 3 .any (fun w args => (Rows.migrateVersionsSpec.pre enc Tryz.prog Tryz.f3 Rows.migrateVersionsRow.domain false w args ∧ laidMetH Tryz.prog Rows.migrateVersionsRow.laid w) ∧ sizedMet enc Tryz.prog Tryz.f3 (OpenSpec.ofChange Rows.migrateVersionsSpec) false w args)
      (Rows.migrateVersionsSpec.post enc Tryz.prog Tryz.f3 false true false false) := by
  refine returnsInHanded_of_change_and (C := Tryz.checked) (X := fun w _ => laidMetH Tryz.prog Rows.migrateVersionsRow.laid w) (fun _ _ _ hh h => h.of_heap hh) own started (by kernel_rfl) Tryz.func3
    (ChangeSpec.witness_shaped (enc := enc) (C := Tryz.checked) (os := os) (X := fun w _ => laidMetH Tryz.prog Rows.migrateVersionsRow.laid w) false (World.laidAll Tryz.prog os Rows.migrateVersionsRow.laid) #[.string ⟨#[]⟩] 8 (World.laidAll_os _ _ _)
      (World.shaped_of_ZipB (by kernel_rfl) (by kernel_rfl)) (by kernel_rfl) (by kernel_rfl) (by kernel_rfl)
      (by rw [MakeChecks.laidMetH_plain _ _ _ (by kernel_rfl)]; exact laidMet_laidAll _ (by kernel_rfl) (by kernel_rfl))) ?_
  intro W base args ds gs before hval0 hW hc _ hL _
  have hval : ∀ (j : Nat) t v, Tryz.f3.params[j]? = some t → args[j]? = some v → Value.okWide Tryz.prog W .any base t v := hval0
  have hW' := hW
  obtain ⟨p, q, hA0, hV, rfl, _, _⟩ := hW
  have hA : DataW.TrodAll enc Tryz.prog W 0 (fun _ => true) true Tryz.f3.params.toList args.toList ds p := hA0
  rw [Tryz.params3] at hA hval
  obtain ⟨v0, d0, rfl, rfl, h0⟩ := trodAll_one hA
  obtain ⟨rfl, rfl⟩ := trodVars_none hV
  obtain ⟨s, rfl, rfl, rfl, wx⟩ := open_string Tryz.underlying9 (hval 0 9 v0 rfl rfl) h0
  clear hA0 hval0
  refine (law s W (awakeOk (globs hL))).mono fun e W' ⟨he, bel⟩ => ?_
  subst he
  exact ⟨_, rfl, _, _, _, [], _, [], hW', trodAll_mk1 (shut_bool Tryz.underlying4 _), trodAll_mk1 (shut_string Tryz.underlying9 wx), rfl, bel.frame _, fun h => by cases h⟩

theorem over : Rows.MigrateVersionsSaid :=
  OpenClaim.holds_of_wide 3 Tryz.f3 rfl rfl rfl rfl rfl rfl rfl ⟨rfl, rfl, rfl, rfl, rfl⟩ rfl rfl rfl rfl rfl (by kernel_rfl) Tryz.func3 limbs
    (of_decide_eq_true (by kernel_rfl)) (by unfold Func.isWrapper; first | (rw [if_pos (by decide +kernel)]; kernel_rfl) | (rw [if_neg (by decide +kernel)]; exact ⟨rfl, rfl⟩))
    (fun os started H enc _ => lifted os started H enc)
end Go.Proofs.YthhkgbbmaimgkaaGreatDoor
