/-
  Proved here: the closed facts of the row, each by itself. No condition.
-/
import Derived.Test.YthhkgbbmaimgkaaGreatDoorRows
import Derived.JoinedOf
import Derived.KernelRfl
namespace Go.Proofs.YthhkgbbmaimgkaaGreatDoor
open Go
set_option maxRecDepth 100000
theorem joined_limbs {P : Program} {f : FuncId} {fn : Func} {s : ChangeSpec} {c : OpenClaim} (k0 : (c.wf (OpenSpec.ofChange s)) = true) (k1 : (laidOutB P) = true) (k2 : (mapsRowed P) = true) (k3 : (fn.params.all (P.readableRec ·)) = true) (k4 : (namedTie P c.named s.vars) = true) (k5 : ((c.stops == [])) = true) (k6 : ((P.stops == [])) = true) (k7 : ((c.knobs == [])) = true) (k8 : ((P.stopKnobs == [])) = true) (k9 : ((c.inPlace == P.inPlace f)) = true) (k10 : ((c.unfollowed == P.unfollowed f)) = true) (k11 : ((c.recurses == P.recurses f)) = true) (k12 : ((c.named == P.varsNamed f)) = true) (k13 : ((c.maps == (fn.params.toList ++ s.plain.varTypes P).any (P.mapsRec ·))) = true) (k14 : ((c.ifaces == (fn.params.toList ++ s.plain.varTypes P).any (P.ifacesRec ·))) = true) (k15 : ((c.mapsOut == P.mapsAmong fn.resultTypes.toList)) = true) (k16 : ((c.loops == (fn.params.toList ++ s.plain.varTypes P).any (P.loopsFrom ·))) = true) (k17 : ((c.wideKeys == (fn.params.toList ++ s.plain.varTypes P ++ fn.resultTypes.toList).any (P.wideKeysFrom ·))) = true) (k18 : (s.vars.all (P.varReadable ·)) = true) (k19 : (fn.resultTypes.all (fun t => P.readableRec t && decide (t < P.types.size))) = true) (k20 : ((c.ifacesOut == fn.resultTypes.toList.any (P.ifacesRec ·))) = true) (k21 : ((c.loopsOut == fn.resultTypes.toList.any (P.loopsFrom ·))) = true) (k22 : ((c.plainKeys == P.plainKeys)) = true) (k23 : (c.shortTexts.isNone) = true) (k24 : (P.stopsHeard) = true) (k25 : (P.mayEnter) = true) (k26 : ((c.lifted == P.liftsFinal)) = true) (k27 : ((P.make == some c.make)) = true) (k28 : ((c.kinds == (if c.domain.isEmpty then [] else fn.params.toList.map fun t => match P.underlying t with | some (.int k) => some k | _ => none))) = true) (k29 : ((c.pinned == c.pinnedBy)) = true) (k30 : ((c.veiled == (fn.params.toList ++ s.plain.varTypes P ++ fn.resultTypes.toList).any (P.veiledRec ·))) = true) (k31 : (c.veiledFits P fn.params.toList (fn.params.toList ++ s.plain.varTypes P ++ fn.resultTypes.toList)) = true) : joinedFacts P f fn s c = true := by
  unfold joinedFacts
  simp only [Bool.and_eq_true]
  exact ⟨⟨⟨⟨⟨⟨⟨⟨⟨⟨⟨⟨⟨⟨⟨⟨⟨⟨⟨⟨⟨⟨⟨⟨⟨⟨⟨⟨⟨⟨⟨k0, k1⟩, k2⟩, k3⟩, k4⟩, k5⟩, k6⟩, k7⟩, k8⟩, k9⟩, k10⟩, k11⟩, k12⟩, k13⟩, k14⟩, k15⟩, k16⟩, k17⟩, k18⟩, k19⟩, k20⟩, k21⟩, k22⟩, k23⟩, k24⟩, k25⟩, k26⟩, k27⟩, k28⟩, k29⟩, k30⟩, k31⟩
theorem limb0 : (Rows.migrateVersionsRow.wf (OpenSpec.ofChange Rows.migrateVersionsSpec)) = true := by kernel_rfl
theorem limb1 : (laidOutB Tryz.prog) = true := by kernel_rfl
theorem limb2 : (mapsRowed Tryz.prog) = true := by kernel_rfl
theorem limb3 : (Tryz.f3.params.all (Tryz.prog.readableRec ·)) = true := by kernel_rfl
theorem limb4 : (namedTie Tryz.prog Rows.migrateVersionsRow.named Rows.migrateVersionsSpec.vars) = true := by kernel_rfl
theorem limb5 : ((Rows.migrateVersionsRow.stops == [])) = true := by kernel_rfl
theorem limb6 : ((Tryz.prog.stops == [])) = true := by kernel_rfl
theorem limb7 : ((Rows.migrateVersionsRow.knobs == [])) = true := by kernel_rfl
theorem limb8 : ((Tryz.prog.stopKnobs == [])) = true := by kernel_rfl
theorem limb9 : ((Rows.migrateVersionsRow.inPlace == Tryz.prog.inPlace 3)) = true := by kernel_rfl
theorem limb10 : ((Rows.migrateVersionsRow.unfollowed == Tryz.prog.unfollowed 3)) = true := by kernel_rfl
theorem limb11 : ((Rows.migrateVersionsRow.recurses == Tryz.prog.recurses 3)) = true := by kernel_rfl
theorem limb12 : ((Rows.migrateVersionsRow.named == Tryz.prog.varsNamed 3)) = true := by kernel_rfl
theorem limb13 : ((Rows.migrateVersionsRow.maps == (Tryz.f3.params.toList ++ Rows.migrateVersionsSpec.plain.varTypes Tryz.prog).any (Tryz.prog.mapsRec ·))) = true := by kernel_rfl
theorem limb14 : ((Rows.migrateVersionsRow.ifaces == (Tryz.f3.params.toList ++ Rows.migrateVersionsSpec.plain.varTypes Tryz.prog).any (Tryz.prog.ifacesRec ·))) = true := by kernel_rfl
theorem limb15 : ((Rows.migrateVersionsRow.mapsOut == Tryz.prog.mapsAmong Tryz.f3.resultTypes.toList)) = true := by kernel_rfl
theorem limb16 : ((Rows.migrateVersionsRow.loops == (Tryz.f3.params.toList ++ Rows.migrateVersionsSpec.plain.varTypes Tryz.prog).any (Tryz.prog.loopsFrom ·))) = true := by kernel_rfl
theorem limb17 : ((Rows.migrateVersionsRow.wideKeys == (Tryz.f3.params.toList ++ Rows.migrateVersionsSpec.plain.varTypes Tryz.prog ++ Tryz.f3.resultTypes.toList).any (Tryz.prog.wideKeysFrom ·))) = true := by kernel_rfl
theorem limb18 : (Rows.migrateVersionsSpec.vars.all (Tryz.prog.varReadable ·)) = true := by kernel_rfl
theorem limb19 : (Tryz.f3.resultTypes.all (fun t => Tryz.prog.readableRec t && decide (t < Tryz.prog.types.size))) = true := by kernel_rfl
theorem limb20 : ((Rows.migrateVersionsRow.ifacesOut == Tryz.f3.resultTypes.toList.any (Tryz.prog.ifacesRec ·))) = true := by kernel_rfl
theorem limb21 : ((Rows.migrateVersionsRow.loopsOut == Tryz.f3.resultTypes.toList.any (Tryz.prog.loopsFrom ·))) = true := by kernel_rfl
theorem limb22 : ((Rows.migrateVersionsRow.plainKeys == Tryz.prog.plainKeys)) = true := by kernel_rfl
theorem limb23 : (Rows.migrateVersionsRow.shortTexts.isNone) = true := by kernel_rfl
theorem limb24 : (Tryz.prog.stopsHeard) = true := by kernel_rfl
theorem limb25 : (Tryz.prog.mayEnter) = true := by kernel_rfl
theorem limb26 : ((Rows.migrateVersionsRow.lifted == Tryz.prog.liftsFinal)) = true := by kernel_rfl
theorem limb27 : ((Tryz.prog.make == some Rows.migrateVersionsRow.make)) = true := by kernel_rfl
theorem limb28 : ((Rows.migrateVersionsRow.kinds == (if Rows.migrateVersionsRow.domain.isEmpty then [] else Tryz.f3.params.toList.map fun t => match Tryz.prog.underlying t with | some (.int k) => some k | _ => none))) = true := by kernel_rfl
theorem limb29 : ((Rows.migrateVersionsRow.pinned == Rows.migrateVersionsRow.pinnedBy)) = true := by kernel_rfl
theorem limb30 : ((Rows.migrateVersionsRow.veiled == (Tryz.f3.params.toList ++ Rows.migrateVersionsSpec.plain.varTypes Tryz.prog ++ Tryz.f3.resultTypes.toList).any (Tryz.prog.veiledRec ·))) = true := by kernel_rfl
theorem limb31 : (Rows.migrateVersionsRow.veiledFits Tryz.prog Tryz.f3.params.toList (Tryz.f3.params.toList ++ Rows.migrateVersionsSpec.plain.varTypes Tryz.prog ++ Tryz.f3.resultTypes.toList)) = true := by kernel_rfl
theorem limbs : joinedFacts Tryz.prog 3 Tryz.f3 Rows.migrateVersionsSpec Rows.migrateVersionsRow = true := joined_limbs limb0 limb1 limb2 limb3 limb4 limb5 limb6 limb7 limb8 limb9 limb10 limb11 limb12 limb13 limb14 limb15 limb16 limb17 limb18 limb19 limb20 limb21 limb22 limb23 limb24 limb25 limb26 limb27 limb28 limb29 limb30 limb31
end Go.Proofs.YthhkgbbmaimgkaaGreatDoor
