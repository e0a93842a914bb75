/-
  Proved here: the row of TurnSafe: for every game the law answers true. Its conditions are the row's own: listed variables hold their data.
-/
import Derived.Test.YtbpoloanmichbaaGreatDoorCLA
import Derived.Test.YtbpoloanmichbaaGreatDoorCLU
import Derived.Test.YtbpoloanmichbaaGreatDoorCL2
import Derived.Test.YtbpoloanmichbaaGreatDoorCL9
import Derived.Test.YtbpoloanmichbaaGreatDoorCL12
import Derived.Test.YtbpoloanmichbaaGreatDoorCL22
import Derived.Test.YtbpoloanmichbaaGreatDoorCL24
import Derived.Test.YtbpoloanmichbaaGreatDoorCL25
import Derived.Test.YtbpoloanmichbaaGreatDoorRows
import Derived.JoinedOf
import Derived.KernelRfl
import Derived.Test.YtbpoloanmichbaaGreatDoorX
import Derived.ProofKit
import Derived.OpenShut
import Derived.ShutString
import Derived.LaidMore
import Derived.Lay
import Derived.Carry
import Derived.ChangeSlices
import Derived.SizedLaws
import Derived.Stop.Joined
set_option linter.unusedVariables false
set_option linter.unusedSimpArgs false
set_option maxRecDepth 100000
namespace Go.Proofs.YtbpoloanmichbaaGreatDoor
open Go
theorem N8 {P:Program} {f:FuncId} {fn:Func} {s:ChangeSpec} {c:OpenClaim} (k0:(c.wf (OpenSpec.ofChange s))=true) (k1:(laidOutB P)=true) (k2:(mapsRowed P)=true) (k3:(fn.params.all (P.readableRec ·))=true) (k4:(namedTie P c.named s.vars)=true) (k5:((c.stops==[]))=true) (k6:((P.stops==[]))=true) (k7:((c.knobs==[]))=true) (k8:((P.stopKnobs==[]))=true) (k9:((c.inPlace==P.inPlace f))=true) (k10:((c.unfollowed==P.unfollowed f))=true) (k11:((c.recurses==P.recurses f))=true) (k12:((c.named==P.varsNamed f))=true) (k13:((c.maps==(fn.params.toList++s.plain.varTypes P).any (P.mapsRec ·)))=true) (k14:((c.ifaces==(fn.params.toList++s.plain.varTypes P).any (P.ifacesRec ·)))=true) (k15:((c.mapsOut==P.mapsAmong fn.resultTypes.toList))=true) (k16:((c.loops==(fn.params.toList++s.plain.varTypes P).any (P.loopsFrom ·)))=true) (k17:((c.wideKeys==(fn.params.toList++s.plain.varTypes P++fn.resultTypes.toList).any (P.wideKeysFrom ·)))=true) (k18:(s.vars.all (P.varReadable ·))=true) (k19:(fn.resultTypes.all (fun t=>P.readableRec t&&decide (t<P.types.size)))=true) (k20:((c.ifacesOut==fn.resultTypes.toList.any (P.ifacesRec ·)))=true) (k21:((c.loopsOut==fn.resultTypes.toList.any (P.loopsFrom ·)))=true) (k22:((c.plainKeys==P.plainKeys))=true) (k23:(c.shortTexts.isNone)=true) (k24:(P.stopsHeard)=true) (k25:(P.mayEnter)=true) (k26:((c.lifted==P.liftsFinal))=true) (k27:((P.make==some c.make))=true) (k28:((c.kinds==(if c.domain.isEmpty then [] else fn.params.toList.map fun t=>match P.underlying t with|some (.int k)=>some k|_=>none)))=true) (k29:((c.pinned==c.pinnedBy))=true) (k30:((c.veiled==(fn.params.toList++s.plain.varTypes P++fn.resultTypes.toList).any (P.veiledRec ·)))=true) (k31:(c.veiledFits P fn.params.toList (fn.params.toList++s.plain.varTypes P++fn.resultTypes.toList))=true):joinedFacts P f fn s c=true:=by
 unfold joinedFacts;simp only [Bool.and_eq_true];exact ⟨⟨⟨⟨⟨⟨⟨⟨⟨⟨⟨⟨⟨⟨⟨⟨⟨⟨⟨⟨⟨⟨⟨⟨⟨⟨⟨⟨⟨⟨⟨k0,k1⟩,k2⟩,k3⟩,k4⟩,k5⟩,k6⟩,k7⟩,k8⟩,k9⟩,k10⟩,k11⟩,k12⟩,k13⟩,k14⟩,k15⟩,k16⟩,k17⟩,k18⟩,k19⟩,k20⟩,k21⟩,k22⟩,k23⟩,k24⟩,k25⟩,k26⟩,k27⟩,k28⟩,k29⟩,k30⟩,k31⟩
theorem agc:joinedFacts Tryz.prog 3 Tryz.f3 Rows.turnSafeSpec Rows.turnSafeRow=true:=N8 af4 abL aga af5 af6 af7 af8 af9 af_ agb adF adG adH adp adq adr ads adt adu adv adw adx adI ady adJ adK adz adA adB adC adD adE
end Go.Proofs.YtbpoloanmichbaaGreatDoor
namespace Go.Proofs.YtbpoloanmichbaaGreatDoor
open Go Go.ChangeShapes Go.WideShapes Go.ChangeAt Go.RowKit
open Go.Sim (uM)
open Go.Sy (Ss rT AF Zx ajA cu Q3 rdB UG LZ aiw)
theorem own:ownKnob Tryz.prog.godebug=none:=by kernel_rfl
theorem af3:rdB Tryz.prog 8 37=true:=by kernel_rfl
theorem abK:Go.Sy.isAgg Tryz.prog 37=true:=by kernel_rfl
theorem gin {W:World} (h:laidMetH Tryz.prog Rows.turnSafeRow.laid W):Ss Tryz.prog rT (AF W) W:=by
 rw [MakeChecks.laidMetH_plain _ _ _ (by kernel_rfl)] at h;exact Zx (uM (n:= "skirmish/terrain.passable") (d:=Rows.laid_skirmish_terrain_passable) (t:=93) (l:=dj.vj) h (List.mem_of_getElem? (i:=0) rfl) (by kernel_rfl) (by kernel_rfl) (by kernel_rfl) rfl (by kernel_rfl))
noncomputable def adL:Value:=((Tryz.prog.info? 37).bind (·.zero)).getD undef
set_option maxRecDepth 100000 in
theorem lifted (os:Os) (started:os.Started) (H:Type) (enc:TypeId×Value→H):
  ReturnsInHanded {} Tryz.checked os 3 .any (fun w args=>(Rows.turnSafeSpec.pre enc Tryz.prog Tryz.f3 Rows.turnSafeRow.domain false w args∧laidMetH Tryz.prog Rows.turnSafeRow.laid w)∧sizedMet enc Tryz.prog Tryz.f3 (OpenSpec.ofChange Rows.turnSafeSpec) false w args)
   (Rows.turnSafeSpec.post enc Tryz.prog Tryz.f3 false true false false):=by
 refine returnsInHanded_of_change_and (C:=Tryz.checked) (X:=fun w _=>laidMetH Tryz.prog Rows.turnSafeRow.laid w) (fun _ _ _ hh h=>h.of_heap hh) own started (by kernel_rfl) Tryz.func3
  (ChangeSpec.witness_shaped (enc:=enc) (C:=Tryz.checked) (os:=os) (X:=fun w _=>laidMetH Tryz.prog Rows.turnSafeRow.laid w) false (World.laidAll Tryz.prog os Rows.turnSafeRow.laid) #[adL] 12 (World.laidAll_os _ _ _)
   (World.shaped_of_ZipB (by kernel_rfl) (by kernel_rfl)) (by kernel_rfl) (by kernel_rfl) (by kernel_rfl)
   (by rw [MakeChecks.laidMetH_plain _ _ _ (by kernel_rfl)]; exact laidMet_laidAll _ (by kernel_rfl) (by kernel_rfl))) ?_
 intro W base args ds gs before abM hW hc hz hL _;have hval: ∀ (j:Nat) t v,Tryz.f3.params[j]? =some t→args[j]? =some v→Value.okWide Tryz.prog W .any base t v:=abM;have hW':=hW;obtain ⟨p,q,hA0,hV,rfl,_,_⟩:=hW;have hA:DataW.TrodAll enc Tryz.prog W 0 (fun _=>true) true Tryz.f3.params.toList args.toList ds p:=hA0;rw [Tryz.params3] at hA hval;obtain ⟨v0,d0,rfl,rfl,h0⟩:=trodAll_one hA;obtain ⟨rfl,rfl⟩:=trodVars_none hV;have Yd:=hval 0 37 v0 rfl rfl;have Na:aiw (d0.weights Tryz.prog 37):=fun n hn=>by
  have:=List.all_eq_true.1 hz n (DataW.weights_mem_each (j:=0) (t:=37) (d:=d0) (by rw [Tryz.params3]; rfl) rfl n hn);simpa using this
 clear hA0 abM;have ah1: ∀ x∈p,x.block<W.heap.size:=fun x hx=>by have:=hW'.lt x (by simp [hx]); simpa using this
 obtain ⟨pv,hpv,G⟩: ∃ pv,cu Tryz.prog W (AF W) 37 v0 pv∧Go.Sy.V.Gen pv:=by
  unfold Value.okWide at Yd;rw [Tryz.underlying37] at Yd;obtain ⟨cs,rfl,_,_⟩:=Yd;obtain ⟨fuel,hf⟩:=h0;obtain ⟨ps,h1,h2,h3⟩:=UG abK (Q3 8 37 af3 fuel _ _ hf Na);exact ⟨.agg ps,h1,ajA h1 h2 h3⟩
 refine (LZ (gin hL) hpv G).mono fun e W' ⟨he,bel⟩=> ?_
 subst he;exact ⟨_,rfl,_,_,_,[],_,[],hW',trodAll_mk1 (shut_bool Tryz.underlying4 _),trodAll_mk1 (Below.trod abL (by kernel_rfl) (of_decide_eq_true (by kernel_rfl)) h0 bel ah1),rfl,bel.frame _,fun h=>by cases h⟩
theorem over:Rows.TurnSafeSaid:=
 OpenClaim.holds_of_wide 3 Tryz.f3 rfl rfl rfl rfl rfl rfl rfl ⟨rfl,rfl,rfl,rfl,rfl⟩ rfl rfl rfl rfl rfl (by kernel_rfl) Tryz.func3 agc
  (of_decide_eq_true (by kernel_rfl)) (by unfold Func.isWrapper; first|(rw [if_pos (by decide +kernel)]; kernel_rfl)|(rw [if_neg (by decide +kernel)]; exact ⟨rfl,rfl⟩))
  (fun os started H enc _=>lifted os started H enc)
end Go.Proofs.YtbpoloanmichbaaGreatDoor
