/-
  Proved here: 'examples' answers true under every draw, and its contract. Its condition is that the listed variable holds its table.
-/
import Derived.Test.YtbpoloanmichbaaGreatDoorEv16
import Derived.Test.YtbpoloanmichbaaGreatDoorEv0
import Derived.Test.YtbpoloanmichbaaGreatDoorEv1
import Derived.Test.YtbpoloanmichbaaGreatDoorEv2
import Derived.Test.YtbpoloanmichbaaGreatDoorEv3
import Derived.Test.YtbpoloanmichbaaGreatDoorEv4
import Derived.Test.YtbpoloanmichbaaGreatDoorEv5
import Derived.Test.YtbpoloanmichbaaGreatDoorEv6
import Derived.Test.YtbpoloanmichbaaGreatDoorEv7
import Derived.Test.YtbpoloanmichbaaGreatDoorEv8
import Derived.Test.YtbpoloanmichbaaGreatDoorEv9
import Derived.Test.YtbpoloanmichbaaGreatDoorEv10
import Derived.Test.YtbpoloanmichbaaGreatDoorEv11
import Derived.Test.YtbpoloanmichbaaGreatDoorEv12
import Derived.Test.YtbpoloanmichbaaGreatDoorEv13
import Derived.Test.YtbpoloanmichbaaGreatDoorEv14
import Derived.Test.YtbpoloanmichbaaGreatDoorEv15
import Derived.KernelRfl
import Derived.Test.YtbpoloanmichbaaGreatDoorP
import Derived.Test.YtbpoloanmichbaaGreatDoorYc
set_option linter.unusedVariables false
set_option linter.unusedSimpArgs false
set_option maxRecDepth 100000
namespace dj
open Go Go.Sim Go.Proofs
theorem names:MX Tryz.prog=true:=by kernel_rfl
theorem mixed:Tryz.prog.follows .mixedOrders=true:=by kernel_rfl
theorem ok0:bZ Tryz.prog GV noM:=XR
theorem p {T T':Go.Sim.Call} {e:vi} (hT:bZ Tryz.prog GV T) (hT':bZ Tryz.prog GV T') (he:z9 Tryz.prog GV T 1000000 e=true):bZ Tryz.prog GV (z5 T' e):=ajG (HA names) mixed hT hT' he
theorem ok6:bZ Tryz.prog GV Te6:=p ok0 (p ok0 (p ok0 (p ok0 (p ok0 (p ok0 ok0 akw) akx) aky) akz) akA) akB
theorem ok9:bZ Tryz.prog GV Te9:=p ok0 (p ok0 ok0 akD) akE
theorem akG:bZ Tryz.prog GV aj6:=p ok0 (p ok0 ok0 aj4) aj5
theorem akH:bZ Tryz.prog GV aj_:=p ok0 (p ok0 ok0 aj8) aj9
theorem okF:bZ Tryz.prog GV TF:=p akH (p akG (p ok9 (p ok6 ok0 akC) akF) aj7) aka
theorem ajd {w:World} (hG:HB GV w):Calls Tryz.prog 6 #[] w fun e w'=>e= .returned (.bool true)∧Go.RowKit.Below w.heap.size w w':=
 tA (HA names) mixed okF akb hG
end dj
namespace Go.Sy
open Go.Proofs
open Go.Sim (HB w_)
open Go.RowKit (Below)
noncomputable section
def rT:yZ:=[(0,4,G_0)]
def fj:CX:= .c ⟨6,[],[4],ah⟩
theorem ajK:dj.vj=G_0.map fun p=> .bool p.toBool:=rfl
theorem abH: ∀ p∈G_0,p= .bool p.toBool:=by
 intro p hp;simp only [G_0,List.mem_cons,List.not_mem_nil,or_false] at hp;rcases hp with rfl|rfl|rfl|rfl|rfl|rfl|rfl|rfl|rfl|rfl|rfl|rfl|rfl|rfl|rfl|rfl|rfl|rfl|rfl|rfl|rfl|rfl|rfl|rfl<;>rfl
theorem af0 {w:World} {Z:Nat→Prop} {t:TypeId} {u:Value} {b:Bool} (h:jM Tryz.prog w Z t u (.bool b)):u= .bool b:=by cases h; rfl
theorem af2 {w:World} {Z0:Nat→Prop} (hz: ∀ b,Z0 b→b<w.heap.size) (hg:Ss Tryz.prog rT Z0 w):HB dj.GV w:=by
 refine w_ fun x hx=> ?_
 obtain rfl:=List.mem_singleton.1 hx;obtain ⟨h1,h2⟩:=hg 0 4 G_0 rfl;refine ⟨hz 0 h1,fun k v hk=> ?_⟩;simp only [ajK,List.getElem?_map,Option.map_eq_some_iff] at hk;obtain ⟨p,hp,rfl⟩:=hk;obtain ⟨u,hu,hr⟩:=h2 k p hp;rw [abH p (List.mem_of_getElem? hp)] at hr;rw [af0 hr] at hu;exact ⟨rfl,hu⟩
theorem akc:Tryz.prog.underlying 4=some .bool:=by kernel_rfl
theorem fn6: ∃ fn code,Tryz.prog.funcs[6]? =some fn∧fn.body=some code:=by
 have h:((Tryz.prog.funcs[6]?).bind fun fn=>fn.body).isSome=true:=by kernel_rfl
 cases h1:Tryz.prog.funcs[6]? with
 |none=>rw [h1] at h; cases h
 |some fn=>
  rw [h1] at h;cases h2:fn.body with
  |none=>simp [h2] at h
  |some c=>exact ⟨fn,c,rfl,h2⟩
theorem hex:Au Tryz.prog rT fj:=by
 show Ls Tryz.prog (Ss Tryz.prog rT) ⟨6,[],[4],ah⟩
 refine ⟨fn6,fun ρ ρ' hF w args Z0 hz hg hlen ha=> ?_⟩;obtain rfl:args=[]:=List.length_eq_zero_iff.1 hlen;refine (dj.ajd (af2 hz hg)).mono ?_;rintro e w' ⟨rfl,hb⟩;cases hF;refine ⟨[.bool true], .bool true,Z0,rfl,hb, .inl rfl,fun b hb'=>Nat.lt_of_lt_of_le (hz b hb') hb.size,fun _ h=>h,fun _ h=> .inl h,rfl,rfl,fun j t u p h1 h2 h3=> ?_⟩;cases j with
 |zero=>
  simp at h1 h2 h3;subst h1; subst h2; subst h3;show cu Tryz.prog w' Z0 4 (.bool true) (.bool true)
  unfold cu;rw [show isAgg Tryz.prog 4=false by kernel_rfl];exact .bool akc
 |succ j=>simp at h1
end
end Go.Sy
