/-
  Proved here: what a reading gives is data. No condition.
-/
import Derived.Test.YtbpoloanmichbaaGreatDoorP
import Derived.Test.YtbpoloanmichbaaGreatDoorYc
import Derived.ChangeArms
import Derived.SizedLaws
set_option linter.unusedVariables false
set_option linter.unusedSimpArgs false
namespace Go.Sy.V
open PV Go.Sy
variable {P:Program}
theorem LL {k:IntKind} {n:Int} (h:JW k n): -9223372036854775808≤n∧n<18446744073709551616:=by
 unfold JW at h;rw [← h];cases k<;>simp [IntKind.wrap,IntKind.bits,IntKind.signed]<;>omega
theorem Zr {w:World} {Z:Nat→Prop} {t:TypeId} {u:Value} {p:PV} (h:jM P w Z t u p):Wf p:=by
 induction h with
 |int ht hn=>exact .int _ (LL hn).1 (LL hn).2
 |bool ht=>exact .bool _
 |str ht hs=>exact .str _ hs
 |nil ht=>exact .list _ (by decide) (by simp)
 | @sl t e sp b off c l ht hz hlen hc hsz hsh u hu hr hsp ih=>
  refine .list _ hc fun p hp=> ?_
  obtain ⟨i,hi,rfl⟩:=List.mem_iff_getElem.1 hp;have hi':l[i]? =some l[i]:=List.getElem?_eq_getElem hi;cases ha:isAgg P e with
  |false=>
   have h1:=ih i 0 l[i] e hi' (by rw [eT ha]; rfl);simpa only [cellAt,ha] using h1
  |true=>
   obtain ⟨cs,h1,h2⟩:=hsh _ hp ha;rw [h1];refine .agg _ fun q hq=> ?_
   obtain ⟨j,hj,rfl⟩:=List.mem_iff_getElem.1 hq;have h3:=ih i j l[i] (aI P e)[j] hi' (List.getElem?_eq_getElem (by omega));simp only [cellAt,ha,h1] at h3;have:aj (.agg cs) j=cs[j]:=by simp [aj,PV.cells,hj]
   rw [this] at h3;exact h3
theorem aaU {w:World} {Z:Nat→Prop} {t:TypeId} {u:Value} {p:PV} (h:cu P w Z t u p):Wf p:=by
 unfold cu at h;cases ha:isAgg P t with
 |false=>rw [ha] at h; exact Zr h
 |true=>
  rw [ha] at h;obtain ⟨vs,ps,h1,rfl,h3,h4,h5⟩:=h;refine .agg _ fun q hq=> ?_
  obtain ⟨j,hj,rfl⟩:=List.mem_iff_getElem.1 hq;exact Zr (h5 j (aI P t)[j] vs[j] ps[j] (List.getElem?_eq_getElem (by omega)) (List.getElem?_eq_getElem (by omega)) (List.getElem?_eq_getElem hj))
end Go.Sy.V
namespace Go.Sy
open Go.Sim (Tr aV bM bA bL)
open Go Go.ChangeShapes Go.WideShapes
variable {P:Program}
def UF (P:Program):Nat→List Field→Bool
 |_,[]=>true
 |k,f::l=>decide (f.offset=k)&&(decide (P.cellsOf f.type=(aI P f.type).length)&&UF P (k+(aI P f.type).length) l)
def rdB (P:Program):Nat→TypeId→Bool
 |0,_=>false
 |d+1,t=>match P.underlying t with
  |some .bool=> !isAgg P t
  |some (.int _)=> !isAgg P t
  |some .string=> !isAgg P t
  |some (.slice e)=> !isAgg P t&&(decide (0<(aI P e).length)&&(decide (P.cellsOf e=(aI P e).length)&&(decide (aV P e=some (aI P e).length)&&rdB P d e)))
  |some (.struct fs)=>isAgg P t&&(decide (P.cellsOf t=(aI P t).length)&&(decide (aI P t=fs.toList.flatMap fun f=>aI P f.type)&&(UF P 0 fs.toList&&fs.toList.all fun f=>rdB P d f.type)))
  |_=>false
def AF (w:World):Nat→Prop:=fun b=>b<w.heap.size
inductive Rch (P:Program):TypeId→PV→Prop
 |sl {t e:TypeId} {l:List PV} (ht:P.underlying t=some (.slice e)) (hb:l.length*P.bytesOf e≤reachBytes) (h: ∀ q∈l, ∀ (j:Nat) (t':TypeId),(aI P e)[j]? =some t'→Rch P t' (cellAt P e q j)):Rch P t (.list l)
 |any {t:TypeId} {p:PV} (ht: ∀ e,P.underlying t≠some (.slice e)):Rch P t p
def aiw (l:List Nat):Prop:= ∀ n∈l,n≤reachBytes
def Wt (P:Program) (w:World) (t:TypeId) (cs:List Value):Prop:=cs.length=(aI P t).length∧ ∃ ps:List PV,ps.length=(aI P t).length∧ ∀ (j:Nat) (t':TypeId) (c:Value) (q:PV),(aI P t)[j]? =some t'→cs[j]? =some c→ps[j]? =some q→jM P w (AF w) t' c q∧Rch P t' q
theorem tU {w:World} {t:TypeId} {c:Value} {q:PV} (h:isAgg P t=false) (hr:jM P w (AF w) t c q∧Rch P t q):Wt P w t [c]:=by
 rw [Wt,eT h];refine ⟨rfl,[q],rfl,fun j t' c' q' h1 h2 h3=> ?_⟩;cases j with
 |zero=>simp at h1 h2 h3; subst h1; subst h2; subst h3; exact hr
 |succ j=>simp at h1
theorem S4 {w:World} {cs:List Value}: ∀ (l:List Field) (k:Nat),UF P k l=true→(∀ f∈l,Wt P w f.type ((cs.drop f.offset).take (P.cellsOf f.type)))→
  ∃ ps:List PV,ps.length=(l.flatMap fun f=>aI P f.type).length∧ ∀ (j:Nat) (t':TypeId) (c:Value) (q:PV),(l.flatMap fun f=>aI P f.type)[j]? =some t'→cs[k+j]? =some c→ps[j]? =some q→jM P w (AF w) t' c q∧Rch P t' q:=by
 intro l;induction l with
 |nil=>intro k _ _; exact ⟨[],rfl,fun j t' c q h=>by simp at h⟩
 |cons f l ih=>
  intro k ho hf;simp only [UF,Bool.and_eq_true,decide_eq_true_eq] at ho;obtain ⟨ps,hp,hr⟩:=ih _ ho.2.2 (fun g hg=>hf g (List.mem_cons_of_mem _ hg));obtain ⟨_,qs,hq,hs⟩:=hf f (List.mem_cons_self ..);refine ⟨qs++ps,by simp only [List.flatMap_cons,List.length_append,hp,hq],fun j t' c q h1 h2 h3=> ?_⟩;rw [List.flatMap_cons] at h1;by_cases hj:j<(aI P f.type).length
  ·rw [List.getElem?_append_left hj] at h1
   rw [List.getElem?_append_left (by omega)] at h3;refine hs j t' c q h1 ?_ h3;rw [ho.1,ho.2.1,List.getElem?_take,if_pos hj,List.getElem?_drop]; exact h2
  ·rw [List.getElem?_append_right (by omega)] at h1
   rw [List.getElem?_append_right (by omega)] at h3;rw [hq] at h3;exact hr _ t' c q h1 (by rw [← h2]; congr 1; omega) h3
theorem aaW {w:World} {e:TypeId} {cs:List Value} (h:Wt P w e cs): ∃ p,shaped P e p∧ ∀ (j:Nat) (t':TypeId) (c:Value),(aI P e)[j]? =some t'→cs[j]? =some c→jM P w (AF w) t' c (cellAt P e p j)∧Rch P t' (cellAt P e p j):=by
 obtain ⟨h1,ps,h2,h3⟩:=h;cases ha:isAgg P e with
 |true=>
  refine ⟨.agg ps,fun _=>⟨ps,rfl,h2⟩,fun j t' c g1 g2=> ?_⟩;have hj:j<ps.length:=by rw [h2]; exact (List.getElem?_eq_some_iff.1 g1).1
  simp only [cellAt,ha];rw [BG (List.getElem?_eq_getElem hj)];exact h3 j t' c _ g1 g2 (List.getElem?_eq_getElem hj)
 |false=>
  rw [eT ha] at h2 h3;obtain ⟨q,rfl⟩: ∃ q,ps=[q]:=by
   match ps,h2 with
   |[q],_=>exact ⟨q,rfl⟩
  refine ⟨q,fun hh=>by rw [ha] at hh; exact absurd hh (by simp),fun j t' c g1 g2=> ?_⟩;rw [eT ha] at g1;simp only [cellAt,ha];cases j with
  |zero=>exact h3 0 t' c q g1 g2 rfl
  |succ j=>simp at g1
theorem adm {k:IntKind} {n:Int} (h:(Lit.int k n).wf=true):JW k n:=by
 simp only [Lit.wf,Bool.and_eq_true,decide_eq_true_eq] at h;unfold JW;cases k<;>simp [IntKind.wrap,IntKind.bits,IntKind.signed,IntKind.min,IntKind.max] at* <;>omega
theorem mapM_some' {α β:Type} (f:α→Option β): ∀ (l:List α) (r:List β),l.mapM f=some r→r.length=l.length∧ ∀ (j:Nat) (a:α),l[j]? =some a→r[j]? =f a
 |[],r,h=>by
  simp only [List.mapM_nil] at h;obtain rfl:=Option.some.inj h;exact ⟨rfl,fun j a hj=>by simp at hj⟩
 |a::l,r,h=>by
  rw [List.mapM_cons] at h;cases ha:f a with
  |none=>rw [ha] at h; simp at h
  |some b=>
   cases hl:l.mapM f with
   |none=>rw [ha,hl] at h; simp at h
   |some r'=>
    rw [ha,hl] at h;obtain rfl:=Option.some.inj h;obtain ⟨h1,h2⟩:=mapM_some' f l r' hl;refine ⟨by simp [h1],fun j c hj=> ?_⟩;cases j with
    |zero=>simp at hj; subst hj; simp [ha]
    |succ j=>simp at hj; simpa using h2 j c hj
theorem Zs {w:World} {base b o n:Nat} {cs:List Value} (h:w.cells? base ⟨b,o,none⟩ n=some cs):cs.length=n∧ ∀ j c,cs[j]? =some c→w.cell? ⟨b,o+j,none⟩=some c:=by
 unfold World.cells? at h;split at h
 ·obtain ⟨h1,h2⟩:=mapM_some' _ _ _ h
  rw [List.length_range] at h1;refine ⟨h1,fun j c hj=> ?_⟩;have hjn:j<n:=by have:=(List.getElem?_eq_some_iff.1 hj).1; omega
  have:=h2 j j (by simp [hjn]);rw [hj,add_plain] at this;exact this.symm
 ·simp at h
theorem aio {H:Type} {e:TypeId}: ∀ {l:List (DataW H)} {i:Nat} {d:DataW H},l[i]? =some d→ ∀ m∈d.weights P e,m∈DataW.weightsAll P e l
 |[],i,d,h,m,hm=>by simp at h
 |a::l,i,d,h,m,hm=>by
  simp only [DataW.weightsAll];cases i with
  |zero=>simp at h; subst h; exact List.mem_append_left _ hm
  |succ i=>simp at h; exact List.mem_append_right _ (aio h m hm)
theorem Q3 {H:Type} {enc:TypeId×Value→H} {w:World} {base:Nat} {sp:Nat→Bool} {held:Bool}: ∀ (d:Nat) (t:TypeId),rdB P d t=true→ ∀ (fuel:Nat) (cs:List Value) (x:DataW H×List MemPlace),DataW.trod enc P w base sp held fuel t cs=some x→aiw (x.1.weights P t)→Wt P w t cs:=by
 intro d;induction d with
 |zero=>intro t h; simp [rdB] at h
 |succ d ih=>
  intro t ht fuel cs x hx hwt;unfold rdB at ht;split at ht
  ·rename_i hu
   obtain ⟨b,rfl,_⟩:=DataW.trod_bool hu hx;exact tU (by simpa using ht) ⟨.bool hu, .any (by simp [hu])⟩
  ·rename_i k hu
   obtain ⟨n,rfl,_,hwf⟩:=DataW.trod_int hu hx;exact tU (by simpa using ht) ⟨.int hu (adm hwf), .any (by simp [hu])⟩
  ·rename_i hu
   obtain ⟨s,rfl,_,hsz⟩:=DataW.trod_string hu hx;exact tU (by simpa using ht) ⟨.str hu hsz, .any (by simp [hu])⟩
  ·rename_i e hu
   simp only [Bool.and_eq_true,Bool.not_eq_true',decide_eq_true_eq] at ht;obtain ⟨hag,hpos,hce,hsz,hre⟩:=ht;rcases DataW.trod_slice hu hx with ⟨rfl,_⟩|⟨a,len,cap,elems,rest,n,_,rfl,rfl,hb,hl,hm,hlen,hel,_⟩
   ·exact tU hag ⟨.nil hu, .sl hu (by simp) (fun q hq=>by simp at hq)⟩
   ·obtain ⟨b,o,s⟩:=a
    by_cases hl0:len=0
    ·subst hl0
     refine tU hag (q:= .list []) ?_;refine ⟨?_, .sl hu (by simp) (fun q hq=>by simp at hq)⟩;exact .sl (l:=[]) (e:=e) hu (fun h=>by simp at h) (by simp) (by simp) hsz (fun p hp=>by simp at hp) (fun _ _=> .bool false) (fun i j h=>by simp at h) (fun i j p t' h=>by simp at h) (fun h=>absurd rfl h)
    obtain rfl:s=none:=by
     cases s with
     |none=>rfl
     |some q=>
      exfalso;have h1:=hel 0 (by omega);rw [List.getElem?_eq_getElem (by omega)] at h1;obtain ⟨cs',h2,h3⟩:=Option.bind_eq_some_iff.1 h1;have h4:w.cells? base ⟨b,o,some q⟩ (P.cellsOf e)=some cs':=by
       have:(Addr.add ⟨b,o,some q⟩ (0*P.cellsOf e))=⟨b,o,some q⟩:=by simp [Addr.add]
       rwa [this] at h2
      have h5:(List.range (P.cellsOf e)).mapM (fun i=>w.cell? (Addr.add ⟨b,o,some q⟩ i))=some cs':=by
       unfold World.cells? at h4;by_cases ZF:base≤(Addr.mk b o (some q)).block
       ·rw [if_pos ZF] at h4; exact h4
       ·rw [if_neg ZF] at h4; exact absurd h4 (by simp)
      obtain ⟨g1,g2⟩:=mapM_some' _ _ _ h5;rw [List.length_range] at g1;have g3:=g2 0 0 (by rw [List.getElem?_range (by omega)]);rw [List.getElem?_eq_getElem (by omega)] at g3;have g4:w.cell? (Addr.add ⟨b,o,some q⟩ 0)=none:=by
       simp only [Addr.add,if_true,World.cell?];split<;>rfl
      rw [g4] at g3;cases g3
    have hwe: ∀ i (hi:i<len),aiw ((elems[i]'(by omega)).1.weights P e):=by
     intro i hi m hm;refine hwt m ?_;simp only [DataW.weights,hu];refine List.mem_cons_of_mem _ (List.mem_append_left _ ?_);exact aio (l:=elems.map (·.1)) (i:=i) (by rw [List.getElem?_map,List.getElem?_eq_getElem (by omega)]; rfl) m hm
    have H: ∀ i,i<len→ ∃ p,shaped P e p∧ ∀ (j:Nat) (t':TypeId),(aI P e)[j]? =some t'→ ∃ c,w.cell? ⟨b,o+(i*(aI P e).length+j),none⟩=some c∧jM P w (AF w) t' c (cellAt P e p j)∧Rch P t' (cellAt P e p j):=by
     intro i hi;have h1:=hel i hi;rw [List.getElem?_eq_getElem (by omega)] at h1;obtain ⟨cs',h2,h3⟩:=Option.bind_eq_some_iff.1 h1;have ha:(Addr.add ⟨b,o,none⟩ (i*P.cellsOf e))=⟨b,o+i*P.cellsOf e,none⟩:=add_plain _ _ _;rw [ha] at h2;have hc:=Zs h2;have hr:=ih e hre n cs' _ h3 (hwe i hi);obtain ⟨p,hp1,hp2⟩:=aaW hr;refine ⟨p,hp1,fun j t' hj=> ?_⟩;have hj':j<cs'.length:=by rw [hr.1]; exact (List.getElem?_eq_some_iff.1 hj).1
     refine ⟨cs'[j], ?_,hp2 j t' _ hj (List.getElem?_eq_getElem hj')⟩;have:=hc.2 j _ (List.getElem?_eq_getElem hj');rw [← this,hce,Nat.add_assoc]
    let l:List PV:=(List.range len).map fun i=>if h:i<len then Classical.choose (H i h) else .zero
    have Oc:l.length=len:=by simp [l]
    have hlg: ∀ i (h:i<len),l[i]? =some (Classical.choose (H i h)):=by intro i h; simp [l,h]
    have Dy:jM P w (AF w) t (.slice (some ⟨b,o,none⟩) l.length cap) (.list l):=by
     refine .sl (e:=e) hu ?_ (by rw [Oc]; exact hl) (by rw [Oc]; exact Nat.le_trans hl hm) hsz ?_ (fun i j=>(w.cell? ⟨b,o+(i*(aI P e).length+j),none⟩).getD default) ?_ ?_ (fun _=>rfl)
     ·intro h0 h1
      obtain ⟨_,hs⟩:=Classical.choose_spec (H 0 (by omega));obtain ⟨c,hc,_⟩:=hs 0 _ (List.getElem?_eq_getElem h1);unfold AF;rcases Nat.lt_or_ge b w.heap.size with h2|h2
      ·exact h2
      ·simp [World.cell?,Array.getElem?_eq_none h2] at hc
     ·intro p hp
      obtain ⟨i,hi,rfl⟩:=List.mem_iff_getElem.1 hp;have h1:=hlg i (by omega);rw [List.getElem?_eq_getElem hi] at h1;rw [Option.some.inj h1];exact (Classical.choose_spec (H i (by omega))).1
     ·intro i j hi hj
      obtain ⟨_,hs⟩:=Classical.choose_spec (H i (by omega));obtain ⟨c,hc,_⟩:=hs j _ (List.getElem?_eq_getElem hj);rw [hc]; rfl
     ·intro i j p t' hp hj
      have hi:i<len:=by have:=(List.getElem?_eq_some_iff.1 hp).1; omega
      rw [hlg i hi] at hp;obtain rfl:=Option.some.inj hp;obtain ⟨_,hs⟩:=Classical.choose_spec (H i hi);obtain ⟨c,hc,hr,_⟩:=hs j t' hj;rw [hc]; exact hr
    have akv:Rch P t (.list l):=by
     refine .sl hu ?_ ?_
     ·rw [Oc]
      have h0:=hwt ((elems.map (·.1)).length*P.bytesOf e+(rest.map (·.1)).length*P.bytesOf e) (by simp only [DataW.weights,hu, ←Nat.add_mul]; exact List.mem_cons_self ..);simp only [List.length_map,hlen] at h0;omega
     ·intro q hq j t' hj
      obtain ⟨i,hi,rfl⟩:=List.mem_iff_getElem.1 hq;have h1:=hlg i (by omega);rw [List.getElem?_eq_getElem hi] at h1;rw [Option.some.injEq] at h1;rw [h1];obtain ⟨_,hs⟩:=Classical.choose_spec (H i (by omega));obtain ⟨c,_,_,hc⟩:=hs j t' hj;exact hc
    rw [Oc] at Dy;exact tU hag ⟨Dy,akv⟩
  ·rename_i fs hu
   simp only [Bool.and_eq_true,decide_eq_true_eq,List.all_eq_true] at ht;obtain ⟨hag,hct,hty,hof,hall⟩:=ht;obtain ⟨xs,n,_,rfl,Dt,hxl,hf⟩:=DataW.trod_struct hu hx;have:=S4 (P:=P) (w:=w) (cs:=cs) fs.toList 0 hof (fun f hfm=>by
    obtain ⟨i,hi,rfl⟩:=List.mem_iff_getElem.1 hfm;have h1:=hf i fs.toList[i] (by simp);have hi':i<xs.length:=by rw [hxl]; simpa using hi
    rw [List.getElem?_eq_getElem hi'] at h1;refine ih _ (hall _ hfm) n _ _ h1 fun m hm=>hwt m ?_
    simp only [DataW.weights,hu];refine DataW.weights_mem_each (j:=i) (t:=(fs.toList[i]).type) (d:=(xs[i]'hi').1) ?_ ?_ m hm
    ·rw [List.getElem?_map,List.getElem?_eq_getElem hi]; rfl
    ·rw [List.getElem?_map,List.getElem?_eq_getElem hi']; rfl)
   obtain ⟨ps,h1,h2⟩:=this;refine ⟨by rw [Dt,hct],ps,by rw [h1, ←hty],fun j t' c q g1 g2 g3=>h2 j t' c q (by rw [← hty]; exact g1) (by rw [Nat.zero_add]; exact g2) g3⟩
  ·exact absurd ht (by simp)
theorem UG {w:World} {t:TypeId} {a:Array Value} (h:isAgg P t=true) (hr:Wt P w t a.toList): ∃ ps:List PV,cu P w (AF w) t (.agg a) (.agg ps)∧ps.length=(aI P t).length∧ ∀ (j:Nat) (t':TypeId) (q:PV),(aI P t)[j]? =some t'→ps[j]? =some q→Rch P t' q:=by
 obtain ⟨h1,ps,h2,h3⟩:=hr;refine ⟨ps, ?_,h2,fun j t' q hj hq=> ?_⟩
 ·unfold cu
  rw [h];exact ⟨a.toList,ps,rfl,rfl,h1,h2,fun j t' c q a b d=>(h3 j t' c q a b d).1⟩
 ·have hlt:=(List.getElem?_eq_some_iff.1 hj).1
  exact (h3 j t' _ q hj (List.getElem?_eq_getElem (by omega)) hq).2
end Go.Sy
