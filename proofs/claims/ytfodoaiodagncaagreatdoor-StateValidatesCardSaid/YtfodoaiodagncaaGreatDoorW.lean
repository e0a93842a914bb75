/-
  Proved here: what a reading gives is data; contracts of sorting, of the digest and of the law's example. Its conditions are the row's listed variables.
-/
import Derived.Test.YtfodoaiodagncaaGreatDoorP
import Derived.Sort.EncStr
import Derived.Sort.Grow
import Derived.Sort.Row
import Derived.Test.YtfodoaiodagncaaGreatDoorYc
import Derived.ChangeArms
import Derived.Test.YtfodoaiodagncaaGreatDoorProg
import Derived.Test.YtfodoaiodagncaaGreatDoorD
import Derived.WalkKit
import Derived.BigCall
import Derived.Deep.OwnRows
import Derived.Lib.HexFns
import Derived.Lib.Hide
import Derived.KernelRfl
import Derived.Shelf.Sort.Plain
import Derived.Shelf.Slices.In.SortNone
set_option linter.unusedVariables false
set_option linter.unusedSimpArgs false
namespace Go.Sy.V
open PV Go.Sy
variable {P:Program}
theorem LL {k:IntKind} {n:Int} (h:JW k n): -9223372036854775808≤n∧n<18446744073709551616:=by
 unfold JW at h;rw [← h];cases k<;>simp [IntKind.wrap,IntKind.bits,IntKind.signed]<;>omega
theorem Zr {w:World} {Z:Nat→Prop} {t:TypeId} {u:Value} {p:PV} (h:jM P w Z t u p):Wf p:=by
 induction h with
 |int ht hn=>exact .int _ (LL hn).1 (LL hn).2
 |bool ht=>exact .bool _
 |str ht hs=>exact .str _ hs
 |nil ht=>exact .list _ (by decide) (by simp)
 | @sl t e sp b off c l ht hz hlen hc hsz hsh u hu hr hsp ih=>
  refine .list _ hc fun p hp=> ?_
  obtain ⟨i,hi,rfl⟩:=List.mem_iff_getElem.1 hp;have hi':l[i]? =some l[i]:=List.getElem?_eq_getElem hi;cases ha:isAgg P e with
  |false=>
   have h1:=ih i 0 l[i] e hi' (by rw [eT ha]; rfl);simpa only [cellAt,ha] using h1
  |true=>
   obtain ⟨cs,h1,h2⟩:=hsh _ hp ha;rw [h1];refine .agg _ fun q hq=> ?_
   obtain ⟨j,hj,rfl⟩:=List.mem_iff_getElem.1 hq;have h3:=ih i j l[i] (aI P e)[j] hi' (List.getElem?_eq_getElem (by omega));simp only [cellAt,ha,h1] at h3;have:aj (.agg cs) j=cs[j]:=by simp [aj,PV.cells,hj]
   rw [this] at h3;exact h3
theorem aaU {w:World} {Z:Nat→Prop} {t:TypeId} {u:Value} {p:PV} (h:cu P w Z t u p):Wf p:=by
 unfold cu at h;cases ha:isAgg P t with
 |false=>rw [ha] at h; exact Zr h
 |true=>
  rw [ha] at h;obtain ⟨vs,ps,h1,rfl,h3,h4,h5⟩:=h;refine .agg _ fun q hq=> ?_
  obtain ⟨j,hj,rfl⟩:=List.mem_iff_getElem.1 hq;exact Zr (h5 j (aI P t)[j] vs[j] ps[j] (List.getElem?_eq_getElem (by omega)) (List.getElem?_eq_getElem (by omega)) (List.getElem?_eq_getElem hj))
end Go.Sy.V
namespace Go.Sy
open Go.Sim (Tr aV bM bA bL)
open Go.Sort Go.RowKit Go.Proofs
variable {P:Program}
noncomputable section
theorem aaV {w:World} {Z:Nat→Prop} {e:TypeId} (hs:P.underlying e=some .string) {u:Value} {p:PV} (h:jM P w Z e u p): ∃ s:ByteArray,u= .string s∧p= .str s∧s.size≤aN:=by
 cases h with
 |str ht hs'=>exact ⟨_,rfl,rfl,hs'⟩
 |int ht _=>rw [hs] at ht; simp at ht
 |bool ht=>rw [hs] at ht; simp at ht
 |nil ht=>rw [hs] at ht; simp at ht
 |sl ht=>rw [hs] at ht; simp at ht
theorem Ws {f:FuncId} {e:TypeId} (hs:P.underlying e=some .string) (ht:aI P e=[e]) (hag:isAgg P e=false) (hfn: ∃ fn code,P.funcs[f]? =some fn∧fn.body=some code)
  (h1: ∀ (blk off cap:Nat) (ss:List (List UInt8)) (w:World),Holds encStr w blk off ss.toArray→blk<w.heap.size→ss.length<4611686018427387904→
   Calls P f #[.slice (some ⟨blk,off,none⟩) ss.length cap] w fun e w'=>e= .returned (.tuple #[])∧ ∃ n os,w'=grow (putRow encStr (Sort.ahead w n) blk off (ss.mergeSort fun x y=>decide (x≤y)).toArray) os)
  (h2: ∀ (p:Option Addr) (cap:Nat) (w:World),Calls P f #[.slice p 0 cap] w fun e w'=>e= .returned (.tuple #[])∧w'=w):
  Sv P ⟨f,e,dQ⟩ where
 fn:=hfn
 run:=by
  intro l l' hF w ad cp Z0 hr hb;simp only [dQ] at hF;have hF:l.length<4611686018427387904∧BX l=l':=by
   revert hF
   cases h:Nat.blt l.length 4611686018427387904 with
   |false=>intro hF; simp [aC] at hF
   |true=>intro hF; rw [Nat.blt_eq] at h; exact ⟨h,by simpa [aC] using hF⟩
  obtain ⟨hlen,rfl⟩:=hF;have hsl:(BX l).length=l.length:=by simp [BX]
  by_cases hl:l=[]
  ·subst hl
   refine (h2 (addrOf ad) cp w).mono ?_;rintro en w' ⟨rfl,rfl⟩;exact ⟨rfl,hsl,rfl,rfl,rfl,Nat.le_refl _,fun _ _ _=>rfl,fun Z hZ=>by rw [show BX []=[] from by simp [BX]]; exact hZ⟩
  ·rcases hr with ⟨_,h,_⟩|⟨b,o,rfl,hz,cc,ty,fr,hh,abG,hsz,hroom,hlc,hlm,hsh,hcell⟩
   ·exact absurd h hl
   ·have hb':=hb b rfl
    have hc: ∀ i p,l[i]? =some p→ ∃ s:ByteArray,cc[o+i]? =some (.string s)∧p= .str s∧s.size≤aN:=by
     intro i p hp;obtain ⟨u,hu,Dy⟩:=hcell i 0 p e hp (by rw [ht]; rfl);rw [ht] at hu;simp only [List.length_singleton,Nat.mul_one,Nat.add_zero,cellAt,hag] at hu Dy;obtain ⟨s,rfl,rfl,hs'⟩:=aaV hs Dy;exact ⟨s,hu,rfl,hs'⟩
    have hH:Holds encStr w b o (l.map fun p=>p.toStr.data.toList).toArray:=by
     intro j hj;have hj:j<l.length:=by simpa using hj
     obtain ⟨s,h3,h4,_⟩:=hc j l[j] (List.getElem?_eq_getElem hj);constructor
     ·simp only [World.cell?,hh]
      have:((l.map fun p=>p.toStr.data.toList).toArray)[j]! =s.data.toList:=by
       rw [getElem!_pos _ j (by simpa using hj)]; simp [h4,PV.toStr]
      rw [this,h3]; simp [encStr]
     ·simp only [World.frozen?,hh]
      obtain ⟨lo,hi⟩:=fr;have:=abG (o+j) (by rw [ht] at hroom; simp at hroom; omega);exact this
    have:=h1 b o cp (l.map fun p=>p.toStr.data.toList) w hH hb' (by simpa using hlen);rw [List.length_map] at this;refine this.mono ?_;rintro en w' ⟨rfl,n,os,rfl⟩;have hms: ∀ bts,bts∈((l.map fun p=>p.toStr.data.toList).mergeSort fun x y=>decide (x≤y))→bts.length≤aN:=by
     intro bts hm;rw [List.mem_mergeSort,List.mem_map] at hm;obtain ⟨p,hp,rfl⟩:=hm;obtain ⟨i,hi,rfl⟩:=List.mem_iff_getElem.1 hp;obtain ⟨s,_,h4,h5⟩:=hc i l[i] (List.getElem?_eq_getElem hi);rw [h4]; exact (show s.data.toList.length≤aN from by rw [Array.length_toList]; exact h5)
    have hsS:BX l=((l.map fun p=>p.toStr.data.toList).mergeSort fun x y=>decide (x≤y)).map fun b=> .str ⟨b.toArray⟩:=rfl
    have hml:((l.map fun p=>p.toStr.data.toList).mergeSort fun x y=>decide (x≤y)).length=l.length:=by simp
    rw [hsS];generalize (l.map fun p=>p.toStr.data.toList).mergeSort (fun x y=>decide (x≤y))=ms at*;have hsize:(putRow encStr (Sort.ahead w n) b o ms.toArray).heap.size=w.heap.size:=by simp [putRow,mapBlock,Sort.ahead]
    have hold: ∀ b',b'<w.heap.size→(grow (putRow encStr (Sort.ahead w n) b o ms.toArray) os).heap[b']? =(putRow encStr (Sort.ahead w n) b o ms.toArray).heap[b']? :=by
     intro b' h';exact heap_grow_old _ os (by rw [hsize]; exact h')
    have hblk:(grow (putRow encStr (Sort.ahead w n) b o ms.toArray) os).heap[b]? =some (.cells (putCells encStr o ms.toArray cc) ty fr):=by
     rw [hold b hb'];simp only [putRow,mapBlock,Sort.ahead,Array.getElem?_modify,if_true,hh,Option.map_some,onCells]
    refine ⟨rfl,by simp [hml],rfl,rfl,rfl, ?_, ?_, ?_⟩
    ·simp only [grow,Array.size_append,hsize]; omega
    ·intro b' h' hne
     rw [hold b' h'];have:b≠b':=fun h=>hne (by rw [h]; rfl)
     simp only [putRow,mapBlock,Sort.ahead,Array.getElem?_modify,if_neg this]
    ·intro Z hZ
     have hzb: ¬ Z b:=by
      rcases hZ with ⟨h,_⟩|⟨b',o',h,Na,_⟩
      ·simp at h
      ·simp only [Option.some.injEq,Prod.mk.injEq] at h; rw [h.1]; exact Na
     refine .inr ⟨b,o,rfl,hzb,putCells encStr o ms.toArray cc,ty,fr,hblk, ?_,hsz, ?_, ?_, ?_, ?_, ?_⟩
     ·have:(putCells encStr o ms.toArray cc).size=cc.size:=by simp [putCells]
      rw [this]; exact abG
     ·have:(putCells encStr o ms.toArray cc).size=cc.size:=by simp [putCells]
      rw [this]; exact hroom
     ·simpa [hml] using hlc
     ·simpa [hml] using hlm
     ·intro p hp ha; rw [hag] at ha; exact absurd ha (by simp)
     ·intro i j p t' hp hj
      rw [ht] at hj ⊢;have hj0:j=0:=by
       cases j with
       |zero=>rfl
       |succ j=>simp at hj
      subst hj0;simp only [List.getElem?_cons_zero,Option.some.injEq] at hj;subst hj;have hi:i<ms.length:=by
       have:=List.getElem?_eq_some_iff.1 hp; obtain ⟨h,_⟩:=this; simpa using h
      have hp':p= .str ⟨(ms[i]).toArray⟩:=by
       rw [List.getElem?_map,List.getElem?_eq_getElem hi] at hp; simpa using hp.symm
      refine ⟨.string ⟨(ms[i]).toArray⟩, ?_, ?_⟩
      ·have hio:o+i<cc.size:=by rw [ht] at hroom; simp at hroom; omega
       simp only [List.length_singleton,Nat.mul_one,Nat.add_zero,putCells,Array.getElem?_mapIdx,Array.getElem?_eq_getElem hio,Option.map_some];rw [if_pos (by simp; omega)];have:ms.toArray[o+i - o]! =ms[i]:=by
        rw [show o+i - o=i by omega,getElem!_pos _ i (by simpa using hi)]; simp
       rw [this]
      ·rw [hp']; simp only [cellAt,hag]
       exact .str hs (by have:=hms _ (List.getElem_mem hi); simpa [ByteArray.size] using this)
end
end Go.Sy
namespace Go.Sy
open Go.Sim (Tr aV bM bA bL)
open Go Go.ChangeShapes Go.WideShapes
variable {P:Program}
def UF (P:Program):Nat→List Field→Bool
 |_,[]=>true
 |k,f::l=>decide (f.offset=k)&&(decide (P.cellsOf f.type=(aI P f.type).length)&&UF P (k+(aI P f.type).length) l)
def rdB (P:Program):Nat→TypeId→Bool
 |0,_=>false
 |d+1,t=>match P.underlying t with
  |some .bool=> !isAgg P t
  |some (.int _)=> !isAgg P t
  |some .string=> !isAgg P t
  |some (.slice e)=> !isAgg P t&&(decide (0<(aI P e).length)&&(decide (P.cellsOf e=(aI P e).length)&&(decide (aV P e=some (aI P e).length)&&rdB P d e)))
  |some (.struct fs)=>isAgg P t&&(decide (P.cellsOf t=(aI P t).length)&&(decide (aI P t=fs.toList.flatMap fun f=>aI P f.type)&&(UF P 0 fs.toList&&fs.toList.all fun f=>rdB P d f.type)))
  |_=>false
def AF (w:World):Nat→Prop:=fun b=>b<w.heap.size
def Wt (P:Program) (w:World) (t:TypeId) (cs:List Value):Prop:=cs.length=(aI P t).length∧ ∃ ps:List PV,ps.length=(aI P t).length∧ ∀ (j:Nat) (t':TypeId) (c:Value) (q:PV),(aI P t)[j]? =some t'→cs[j]? =some c→ps[j]? =some q→jM P w (AF w) t' c q
theorem tU {w:World} {t:TypeId} {c:Value} {q:PV} (h:isAgg P t=false) (hr:jM P w (AF w) t c q):Wt P w t [c]:=by
 rw [Wt,eT h];refine ⟨rfl,[q],rfl,fun j t' c' q' h1 h2 h3=> ?_⟩;cases j with
 |zero=>simp at h1 h2 h3; subst h1; subst h2; subst h3; exact hr
 |succ j=>simp at h1
theorem S4 {w:World} {cs:List Value}: ∀ (l:List Field) (k:Nat),UF P k l=true→(∀ f∈l,Wt P w f.type ((cs.drop f.offset).take (P.cellsOf f.type)))→
  ∃ ps:List PV,ps.length=(l.flatMap fun f=>aI P f.type).length∧ ∀ (j:Nat) (t':TypeId) (c:Value) (q:PV),(l.flatMap fun f=>aI P f.type)[j]? =some t'→cs[k+j]? =some c→ps[j]? =some q→jM P w (AF w) t' c q:=by
 intro l;induction l with
 |nil=>intro k _ _; exact ⟨[],rfl,fun j t' c q h=>by simp at h⟩
 |cons f l ih=>
  intro k ho hf;simp only [UF,Bool.and_eq_true,decide_eq_true_eq] at ho;obtain ⟨ps,hp,hr⟩:=ih _ ho.2.2 (fun g hg=>hf g (List.mem_cons_of_mem _ hg));obtain ⟨_,qs,hq,hs⟩:=hf f (List.mem_cons_self ..);refine ⟨qs++ps,by simp only [List.flatMap_cons,List.length_append,hp,hq],fun j t' c q h1 h2 h3=> ?_⟩;rw [List.flatMap_cons] at h1;by_cases hj:j<(aI P f.type).length
  ·rw [List.getElem?_append_left hj] at h1
   rw [List.getElem?_append_left (by omega)] at h3;refine hs j t' c q h1 ?_ h3;rw [ho.1,ho.2.1,List.getElem?_take,if_pos hj,List.getElem?_drop]; exact h2
  ·rw [List.getElem?_append_right (by omega)] at h1
   rw [List.getElem?_append_right (by omega)] at h3;rw [hq] at h3;exact hr _ t' c q h1 (by rw [← h2]; congr 1; omega) h3
theorem aaW {w:World} {e:TypeId} {cs:List Value} (h:Wt P w e cs): ∃ p,shaped P e p∧ ∀ (j:Nat) (t':TypeId) (c:Value),(aI P e)[j]? =some t'→cs[j]? =some c→jM P w (AF w) t' c (cellAt P e p j):=by
 obtain ⟨h1,ps,h2,h3⟩:=h;cases ha:isAgg P e with
 |true=>
  refine ⟨.agg ps,fun _=>⟨ps,rfl,h2⟩,fun j t' c g1 g2=> ?_⟩;have hj:j<ps.length:=by rw [h2]; exact (List.getElem?_eq_some_iff.1 g1).1
  simp only [cellAt,ha];rw [BG (List.getElem?_eq_getElem hj)];exact h3 j t' c _ g1 g2 (List.getElem?_eq_getElem hj)
 |false=>
  rw [eT ha] at h2 h3;obtain ⟨q,rfl⟩: ∃ q,ps=[q]:=by
   match ps,h2 with
   |[q],_=>exact ⟨q,rfl⟩
  refine ⟨q,fun hh=>by rw [ha] at hh; exact absurd hh (by simp),fun j t' c g1 g2=> ?_⟩;rw [eT ha] at g1;simp only [cellAt,ha];cases j with
  |zero=>exact h3 0 t' c q g1 g2 rfl
  |succ j=>simp at g1
theorem adm {k:IntKind} {n:Int} (h:(Lit.int k n).wf=true):JW k n:=by
 simp only [Lit.wf,Bool.and_eq_true,decide_eq_true_eq] at h;unfold JW;cases k<;>simp [IntKind.wrap,IntKind.bits,IntKind.signed,IntKind.min,IntKind.max] at* <;>omega
theorem mapM_some' {α β:Type} (f:α→Option β): ∀ (l:List α) (r:List β),l.mapM f=some r→r.length=l.length∧ ∀ (j:Nat) (a:α),l[j]? =some a→r[j]? =f a
 |[],r,h=>by
  simp only [List.mapM_nil] at h;obtain rfl:=Option.some.inj h;exact ⟨rfl,fun j a hj=>by simp at hj⟩
 |a::l,r,h=>by
  rw [List.mapM_cons] at h;cases ha:f a with
  |none=>rw [ha] at h; simp at h
  |some b=>
   cases hl:l.mapM f with
   |none=>rw [ha,hl] at h; simp at h
   |some r'=>
    rw [ha,hl] at h;obtain rfl:=Option.some.inj h;obtain ⟨h1,h2⟩:=mapM_some' f l r' hl;refine ⟨by simp [h1],fun j c hj=> ?_⟩;cases j with
    |zero=>simp at hj; subst hj; simp [ha]
    |succ j=>simp at hj; simpa using h2 j c hj
theorem Zs {w:World} {base b o n:Nat} {cs:List Value} (h:w.cells? base ⟨b,o,none⟩ n=some cs):cs.length=n∧ ∀ j c,cs[j]? =some c→w.cell? ⟨b,o+j,none⟩=some c:=by
 unfold World.cells? at h;split at h
 ·obtain ⟨h1,h2⟩:=mapM_some' _ _ _ h
  rw [List.length_range] at h1;refine ⟨h1,fun j c hj=> ?_⟩;have hjn:j<n:=by have:=(List.getElem?_eq_some_iff.1 hj).1; omega
  have:=h2 j j (by simp [hjn]);rw [hj,add_plain] at this;exact this.symm
 ·simp at h
theorem Q3 {H:Type} {enc:TypeId×Value→H} {w:World} {base:Nat} {sp:Nat→Bool} {held:Bool}: ∀ (d:Nat) (t:TypeId),rdB P d t=true→ ∀ (fuel:Nat) (cs:List Value) (x:DataW H×List MemPlace),DataW.trod enc P w base sp held fuel t cs=some x→Wt P w t cs:=by
 intro d;induction d with
 |zero=>intro t h; simp [rdB] at h
 |succ d ih=>
  intro t ht fuel cs x hx;unfold rdB at ht;split at ht
  ·rename_i hu
   obtain ⟨b,rfl,_⟩:=DataW.trod_bool hu hx;exact tU (by simpa using ht) (.bool hu)
  ·rename_i k hu
   obtain ⟨n,rfl,_,hwf⟩:=DataW.trod_int hu hx;exact tU (by simpa using ht) (.int hu (adm hwf))
  ·rename_i hu
   obtain ⟨s,rfl,_,hsz⟩:=DataW.trod_string hu hx;exact tU (by simpa using ht) (.str hu hsz)
  ·rename_i e hu
   simp only [Bool.and_eq_true,Bool.not_eq_true',decide_eq_true_eq] at ht;obtain ⟨hag,hpos,hce,hsz,hre⟩:=ht;rcases DataW.trod_slice hu hx with ⟨rfl,_⟩|⟨a,len,cap,elems,rest,n,_,rfl,rfl,hb,hl,hm,hlen,hel,_⟩
   ·exact tU hag (.nil hu)
   ·obtain ⟨b,o,s⟩:=a
    by_cases hl0:len=0
    ·subst hl0
     refine tU hag (q:= .list []) ?_;exact .sl (l:=[]) (e:=e) hu (fun h=>by simp at h) (by simp) (by simp) hsz (fun p hp=>by simp at hp) (fun _ _=> .bool false) (fun i j h=>by simp at h) (fun i j p t' h=>by simp at h) (fun h=>absurd rfl h)
    obtain rfl:s=none:=by
     cases s with
     |none=>rfl
     |some q=>
      exfalso;have h1:=hel 0 (by omega);rw [List.getElem?_eq_getElem (by omega)] at h1;obtain ⟨cs',h2,h3⟩:=Option.bind_eq_some_iff.1 h1;have h4:w.cells? base ⟨b,o,some q⟩ (P.cellsOf e)=some cs':=by
       have:(Addr.add ⟨b,o,some q⟩ (0*P.cellsOf e))=⟨b,o,some q⟩:=by simp [Addr.add]
       rwa [this] at h2
      have h5:(List.range (P.cellsOf e)).mapM (fun i=>w.cell? (Addr.add ⟨b,o,some q⟩ i))=some cs':=by
       unfold World.cells? at h4;by_cases ZF:base≤(Addr.mk b o (some q)).block
       ·rw [if_pos ZF] at h4; exact h4
       ·rw [if_neg ZF] at h4; exact absurd h4 (by simp)
      obtain ⟨g1,g2⟩:=mapM_some' _ _ _ h5;rw [List.length_range] at g1;have g3:=g2 0 0 (by rw [List.getElem?_range (by omega)]);rw [List.getElem?_eq_getElem (by omega)] at g3;have g4:w.cell? (Addr.add ⟨b,o,some q⟩ 0)=none:=by
       simp only [Addr.add,if_true,World.cell?];split<;>rfl
      rw [g4] at g3;cases g3
    have H: ∀ i,i<len→ ∃ p,shaped P e p∧ ∀ (j:Nat) (t':TypeId),(aI P e)[j]? =some t'→ ∃ c,w.cell? ⟨b,o+(i*(aI P e).length+j),none⟩=some c∧jM P w (AF w) t' c (cellAt P e p j):=by
     intro i hi;have h1:=hel i hi;rw [List.getElem?_eq_getElem (by omega)] at h1;obtain ⟨cs',h2,h3⟩:=Option.bind_eq_some_iff.1 h1;have ha:(Addr.add ⟨b,o,none⟩ (i*P.cellsOf e))=⟨b,o+i*P.cellsOf e,none⟩:=add_plain _ _ _;rw [ha] at h2;have hc:=Zs h2;have hr:=ih e hre n cs' _ h3;obtain ⟨p,hp1,hp2⟩:=aaW hr;refine ⟨p,hp1,fun j t' hj=> ?_⟩;have hj':j<cs'.length:=by rw [hr.1]; exact (List.getElem?_eq_some_iff.1 hj).1
     refine ⟨cs'[j], ?_,hp2 j t' _ hj (List.getElem?_eq_getElem hj')⟩;have:=hc.2 j _ (List.getElem?_eq_getElem hj');rw [← this,hce,Nat.add_assoc]
    let l:List PV:=(List.range len).map fun i=>if h:i<len then Classical.choose (H i h) else .zero
    have Oc:l.length=len:=by simp [l]
    have hlg: ∀ i (h:i<len),l[i]? =some (Classical.choose (H i h)):=by intro i h; simp [l,h]
    have Dy:jM P w (AF w) t (.slice (some ⟨b,o,none⟩) l.length cap) (.list l):=by
     refine .sl (e:=e) hu ?_ (by rw [Oc]; exact hl) (by rw [Oc]; exact Nat.le_trans hl hm) hsz ?_ (fun i j=>(w.cell? ⟨b,o+(i*(aI P e).length+j),none⟩).getD default) ?_ ?_ (fun _=>rfl)
     ·intro h0 h1
      obtain ⟨_,hs⟩:=Classical.choose_spec (H 0 (by omega));obtain ⟨c,hc,_⟩:=hs 0 _ (List.getElem?_eq_getElem h1);unfold AF;rcases Nat.lt_or_ge b w.heap.size with h2|h2
      ·exact h2
      ·simp [World.cell?,Array.getElem?_eq_none h2] at hc
     ·intro p hp
      obtain ⟨i,hi,rfl⟩:=List.mem_iff_getElem.1 hp;have h1:=hlg i (by omega);rw [List.getElem?_eq_getElem hi] at h1;rw [Option.some.inj h1];exact (Classical.choose_spec (H i (by omega))).1
     ·intro i j hi hj
      obtain ⟨_,hs⟩:=Classical.choose_spec (H i (by omega));obtain ⟨c,hc,_⟩:=hs j _ (List.getElem?_eq_getElem hj);rw [hc]; rfl
     ·intro i j p t' hp hj
      have hi:i<len:=by have:=(List.getElem?_eq_some_iff.1 hp).1; omega
      rw [hlg i hi] at hp;obtain rfl:=Option.some.inj hp;obtain ⟨_,hs⟩:=Classical.choose_spec (H i hi);obtain ⟨c,hc,hr⟩:=hs j t' hj;rw [hc]; exact hr
    rw [Oc] at Dy;exact tU hag Dy
  ·rename_i fs hu
   simp only [Bool.and_eq_true,decide_eq_true_eq,List.all_eq_true] at ht;obtain ⟨hag,hct,hty,hof,hall⟩:=ht;obtain ⟨xs,n,_,_,Dt,hxl,hf⟩:=DataW.trod_struct hu hx;have:=S4 (P:=P) (w:=w) (cs:=cs) fs.toList 0 hof (fun f hfm=>by
    obtain ⟨i,hi,rfl⟩:=List.mem_iff_getElem.1 hfm;have h1:=hf i fs.toList[i] (by simp);have hi':i<xs.length:=by rw [hxl]; simpa using hi
    rw [List.getElem?_eq_getElem hi'] at h1;exact ih _ (hall _ hfm) n _ _ h1)
   obtain ⟨ps,h1,h2⟩:=this;refine ⟨by rw [Dt,hct],ps,by rw [h1, ←hty],fun j t' c q g1 g2 g3=>h2 j t' c q (by rw [← hty]; exact g1) (by rw [Nat.zero_add]; exact g2) g3⟩
  ·exact absurd ht (by simp)
theorem UG {w:World} {t:TypeId} {a:Array Value} (h:isAgg P t=true) (hr:Wt P w t a.toList): ∃ p,cu P w (AF w) t (.agg a) p:=by
 obtain ⟨h1,ps,h2,h3⟩:=hr;refine ⟨.agg ps, ?_⟩;unfold cu;rw [h];exact ⟨a.toList,ps,rfl,rfl,h1,h2,h3⟩
end Go.Sy
namespace Go.Proofs
open Go.RowKit Go.Lib Go.Fnv
theorem Tryz.info21:(Tryz.prog.info? 21).map (fun i=>(i.zero,i.size,i.bytes))=some (some (.int .i32 0),1,4):=by kernel_rfl
theorem ahZ (b j:Nat):Addr.add ⟨b,0,none⟩ j=⟨b,j,none⟩:=by
 unfold Addr.add;split
 ·rename_i h; rw [h]
 ·rw [Nat.zero_add]
set_option maxHeartbeats 4000000 in
set_option maxRecDepth 1000000 in
theorem Tryz.letters (s:ByteArray) (hs:s.size≤1099511627776) (w:World):
  Calls Tryz.prog 197 #[.string s] w fun e w'=>e= .returned (.string (Rt s.data.toList))∧Below w.heap.size w w':=by
 have hmk: ∀ w:World,(Instr.makeSlice 343 (.int .i64 (s.size:Int)) (.int .i64 (s.size:Int))).run Tryz.prog w= .ok (.slice (some ⟨w.heap.size,0,none⟩) s.size s.size) (w.alloc (.cells (madeCells #[.int .i32 0] s.size) 21)):=fun w=>
  run_make_row' (P:=Tryz.prog) 343 21 (.int .i32 0) 4 Tryz.underlying343 Tryz.info21 rfl .i64 .i64 s.size (by omega) (by omega) w
 go_enter Tryz.func197,Tryz.ntmps197
 go_wp2
 go_loopw [10] (fun vi wr=> ∃ k:Nat,k≤s.size∧vi= .int .i64 k∧Hid (wr.rowIs w.heap.size 21 s.size (fun j=>if j<k then .int .i32 (s.get! j).toNat else .int .i32 0))∧Hid ((w.alloc (.cells (madeCells #[.int .i32 0] s.size) 21)).grownBy wr (some w.heap.size))) (fun vi _=>s.size - (intOf vi).toNat)
 case atStart=>exact ⟨0,Nat.zero_le _,rfl,(World.rowIs_made w _ _ _).congr (fun j _=>by simp),Hx.grownBy_refl _ _⟩
 case round=>
  obtain ⟨k,hk,rfl,hrw,hgr⟩:=hrel;have hf1:wr.frozen? ⟨w.heap.size,k,none⟩=false:=hrw.out.frozen _;have hc1:k<s.size→wr.cell? ⟨w.heap.size,k,none⟩=some (.int .i32 0):=fun h=>by have:=hrw.out.cell h; simpa using this
  clear hmk;by_cases hlt:k<s.size
  ·go_wp2
   ·go_roundw
    case rel=>
     refine ⟨k+1,by omega,by go_num,(hrw.out.set k _).congr (fun j hj=> ?_),Hx.grownBy_set hgr.out _ rfl _⟩;have e1:wrap32 (s[k].toNat:Int)=s[k].toNat:=by have:=s[k].toNat_lt; unfold wrap32; omega
     have e2:s.get! k=s[k]:=get_at s k hlt;rw [e1];by_cases h1:j=k
     ·subst h1; simp [e2]
     ·rw [if_neg h1]
      by_cases h2:j<k
      ·rw [if_pos h2,if_pos (by omega)]
      ·rw [if_neg h2,if_neg (by omega)]
    case measure=>simp [intOf]; omega
  ·obtain rfl:k=s.size:=by omega
   have g:(convert 343 9 (.slice (some ⟨w.heap.size,0,none⟩) s.size s.size)).run Tryz.prog wr= .ok (.string (Rt s.data.toList)) wr:=by
    have hl:(s.data.toList.map fun b=>(b.toNat:Int)).length=s.size:=by rw [List.length_map,Array.length_toList]; rfl
    have:=run_convert_runes (P:=Tryz.prog) wr 343 9 21 ⟨w.heap.size,0,none⟩ s.size s.size (s.data.toList.map fun b=>(b.toNat:Int)) (by omega) Tryz.underlying343 Tryz.underlying21 Tryz.underlying9 (fun j hj=>by
     rw [hl] at hj;have hc:=hrw.out.cell hj;rw [ahZ,hc,if_pos hj];have hj':j<s.data.toList.length:=by rw [Array.length_toList]; exact hj
     have:s.get! j=s.data.toList[j]:=by rw [show s.get! j=s.get! (j+0) from rfl,get_at s j hj]; simp [ByteArray.getElem_eq_getElem_data]
     rw [this];simp only [List.getD,List.getElem?_map,List.getElem?_eq_getElem hj',Option.map_some,Option.getD_some])
    rw [this,List.take_of_length_le (by omega),Ih]
   have HG:Hid ((w.alloc (.cells (madeCells #[.int .i32 0] s.size) 21)).grownBy wr (some w.heap.size)):=hgr;clear hrw hgr hf1 hc1
   go_wp2
   go_ret
   exact ⟨rfl,((Below.refl _ w).alloc (Nat.le_refl _) _).grown HG.out (by simp) (fun k hk=>by cases hk; exact Nat.le_refl _)⟩
theorem Zt (x:Nat) (b:UInt8) (hx:x<18446744073709551616):bits .xor .u64 (x:Int) (IntKind.u64.wrap (b.toNat:Int))=(Nat.xor x b.toNat:Nat):=by
 have hb:b.toNat<256:=b.toNat_lt;have h1:IntKind.u64.wrap (b.toNat:Int)=(b.toNat:Int):=IntWalk.u64_in _ ⟨by omega,by omega⟩;have h2:Nat.xor x b.toNat<2 ^ 64:=Nat.xor_lt_two_pow (by omega) (by omega);have h3:(Nat.xor x b.toNat)%2 ^ 64=Nat.xor x b.toNat:=Nat.mod_eq_of_lt h2;rw [h1];unfold bits;have e1:(BitVec.ofInt IntKind.u64.bits (x:Int) ^^^ BitVec.ofInt IntKind.u64.bits (b.toNat:Int)).toNat=Nat.xor x b.toNat:=by
  rw [BitVec.toNat_xor];simp only [IntKind.bits,BitVec.ofInt_natCast,BitVec.toNat_ofNat];rw [Nat.mod_eq_of_lt (show x<2 ^ 64 by omega),Nat.mod_eq_of_lt (show b.toNat<2 ^ 64 by omega)];rfl
 simp only [e1];exact IntWalk.u64_in _ ⟨by omega,by omega⟩
theorem Wu (x:Nat) (b:UInt8) (hx:x<18446744073709551616):IntKind.u64.wrap (bits .xor .u64 (x:Int) (IntKind.u64.wrap (b.toNat:Int))*1099511628211)=(Fnv.step x b:Nat):=by
 rw [Zt x b hx];unfold Fnv.step;have:IntKind.u64.wrap ((Nat.xor x b.toNat:Nat)*1099511628211:Int)=((Nat.xor x b.toNat:Nat)*1099511628211:Int)%18446744073709551616:=by simp [IntKind.wrap,IntKind.bits,IntKind.signed]
 rw [this];generalize Nat.xor x b.toNat=y;omega
set_option maxHeartbeats 4000000 in
set_option maxRecDepth 1000000 in
theorem Tryz.extend (h:Nat) (hh:h<18446744073709551616) (s:ByteArray) (hs:s.size≤1099511627776) (w:World):
  Calls Tryz.prog 109 #[.int .u64 h, .string s] w fun e w'=>e= .returned (.int .u64 (ext h s.data.toList:Nat))∧Below w.heap.size w w':=by
 go_enter Tryz.func109,Tryz.ntmps109
 go_wp2_with (go_at_call 197; refine (Tryz.letters s hs _).mono ?_; rintro e W1 ⟨rfl,b1⟩)
 obtain ⟨l,hl⟩: ∃ l,s.data.toList=l:=⟨_,rfl⟩;rw [hl]
 go_loopw [0] (fun vh wr=> ∃ k:Nat,k≤l.length∧wr=W1.iter (Rt l) (lu (l.take k)).length∧vh= .int .u64 (ext h (l.take k):Nat)) (fun _ wr=>(Rt l).size - wr.iterPos W1.heap.size)
 case atStart=>exact ⟨0,Nat.zero_le _,by simp [lu],by simp [ext]⟩
 case round=>
  obtain ⟨k,hk,rfl,rfl⟩:=hrel;by_cases hp:k<l.length
  ·have hlt:=acW l k hp
   have hnx: ∀ ty,(Instr.next (.pointer (some ⟨W1.heap.size,0,none⟩)) true ty).run Tryz.prog (W1.iter (Rt l) (lu (l.take k)).length)=_:=fun ty=>run_next_any W1 (Rt l) (lu (l.take k)).length ty hlt
   have hd:=VG l k hp;rw [hd] at hnx
   go_wp2
   go_roundw
   case rel=>
    refine ⟨k+1,by omega,by rw [VH l k hp], ?_⟩;rw [Wu _ _ (acX h _ hh),Yz h l k hp]
   case measure=>
    have:=Qp l[k].toNat;simp;omega
  ·have hp2:k=l.length:=by omega
   subst hp2;have hge: ¬ (lu l).length<(Rt l).size:=by rw [Qq]; omega
   have hnx: ∀ ty,(Instr.next (.pointer (some ⟨W1.heap.size,0,none⟩)) true ty).run Tryz.prog (W1.iter (Rt l) (lu l).length)=_:=fun ty=>run_next_end W1 (Rt l) (lu l).length ty hge
   simp only [List.take_length]
   go_wp2
   go_ret
   exact ⟨by rw [hl]; rfl,b1.alloc b1.size _⟩
end Go.Proofs
set_option maxRecDepth 100000
namespace Go.Sy
open Go.Proofs
noncomputable section
def rT:yZ:=[(0,4,G_0),(1,5,G_1)]
def oq:CX:= .m ⟨221,9,dQ⟩
def mI:CX:= .c ⟨5,[],[4],gR⟩
end
end Go.Sy
namespace Go.Sy
open Go.Proofs
open Go.Sim (Gn aaD noM XR Ur PA HB w_ tA HA MX)
open Go.RowKit (Below)
noncomputable section
def Ea:List Value:=G_0.map fun p=> .bool p.toBool
def Eb:List Value:=G_1.map fun p=> .int .u8 p.toInt
def GA:Nat→Option (List Value):=PA [(0,Ea),(1,Eb)]
theorem Zu:MX Tryz.prog=true:=by kernel_rfl
theorem dI:Tryz.prog.follows .mixedOrders=true:=by kernel_rfl
theorem okA:Go.Sim.bZ Tryz.prog GA (aaD noM 109):=Ur XR fun h hh s hs w=>Tryz.extend h hh s hs w
theorem adn:Gn Tryz.prog GA (aaD noM 109) 1000000 5 [] (.bool true)=true:=by kernel_rfl
theorem abH: ∀ p∈G_0,p= .bool p.toBool:=by
 intro p hp;simp only [G_0,List.mem_cons,List.not_mem_nil,or_false] at hp;rcases hp with rfl|rfl|rfl|rfl|rfl|rfl|rfl|rfl|rfl|rfl|rfl|rfl|rfl|rfl|rfl|rfl|rfl|rfl|rfl|rfl|rfl|rfl|rfl|rfl<;>rfl
theorem af0 {w:World} {Z:Nat→Prop} {t:TypeId} {u:Value} {b:Bool} (h:jM Tryz.prog w Z t u (.bool b)):u= .bool b:=by cases h; rfl
theorem af1 {w:World} {Z:Nat→Prop} {t:TypeId} {u:Value} {n:Int} (ht:Tryz.prog.underlying t=some (.int .u8)) (h:jM Tryz.prog w Z t u (.int n)):u= .int .u8 n:=by
 cases h with
 |int h1=>rw [ht] at h1; cases h1; rfl
theorem abI: ∀ p∈G_1,p= .int p.toInt:=by
 intro p hp;obtain ⟨i,_,rfl⟩:=List.mem_map.1 hp;rfl
theorem af2 {w:World} {Z0:Nat→Prop} (hz: ∀ b,Z0 b→b<w.heap.size) (hg:Ss Tryz.prog rT Z0 w):HB GA w:=by
 refine w_ fun x hx=> ?_
 rcases List.mem_cons.1 hx with rfl|hx
 ·obtain ⟨h1,h2⟩:=hg 0 4 G_0 rfl
  refine ⟨hz 0 h1,fun k v hk=> ?_⟩;simp only [Ea,List.getElem?_map,Option.map_eq_some_iff] at hk;obtain ⟨p,hp,rfl⟩:=hk;obtain ⟨u,hu,hr⟩:=h2 k p hp;rw [abH p (List.mem_of_getElem? hp)] at hr;rw [af0 hr] at hu;exact ⟨rfl,hu⟩
 ·obtain rfl:=List.mem_singleton.1 hx
  obtain ⟨h1,h2⟩:=hg 1 5 G_1 rfl;refine ⟨hz 1 h1,fun k v hk=> ?_⟩;simp only [Eb,List.getElem?_map,Option.map_eq_some_iff] at hk;obtain ⟨p,hp,rfl⟩:=hk;obtain ⟨u,hu,hr⟩:=h2 k p hp;rw [abI p (List.mem_of_getElem? hp)] at hr;rw [af1 Tryz.underlying5 hr] at hu;exact ⟨rfl,hu⟩
theorem ado:Au Tryz.prog rT mI:=by
 show Ls Tryz.prog (Ss Tryz.prog rT) ⟨5,[],[4],gR⟩
 refine ⟨⟨_,_,Tryz.func5,rfl⟩,fun ρ ρ' hF w args Z0 hz hg hlen ha=> ?_⟩;obtain rfl:args=[]:=List.length_eq_zero_iff.1 hlen;refine (tA (HA Zu) dI okA adn (af2 hz hg)).mono ?_;rintro e w' ⟨rfl,hb⟩;cases hF;refine ⟨[.bool true], .bool true,Z0,rfl,hb, .inl rfl,fun b hb'=>Nat.lt_of_lt_of_le (hz b hb') hb.size,fun _ h=>h,fun _ h=> .inl h,rfl,rfl,fun j t u p h1 h2 h3=> ?_⟩;cases j with
 |zero=>
  simp at h1 h2 h3;subst h1; subst h2; subst h3;show cu Tryz.prog w' Z0 4 (.bool true) (.bool true)
  unfold cu;rw [show isAgg Tryz.prog 4=false by kernel_rfl];exact .bool Tryz.underlying4
 |succ j=>simp at h1
end
end Go.Sy
namespace Go.Proofs
open Go.Shelf
def Tryz.lays190_ren:Go.Shelf.Ren:=⟨fun|190=>221|125=>303|258=>302|128=>358|129=>359|302=>349|303=>350|304=>351|305=>352|306=>353|307=>354|308=>355|309=>356|310=>357|333=>384|329=>385|330=>386|334=>387|335=>388|336=>389|344=>411|n=>n,fun|31=>63|9=>9|3=>3|46=>326|0=>0|51=>392|53=>22|4=>4|183=>385|182=>384|131=>389|5=>5|218=>412|222=>243|228=>442|229=>312|n=>n,fun|n=>n⟩
theorem Tryz.lays190:Go.Proofs.Lays.n190 Tryz.prog Tryz.lays190_ren:={
 mixed:=by kernel_rfl
 f125:=Tryz.func303.trans (congrArg some (by kernel_rfl))
 f128:=Tryz.func358.trans (congrArg some (by kernel_rfl))
 f129:=Tryz.func359.trans (congrArg some (by kernel_rfl))
 f190:=Tryz.func221.trans (congrArg some (by kernel_rfl))
 f258:=Tryz.func302.trans (congrArg some (by kernel_rfl))
 f302:=Tryz.func349.trans (congrArg some (by kernel_rfl))
 f303:=Tryz.func350.trans (congrArg some (by kernel_rfl))
 f304:=Tryz.func351.trans (congrArg some (by kernel_rfl))
 f305:=Tryz.func352.trans (congrArg some (by kernel_rfl))
 f306:=Tryz.func353.trans (congrArg some (by kernel_rfl))
 f307:=Tryz.func354.trans (congrArg some (by kernel_rfl))
 f308:=Tryz.func355.trans (congrArg some (by kernel_rfl))
 f309:=Tryz.func356.trans (congrArg some (by kernel_rfl))
 f310:=Tryz.func357.trans (congrArg some (by kernel_rfl))
 f329:=Tryz.func385.trans (congrArg some (by kernel_rfl))
 f330:=Tryz.func386.trans (congrArg some (by kernel_rfl))
 f333:=Tryz.func384.trans (congrArg some (by kernel_rfl))
 f334:=Tryz.func387.trans (congrArg some (by kernel_rfl))
 f335:=Tryz.func388.trans (congrArg some (by kernel_rfl))
 f336:=Tryz.func389.trans (congrArg some (by kernel_rfl))
 f344:=Tryz.func411.trans (congrArg some (by kernel_rfl))
 t0:=Tryz.underlying0
 a0:=Tryz.isAgg0
 z0:=Tryz.sizeOf0
 v0:=Tryz.zeroValue0
 t3:=Tryz.underlying3
 a3:=Tryz.isAgg3
 z3:=Tryz.sizeOf3
 v3:=Tryz.zeroValue3
 t4:=Tryz.underlying4
 a4:=Tryz.isAgg4
 z4:=Tryz.sizeOf4
 v4:=Tryz.zeroValue4
 t5:=Tryz.underlying5
 a5:=Tryz.isAgg5
 z5:=Tryz.sizeOf5
 v5:=Tryz.zeroValue5
 t9:=Tryz.underlying9
 a9:=Tryz.isAgg9
 z9:=Tryz.sizeOf9
 v9:=Tryz.zeroValue9
 t31:=Tryz.underlying63
 a31:=Tryz.isAgg63
 z31:=Tryz.sizeOf63
 v31:=Tryz.zeroValue63
 t46:=Tryz.underlying326
 a46:=Tryz.isAgg326
 z46:=Tryz.sizeOf326
 v46:=Tryz.zeroValue326
 t51:=Tryz.underlying392
 a51:=Tryz.isAgg392
 z51:=Tryz.sizeOf392
 v51:=Tryz.zeroValue392
 t53:=Tryz.underlying22
 a53:=Tryz.isAgg22
 z53:=Tryz.sizeOf22
 v53:=Tryz.zeroValue22
 t131:=Tryz.underlying389
 a131:=Tryz.isAgg389
 z131:=Tryz.sizeOf389
 v131:=Tryz.zeroValue389
 t182:=Tryz.underlying384
 a182:=Tryz.isAgg384
 z182:=Tryz.sizeOf384
 v182:=Tryz.zeroValue384
 t183:=Tryz.underlying385
 a183:=Tryz.isAgg385
 z183:=Tryz.sizeOf385
 v183:=Tryz.zeroValue385
 t218:=Tryz.underlying412
 a218:=Tryz.isAgg412
 z218:=Tryz.sizeOf412
 v218:=Tryz.zeroValue412
 t222:=Tryz.underlying243
 a222:=Tryz.isAgg243
 z222:=Tryz.sizeOf243
 v222:=Tryz.zeroValue243
 t228:=Tryz.underlying442
 a228:=Tryz.isAgg442
 z228:=Tryz.sizeOf442
 v228:=Tryz.zeroValue442
 t229:=Tryz.underlying312
 a229:=Tryz.isAgg312
 z229:=Tryz.sizeOf312
 v229:=Tryz.zeroValue312}
open Go.Sort Go.RowKit in
theorem Tryz.slices_Sort_string (blk off cap:Nat) (ss:List (List UInt8)) (w:World) (hH:Holds encStr w blk off ss.toArray) (hblk:blk<w.heap.size) (hsz:ss.length<4611686018427387904):
  Calls Tryz.prog 221 #[.slice (some ⟨blk,off,none⟩) ss.length cap] w fun e w'=>
   e= .returned (.tuple #[])∧ ∃ n os,w'=grow (putRow encStr (Sort.ahead w n) blk off (ss.mergeSort fun x y=>decide (x≤y)).toArray) os:=Any.slices_Sort_string Tryz.lays190 blk off cap ss w hH hblk hsz
open Go.RowKit Go.Sort in
theorem Tryz.slices_Sort_string_none (p:Option Addr) (cap:Nat) (w:World):
  Calls Tryz.prog 221 #[.slice p 0 cap] w fun e w'=>e= .returned (.tuple #[])∧w'=w:=Any.slices_Sort_string_none Tryz.lays190 p cap w
end Go.Proofs
namespace Go.Sy
open Go.Proofs Go.Sim
noncomputable section
theorem hsort:Au Tryz.prog rT oq:=
 Ws (P:=Tryz.prog) (f:=221) (e:=9) Tryz.underlying9 (by kernel_rfl) (by kernel_rfl) ⟨_,_,Tryz.func221,rfl⟩
  (fun blk off cap ss w h1 h2 h3=>Tryz.slices_Sort_string blk off cap ss w h1 h2 h3) (fun p cap w=>Tryz.slices_Sort_string_none p cap w)
end
end Go.Sy
