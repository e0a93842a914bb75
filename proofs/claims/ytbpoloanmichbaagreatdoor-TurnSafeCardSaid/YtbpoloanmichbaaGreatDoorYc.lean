/-
  Proved here: the soundness of the evaluator of the model's code on data of any value, and contracts of functions. Its conditions are that the program's functions bear no name that the model singles out and mixed orders are followed.
-/
import Derived.Test.YtbpoloanmichbaaGreatDoorYb
import Derived.RangeFuncIn
import Derived.Test.YtbpoloanmichbaaGreatDoorSb
set_option linter.unusedVariables false
set_option linter.unusedSimpArgs false
namespace Go.Sy
open Go.Sim (Tr aV bM bA bL br ef cx cY)
variable {P:Program}
theorem Lo {h:uP} {ρ:List PV} {k n k' n':Nat} {v:AV} {objs:List (Nat×AO)} (e:sI P h ρ k n=some (v,k',n',objs)):n≤n'∧ ∀ i x,(i,x)∈objs→n≤i:=by
 cases h with
 |val t=>
  simp only [sI] at e;split at e
  ·cases e; exact ⟨Nat.le_refl _,fun i x h=>by cases h⟩
  ·cases e
 |own el=>
  simp only [sI,Option.some.injEq,Prod.mk.injEq] at e;obtain ⟨rfl,rfl,rfl,rfl⟩:=e;refine ⟨by omega,fun i x h=> ?_⟩;simp only [List.mem_singleton,Prod.mk.injEq] at h;omega
 |M5 el=>
  simp only [sI,Option.some.injEq,Prod.mk.injEq] at e;obtain ⟨rfl,rfl,rfl,rfl⟩:=e;refine ⟨by omega,fun i x h=> ?_⟩;simp only [List.mem_singleton,Prod.mk.injEq] at h;omega
 |same u=>
  simp only [sI,Option.some.injEq,Prod.mk.injEq] at e;obtain ⟨rfl,rfl,rfl,rfl⟩:=e;exact ⟨Nat.le_refl _,fun i x h=>by cases h⟩
theorem Lp {ρ:List PV}: ∀ {hs:List uP} {k n k' n':Nat} {vs:List AV} {objs:List (Nat×AO)},FD P hs ρ k n=some (vs,k',n',objs)→n≤n'∧ ∀ i x,(i,x)∈objs→n≤i
 |[],k,n,k',n',vs,objs,e=>by
  simp only [FD,Option.some.injEq,Prod.mk.injEq] at e;obtain ⟨rfl,rfl,rfl,rfl⟩:=e;exact ⟨Nat.le_refl _,fun i x h=>by cases h⟩
 |h::hs,k,n,k',n',vs,objs,e=>by
  simp only [FD] at e;split at e
  ·rename_i v1 k1 n1 o1 e1
   split at e
   ·rename_i l2 k2 n2 o2 e2
    cases e;obtain ⟨a1,a2⟩:=Lo e1;obtain ⟨b1,b2⟩:=Lp e2;refine ⟨by omega,fun i x hx=> ?_⟩;rcases List.mem_append.1 hx with h|h
    ·exact a2 i x h
    ·have:=b2 i x h; omega
   ·cases e
  ·cases e
theorem Lq {ρ:List PV}: ∀ {S:List (Nat×uP)} {k n k' n':Nat} {T T':Tr (Option AV)} {objs:List (Nat×AO)},FE P S ρ k n T=some (T',k',n',objs)→n≤n'∧(∀ i x,(i,x)∈objs→n≤i)∧ ∀ t,T'.get t≠none→t∈S.map (·.1)∨T.get t≠none
 |[],k,n,k',n',T,T',objs,e=>by
  simp only [FE,Option.some.injEq,Prod.mk.injEq] at e;obtain ⟨rfl,rfl,rfl,rfl⟩:=e;exact ⟨Nat.le_refl _,(fun i x h=>by cases h),fun t h=> .inr h⟩
 |(t0,h)::S,k,n,k',n',T,T',objs,e=>by
  simp only [FE] at e;split at e
  ·rename_i v1 k1 n1 o1 e1
   split at e
   ·rename_i l2 k2 n2 o2 e2
    cases e;obtain ⟨a1,a2⟩:=Lo e1;obtain ⟨b1,b2,b3⟩:=Lq e2;refine ⟨by omega,fun i x hx=> ?_,fun t ht=> ?_⟩
    ·rcases List.mem_append.1 hx with h|h
     ·exact a2 i x h
     ·have:=b2 i x h; omega
    ·simp only [List.map_cons,List.mem_cons]
     rcases b3 t ht with h|h
     ·exact .inl (.inr h)
     ·rw [Tr.bn] at h
      by_cases e:t0=t
      ·exact .inl (.inl e.symm)
      ·rw [if_neg e] at h; exact .inr h
   ·cases e
  ·cases e
theorem Lr {ρ:List PV}: ∀ {S:List (Nat×List uP)} {k n k' n':Nat} {objs:List (Nat×AO)},FF P S ρ k n=some (k',n',objs)→n≤n'∧ ∀ i x,(i,x)∈objs→i∈iW S∨n≤i
 |[],k,n,k',n',objs,e=>by
  simp only [FF,Option.some.injEq,Prod.mk.injEq] at e;obtain ⟨rfl,rfl,rfl⟩:=e;exact ⟨Nat.le_refl _,fun i x h=>by cases h⟩
 |(j,hs)::S,k,n,k',n',objs,e=>by
  simp only [FF] at e;split at e
  ·rename_i l1 k1 n1 o1 e1
   split at e
   ·rename_i k2 n2 o2 e2
    cases e;obtain ⟨a1,a2⟩:=Lp e1;obtain ⟨b1,b2⟩:=Lr e2;refine ⟨by omega,fun i x hx=> ?_⟩;simp only [iW,List.map_cons,List.mem_cons];rcases List.mem_cons.1 hx with h|h
    ·cases h; exact .inl (.inl rfl)
    ·rcases List.mem_append.1 h with h|h
     ·exact .inr (a2 i x h)
     ·rcases b2 i x h with h|h
      ·exact .inl (.inr h)
      ·exact .inr (by omega)
   ·cases e
  ·cases e
theorem Ar {s0 s3:St} {S:Spec} {ρ:List PV} (hb:build P s0 S ρ=some s3): ∃ T O,s3.tm=T::s0.tm∧s3.ob=O::s0.ob∧s0.next≤s3.next∧(∀ t,T.get t≠none→t∈S.slots.map (·.1)∨t∈S.cw)∧(∀ i,O.get i≠none→i∈iW S.boxes∨s0.next≤i)∧
  jm s0.tm (S.slots.map (·.1))=true∧jm s0.ob (iW S.boxes)=true∧jm s0.tm S.cw=true:=by
 unfold build at hb;split at hb
 ·rename_i f1 f2 f3 f4 f5
  rw [j6] at hb;split at hb
  ·rename_i T k n os bS
   split at hb
   ·rename_i k2 n2 ob bB
    simp only [Option.some.injEq] at hb;subst hb;obtain ⟨a1,a2,a3⟩:=Lq bS;obtain ⟨b1,b2⟩:=Lr bB;refine ⟨T,_,rfl,rfl,by show s0.next≤n2; omega,fun t ht=> ?_,fun i hi=> ?_,f1,f2,f3⟩
    ·rcases a3 t ht with h|h
     ·exact .inl h
     ·rw [iw] at h
      by_cases hk:t∈S.cw
      ·exact .inr hk
      ·rw [if_neg hk] at h; exact absurd rfl h
    ·rcases Aq (os++ob) .e i with ⟨h1,_⟩|⟨x,h1,_⟩
     ·rw [h1] at hi; exact absurd rfl hi
     ·rcases List.mem_append.1 h1 with h|h
      ·exact .inr (a2 i x h)
      ·rcases b2 i x h with h|h
       ·exact .inl h
       ·exact .inr (by omega)
   ·cases hb
  ·cases hb
 ·cases hb
theorem under {α:Type} {T:Tr (Option α)} {l b:Lay α} (h:cR (T::l) b) {k:Nat} {v:α} (hk:T.get k=none) (hv:look l k=some v):look b k=some v:=by
 rcases h.ex with rfl|⟨U,U',l',e1,rfl,g1,g2⟩
 ·rw [cN,hk]; exact hv
 ·cases e1
  rw [cN];cases hU:U'.get k with
  |none=>exact hv
  |some x=>
   have:=g1 k hk (by rw [hU]; simp);rw [hv] at this; cases this
end Go.Sy
namespace Go.Sy
open Go.Sim (Tr aV bM bA bL br ef cx cY FR Ey aX fq)
variable {P:Program}
theorem tI {α:Type}: ∀ (a b:Tr α) (k:Nat),(BA a b).get k=match a.get k with
  |some v=>some v
  |none=>b.get k
 | .e,b,k=>rfl
 | .n l v r, .e,k=>by
  show (Tr.n l v r).get k=_
  cases (Tr.n l v r).get k<;>rfl
 | .n l v r, .n l' v' r',k=>by
  show (Tr.n (BA l l') (match v with
   |some v=>some v
   |none=>v') (BA r r')).get k=_
  rw [Tr.Oh,Tr.Oh,Tr.Oh];cases h0:Nat.beq k 0 with
  |true=>cases v<;>rfl
  |false=>
   dsimp only;cases h1:Nat.beq (k%2) 1 with
   |true=>exact tI l l' _
   |false=>exact tI r r' _
theorem Qf {α:Type}: ∀ (l:Lay α) (k:Nat),look (BB l) k=look l k
 |[],k=>rfl
 |[a],k=>rfl
 |a::b::l,k=>by
  show look (BA a b::l) k=_
  rw [cN,cN,cN,tI];cases a.get k<;>rfl
theorem cg {α:Type} {s:Lay α}: ∀ {l:List Nat},jm s l=true→ ∀ i∈l,free s i=true
 |[],_,i,hi=>by cases hi
 |j::l,h,i,hi=>by
  simp only [jm] at h;split at h
  ·rename_i h1
   rcases List.mem_cons.1 hi with rfl|hi
   ·exact h1
   ·exact cg h i hi
  ·cases h
theorem Vv {α:Type} {T:Tr (Option α)} {l:Lay α} {k:Nat} (h:free (T::l) k=true) (hk:T.get k=none):look l k=none:=by
 simp only [free,hk] at h;split at h
 ·assumption
 ·cases h
theorem cR.pop {α:Type} {s:Lay α} {T:Tr (Option α)} {b:Lay α} (hne:s≠[]) (h:cR (T::s) b) (hT: ∀ k,T.get k≠none→free s k=true∨look s k=none):cR s (BB b):=by
 cases s with
 |nil=>exact absurd rfl hne
 |cons T0 l=>
  have key: ∀ U':Tr (Option α),(∀ k,T.get k=none→U'.get k≠none→look (T0::l) k=none)→cR (T0::l) (BA U' T0::l):=by
   intro U' hU;refine ⟨.inr ⟨T0,BA U' T0,l,rfl,rfl,fun k h1 h2=> ?_,fun k h1=> ?_⟩⟩
   ·have abi:look (T0::l) k=look l k:=by rw [cN,h1]
    have h3:U'.get k≠none:=fun h3=>by rw [tI,h3] at h2; exact h2 h1
    by_cases h4:T.get k=none
    ·rw [← abi]; exact hU k h4 h3
    ·rcases hT k h4 with h5|h5
     ·exact Vv h5 h1
     ·rw [← abi]; exact h5
   ·rw [tI]
    cases U'.get k with
    |none=>exact h1
    |some x=>simp
  rcases h.ex with rfl|⟨U,U',l',e1,rfl,g1,g2⟩
  ·exact key T fun k h1 h2=>absurd h1 h2
  ·cases e1
   exact key U' g1
theorem cR.ne {α:Type} {a b:Lay α} (h:cR a b) (hne:a≠[]):b≠[]:=by
 rcases h.ex with rfl|⟨T,T',l,rfl,rfl,_⟩
 ·exact hne
 ·simp
theorem SR.pop {m:Mp} {Z:Nat→Prop} {w:World} {nt:Nat} {s:St} {a:Act} (h:SR P m Z w nt s a):SR P m Z w nt (Sy.pop s) a:=
 ⟨(h.rel.ZD).to fun i o hi=>by rw [← Qf]; exact hi,⟨h.tr.size,fun t v ht=>h.tr.get t v (by rw [← Qf]; exact ht)⟩,h.fresh⟩
end Go.Sy
namespace Go.Sy
open Go.Sim (Tr aV bM bA bL br ef cx cY FR Ey aX fq Ex)
variable {P:Program}
def ry (P:Program) (fo:Option Nat) (I:n5) (nt:Nat) (run:DI) (c:Code):Prop:= ∀ (h:Hint) (s:St) (R:Type) (K:Ex→St→Option R) (r:R),run h s R K=some r→s.tm≠[]→s.ob≠[]→ ∀ (m:Mp) (Z:Nat→Prop) (w:World) (a:Act),SR P m Z w nt s a→I m Z w→ ∀ Q:Exit→Act→World→Prop,
 (∀ ex s' m' Z' a' w',K ex s'=some r→SR P m' Z' w' nt s' a'→qj m m' Z Z' w w' s s' a a'→Jz s.next m m'→Q (Ey ex) a' w')→c.wpIn (FR fo) 0 P Q a w
theorem Qg {R:Type} {f:List PV→Option (List PV ⊕ R)} {ρ:List PV} {r:R} (h:iter f ρ=some r): ∃ n,rounds f n ρ=some r:=by
 unfold iter at h;split at h
 ·rename_i hh
  cases h;exact hh.choose_spec
 ·cases h
theorem Ul {ob:Lay AO}: ∀ {l:List Nat},(∀ i∈l,look ob i=none)→dead ob l=true
 |[],_=>rfl
 |j::l,h=>by
  simp only [dead,h j (List.mem_cons_self ..)];exact Ul fun i hi=>h i (List.mem_cons_of_mem _ hi)
theorem Qh {fo:Option Nat} {I:n5} (hS:BK I) {nt:Nat} {run:DI} {b:Code} (hr:ry P fo I nt run b):ry P fo I nt (X1 P run) (.loop b):=by
 intro h s R K r e Nk Nl m Z w a hs hI Q hq;unfold X1 at e;split at e
 ·rename_i S g
  split at e
  ·rename_i b9 o hfl
   split at e
   ·rename_i s0 hdr
    obtain ⟨d1,d2,d3,d4⟩:=iI hdr;have h0:SR P m Z w nt s0 a:=⟨(hs.rel.ZD).to fun i x hi=>by
     rw [d4] at hi;split at hi
     ·cases hi
     ·exact hi,⟨hs.tr.size,fun t v ht=>hs.tr.get t v (by rw [← d1]; exact ht)⟩,fun j hj=>hs.fresh j (by rw [← d2]; exact hj)⟩
    obtain ⟨n,hn⟩:=Qg e;have main: ∀ (n:Nat) (ρ:List PV),rounds (fun ρ=>match build P s0 S ρ with
      |some s1=>run g s1 (List PV ⊕ R) (FG P s0 S K)
      |none=>none) n ρ=some r→ ∀ (m2:Mp) (Z2:Nat→Prop) (w2:World) (a2:Act) (s2:St) (o2:List Nat),SR P m2 Z2 w2 nt s2 a2→Ext m m2→(∀ b,Z b→Z2 b)→fH Z w w2→Sh Z2 w w2 a a2→s0.next≤s2.next→iq m m2 Z Z2 w w2→Jz s0.next m m2→
      (∀ t v,look s0.tm t=some v→t∉S.slots.map (·.1)→t∉S.cw→look s2.tm t=some v)→(∀ i x,look s0.ob i=some x→i∉iW S.boxes→look s2.ob i=some x)→flat P s2 S=some (ρ,o2)→dead s0.ob o2=true→fq fo P b Q a2 w2:=by
     intro n;induction n with
     |zero=>intro ρ hn; cases hn
     |succ n ih=>
      intro ρ hn m2 Z2 w2 a2 s2 o2 k1 k2 k3 k4 k5 k6 k11 k12 k7 k8 k9 k10;simp only [rounds] at hn;cases hbd:build P s0 S ρ with
      |none=>rw [hbd] at hn; cases hn
      |some s1=>
       rw [hbd] at hn;dsimp only at hn;obtain ⟨mf,Zf,f1,f2,f3,f4,f5⟩:=rebuild h0 k1 k2 k6 k7 k8 k9 k10 hbd;obtain ⟨T,O,t1,t2,t3,t4,t5,t6,t7,t8⟩:=Ar hbd;have Ib: ∀ t,T.get t≠none→free s0.tm t=true∨look s0.tm t=none:=fun t ht=>by
        rcases t4 t ht with h|h
        ·exact .inl (cg t6 t h)
        ·exact .inl (cg t8 t h)
       have Yh: ∀ i,O.get i≠none→free s0.ob i=true∨look s0.ob i=none:=fun i hi=>by
        rcases t5 i hi with h|h
        ·exact .inl (cg t7 i h)
        ·refine .inr ?_
         cases hl:look s0.ob i with
         |none=>rfl
         |some x=>have:=h0.low hl; omega
       refine fq.round ?_;have body: ∀ x,run g s1 (List PV ⊕ R) (FG P s0 S K)=some x→(∀ ρ',x= .inl ρ'→rounds (fun ρ=>match build P s0 S ρ with
         |some s1=>run g s1 (List PV ⊕ R) (FG P s0 S K)
         |none=>none) n ρ'=some r)→(∀ r',x= .inr r'→r'=r)→b.wpIn (FR fo) 0 P (Exit.then (fq fo P b Q) Q) a2 w2:=by
        intro x hx Yi Yj;refine hr g s1 _ _ x hx (by rw [t1]; simp) (by rw [t2]; simp) mf Zf w2 a2 f1 (hS hI f2 (fun b hb=>f3 b (k3 b hb)) k4) _ ?_;intro ex s' m' Z' a' w' e1 e2 e3 e4;have iY:cR (T::s0.tm) s'.tm:=t1 ▸ e3.Dp;have BE:cR (O::s0.ob) s'.ob:=t2 ▸ e3.Si;have kp:fH Z w w':=k4.trans e3.keep fun b hb=>f3 b (k3 b hb)
        have ex1:Ext m m':=f2.trans e3.ext;have zs: ∀ b,Z b→Z' b:=fun b hb=>e3.dF b (f3 b (k3 b hb))
        have nx:s0.next≤s'.next:=Nat.le_trans t3 e3.next
        have lw:Jz s0.next m m':=(k12.trans (Nat.le_refl _) f5).trans t3 e4
        have dfr:Sh Z' w w' a a':=k5.trans e3.defers k4.size (fun b hb=>e3.dF b (f3 b hb)) ⟨e3.keep.os,e3.keep.tape,e3.keep.output,e3.keep.size,fun b hb=>e3.keep.heap b (f3 b hb)⟩;have fn:iq m m' Z Z' w w':=fun n0 Z0 hn hf=>by
         obtain ⟨x1,x2⟩:=k11 n0 Z0 hn hf;obtain ⟨x3,x4⟩:=e3.Ak n0 Z0 (Nat.le_trans hn k4.size) (f4 n0 Z0 x1);exact ⟨x3,fun b hb=>(x4 b hb).trans (x2 b hb)⟩
        have fin: ∀ r',K ex (pop s')=some r'→x= .inr r'→Q (Ey ex) a' w':=by
         intro r' hK hxr;obtain rfl:=Yj r' hxr;refine hq ex (pop s') m' Z' a' w' hK e2.pop ⟨ex1,zs,kp,dfr, ?_, ?_, ?_,fn⟩ (by rw [← d2]; exact lw)
         ·show cR s.tm (BB s'.tm)
          have:s0.tm=s.tm:=d1;rw [← this];exact cR.pop (by rw [this]; exact Nk) iY Ib
         ·show cR s.ob (BB s'.ob)
          exact d3.trans (cR.pop (d3.ne Nl) BE Yh)
         ·show s.next≤s'.next
          rw [← d2]; exact nx
        cases ex with
        |normal=>
         simp only [FG] at e1;split at e1
         ·rename_i ρ' o' hf'
          split at e1
          ·rename_i hdd
           cases e1;show fq fo P b Q a' w'
           refine ih ρ' (Yi ρ' rfl) m' Z' w' a' s' o' e2 ex1 zs kp (dfr) nx fn lw (fun t v hv h1 h2=>under iY ?_ hv) (fun i y hy h1=>under BE ?_ hy) hf' hdd
           ·cases hT:T.get t with
            |none=>rfl
            |some z=>
             rcases t4 t (by rw [hT]; simp) with h|h
             ·exact absurd h h1
             ·exact absurd h h2
           ·cases hO:O.get i with
            |none=>rfl
            |some z=>
             rcases t5 i (by rw [hO]; simp) with h|h
             ·exact absurd h h1
             ·have:=h0.low hy; omega
          ·cases e1
         ·cases e1
        |_=>
         simp only [FG,ay] at e1;split at e1
         ·rename_i r' hK
          cases e1;exact fin r' hK rfl
         ·cases e1
       cases hx:run g s1 (List PV ⊕ R) (FG P s0 S K) with
       |none=>rw [hx] at hn; cases hn
       |some x=>
        rw [hx] at hn;cases x with
        |inl ρ'=>exact body _ hx (fun Yk h=>by cases h; exact hn) (fun r' h=>by cases h)
        |inr r'=>
         dsimp only at hn;cases hn;exact body _ hx (fun Yk h=>by cases h) (fun r'' h=>by cases h; rfl)
    refine (main n b9 hn m Z w a s o hs (.refl m) (fun _ h=>h) (.refl Z w) (.of rfl) (by rw [d2]; exact Nat.le_refl _) (.same _ _ fun _=>rfl) (fun _ _=>rfl) (fun t v hv _ _=>by rw [← d1]; exact hv) (fun i x hx _=> ?_) hfl (Ul fun i hi=>by rw [d4,if_pos hi])).wp;rw [d4] at hx;split at hx
    ·cases hx
    ·exact hx
   ·cases e
  ·cases e
 ·cases e
end Go.Sy
namespace Go.Sy
open Go.Sim (Tr aV bM bA bL br ef cx cY FR Ey aX fq Ex)
variable {P:Program}
theorem Qi {fo:Option Nat} {I:n5} {nt:Nat} {run:DI} {c:Code} (hr:ry P fo I nt run c):ry P fo I nt (XY P run) c:=by
 intro h s R K r e Nk Nl m Z w a hs hI Q hq;unfold XY at e;split at e
 ·rename_i S g
  split at e
  ·rename_i s0 hdr
   split at e
   ·rename_i s1 hpu
    obtain ⟨d1,d2,d3,d4⟩:=iI hdr;generalize DG s S=o at*;have h0:SR P m Z w nt s0 a:=⟨(hs.rel.ZD).to fun i x hi=>by
     rw [d4] at hi;split at hi
     ·cases hi
     ·exact hi,⟨hs.tr.size,fun t v ht=>hs.tr.get t v (by rw [← d1]; exact ht)⟩,fun j hj=>hs.fresh j (by rw [← d2]; exact hj)⟩
    unfold push at hpu;split at hpu
    ·rename_i p1 p2 p3
     cases hpu;have tmg: ∀ t,(bK s.tm (S.slots.map (·.1)) (eG S.cw .e)).get t=if t∈S.slots.map (·.1) then some (look s.tm t) else if t∈S.cw then some none else none:=fun t=>by
      rw [kg,iw]; rfl
     have obg: ∀ i,(bK s.ob (S.boxes.map (·.1)++o) .e).get i=if i∈S.boxes.map (·.1)++o then some (look s.ob i) else none:=fun i=>by
      rw [kg]; rfl
     have h1:SR P m Z w nt ⟨bK s.tm (S.slots.map (·.1)) (eG S.cw .e)::s0.tm,bK s.ob (S.boxes.map (·.1)++o) .e::s0.ob,s0.next⟩ a:=by
      refine ⟨(hs.rel.ZD).to fun i x hi=> ?_,⟨hs.tr.size,fun t v ht=>hs.tr.get t v ?_⟩,h0.fresh⟩
      ·have hi:look (bK s.ob (S.boxes.map (·.1)++o) .e::s0.ob) i=some x:=hi
       rw [cN,obg] at hi;split at hi
       ·rename_i y hy
        split at hy
        ·cases hy; exact hi
        ·cases hy
       ·rw [d4] at hi
        split at hi
        ·cases hi
        ·exact hi
      ·have ht:look (bK s.tm (S.slots.map (·.1)) (eG S.cw .e)::s0.tm) t=some v:=ht
       rw [cN,tmg] at ht;split at ht
       ·rename_i y hy
        split at hy
        ·cases hy; exact ht
        ·split at hy
         ·cases hy; cases ht
         ·cases hy
       ·rw [← d1]; exact ht
     have Ib: ∀ t,(bK s.tm (S.slots.map (·.1)) (eG S.cw .e)).get t≠none→free s0.tm t=true∨look s0.tm t=none:=fun t ht=>by
      rw [tmg] at ht;split at ht
      ·rename_i h; exact .inl (cg p1 t h)
      ·split at ht
       ·rename_i h; exact .inl (cg p3 t h)
       ·exact absurd rfl ht
     have Yh: ∀ i,(bK s.ob (S.boxes.map (·.1)++o) .e).get i≠none→free s0.ob i=true∨look s0.ob i=none:=fun i hi=>by
      rw [obg] at hi;split at hi
      ·rename_i h
       rcases List.mem_append.1 h with h|h
       ·exact .inl (cg p2 i h)
       ·exact .inr (by rw [d4,if_pos h])
      ·exact absurd rfl hi
     generalize hT:bK s.tm (S.slots.map (·.1)) (eG S.cw .e)=T at*;generalize hO:bK s.ob (S.boxes.map (·.1)++o) .e=O at*;have BV:s0.tm=s.tm:=d1;have body: ∀ x,run g ⟨T::s0.tm,O::s0.ob,s0.next⟩ (List PV ⊕ R) (FG P s0 S K)=some x→(∀ ρ',x= .inl ρ'→ ∃ s3,build P s0 S ρ'=some s3∧K .normal (pop s3)=some r)→(∀ r',x= .inr r'→r'=r)→c.wpIn (FR fo) 0 P Q a w:=by
      intro x hx Yi Yj;refine hr g _ _ _ x hx (by simp) (by simp) m Z w a h1 hI _ ?_;intro ex s' m' Z' a' w' e1 e2 e3 e4;have e4:Jz s0.next m m':=e4
      have iY:cR (T::s0.tm) s'.tm:=e3.Dp;have BE:cR (O::s0.ob) s'.ob:=e3.Si;have nx:s0.next≤s'.next:=e3.next
      have fin: ∀ r',K ex (pop s')=some r'→x= .inr r'→Q (Ey ex) a' w':=by
       intro r' hK hxr;obtain rfl:=Yj r' hxr;refine hq ex (pop s') m' Z' a' w' hK e2.pop ⟨e3.ext,e3.dF,e3.keep,e3.defers, ?_, ?_, ?_,e3.Ak⟩ (by rw [← d2]; exact e4)
       ·show cR s.tm (BB s'.tm)
        rw [← BV];exact cR.pop (by rw [BV]; exact Nk) iY Ib
       ·show cR s.ob (BB s'.ob)
        exact d3.trans (cR.pop (d3.ne Nl) BE Yh)
       ·show s.next≤s'.next
        rw [← d2]; exact nx
      cases ex with
      |normal=>
       simp only [FG] at e1;split at e1
       ·rename_i ρ' o' hf'
        split at e1
        ·rename_i hdd
         cases e1;obtain ⟨s3,hbd,hK⟩:=Yi ρ' rfl;obtain ⟨mf,Zf,f1,f2,f3,f4,f5⟩:=rebuild h0 e2 e3.ext nx (fun t v hv g1 g2=>under iY (by rw [tmg,if_neg g1,if_neg g2]) hv) (fun i y hy g1=>under BE (by
          rw [obg,if_neg];intro hc;rcases List.mem_append.1 hc with hc|hc
          ·exact g1 hc
          ·rw [d4,if_pos hc] at hy; cases hy) hy) hf' hdd hbd
         obtain ⟨T3,O3,t1,t2,t3,t4,t5,t6,t7,t8⟩:=Ar hbd;refine hq .normal (pop s3) mf Zf a' w' hK f1.pop ⟨f2,fun b hb=>f3 b (e3.dF b hb),e3.keep,e3.defers.mono f3, ?_, ?_, ?_,fun n0 Z0 hn hf=>⟨f4 n0 Z0 (e3.Ak n0 Z0 hn hf).1,(e3.Ak n0 Z0 hn hf).2⟩⟩ (by rw [← d2]; exact e4.trans (Nat.le_refl _) f5)
         ·show cR s.tm (BB s3.tm)
          rw [t1, ←BV];exact cR.pop (by rw [BV]; exact Nk) (.refl _) fun t ht=>by
           rcases t4 t ht with h|h
           ·exact .inl (cg t6 t h)
           ·exact .inl (cg t8 t h)
         ·show cR s.ob (BB s3.ob)
          rw [t2];exact d3.trans (cR.pop (d3.ne Nl) (.refl _) fun i hi=>by
           rcases t5 i hi with h|h
           ·exact .inl (cg t7 i h)
           ·refine .inr ?_
            cases hl:look s0.ob i with
            |none=>rfl
            |some x=>have:=h0.low hl; omega)
         ·show s.next≤s3.next
          rw [← d2]; exact t3
        ·cases e1
       ·cases e1
      |_=>
       simp only [FG,ay] at e1;split at e1
       ·rename_i r' hK
        cases e1;exact fin r' hK rfl
       ·cases e1
     cases hx:run g ⟨T::s0.tm,O::s0.ob,s0.next⟩ (List PV ⊕ R) (FG P s0 S K) with
     |none=>rw [hx] at e; cases e
     |some x=>
      rw [hx] at e;cases x with
      |inl ρ'=>
       simp only [aq] at e;split at e
       ·rename_i s3 hbd
        exact body _ hx (fun Yk h=>by cases h; exact ⟨s3,hbd,e⟩) (fun r' h=>by cases h)
       ·cases e
      |inr r'=>
       simp only [aq] at e;cases e;exact body _ hx (fun Yk h=>by cases h) (fun r'' h=>by cases h; rfl)
    ·cases hpu
   ·cases e
  ·cases e
 ·exact hr _ s R K r e Nk Nl m Z w a hs hI Q hq
theorem Qj {fo:Option Nat} {I:n5} {nt:Nat} {run:DI} {c:Code} (hr:ry P fo I nt run c):ry P fo I nt (X0 P run) c:=by
 intro h s R K r e Nk Nl m Z w a hs hI Q hq;unfold X0 at e;split at e
 ·rename_i S g
  split at e
  ·rename_i s0 hdr
   split at e
   ·rename_i s1 hpu
    obtain ⟨d1,d2,d3,d4⟩:=iI hdr;generalize DG s S=o at*;have h0:SR P m Z w nt s0 a:=⟨(hs.rel.ZD).to fun i x hi=>by
     rw [d4] at hi;split at hi
     ·cases hi
     ·exact hi,⟨hs.tr.size,fun t v ht=>hs.tr.get t v (by rw [← d1]; exact ht)⟩,fun j hj=>hs.fresh j (by rw [← d2]; exact hj)⟩
    unfold push at hpu;split at hpu
    ·rename_i p1 p2 p3
     cases hpu;have tmg: ∀ t,(bK s.tm (S.slots.map (·.1)) (eG S.cw .e)).get t=if t∈S.slots.map (·.1) then some (look s.tm t) else if t∈S.cw then some none else none:=fun t=>by
      rw [kg,iw]; rfl
     have obg: ∀ i,(bK s.ob (S.boxes.map (·.1)++o) .e).get i=if i∈S.boxes.map (·.1)++o then some (look s.ob i) else none:=fun i=>by
      rw [kg]; rfl
     have h1:SR P m Z w nt ⟨bK s.tm (S.slots.map (·.1)) (eG S.cw .e)::s0.tm,bK s.ob (S.boxes.map (·.1)++o) .e::s0.ob,s0.next⟩ a:=by
      refine ⟨(hs.rel.ZD).to fun i x hi=> ?_,⟨hs.tr.size,fun t v ht=>hs.tr.get t v ?_⟩,h0.fresh⟩
      ·have hi:look (bK s.ob (S.boxes.map (·.1)++o) .e::s0.ob) i=some x:=hi
       rw [cN,obg] at hi;split at hi
       ·rename_i y hy
        split at hy
        ·cases hy; exact hi
        ·cases hy
       ·rw [d4] at hi
        split at hi
        ·cases hi
        ·exact hi
      ·have ht:look (bK s.tm (S.slots.map (·.1)) (eG S.cw .e)::s0.tm) t=some v:=ht
       rw [cN,tmg] at ht;split at ht
       ·rename_i y hy
        split at hy
        ·cases hy; exact ht
        ·split at hy
         ·cases hy; cases ht
         ·cases hy
       ·rw [← d1]; exact ht
     have Ib: ∀ t,(bK s.tm (S.slots.map (·.1)) (eG S.cw .e)).get t≠none→free s0.tm t=true∨look s0.tm t=none:=fun t ht=>by
      rw [tmg] at ht;split at ht
      ·rename_i h; exact .inl (cg p1 t h)
      ·split at ht
       ·rename_i h; exact .inl (cg p3 t h)
       ·exact absurd rfl ht
     have Yh: ∀ i,(bK s.ob (S.boxes.map (·.1)++o) .e).get i≠none→free s0.ob i=true∨look s0.ob i=none:=fun i hi=>by
      rw [obg] at hi;split at hi
      ·rename_i h
       rcases List.mem_append.1 h with h|h
       ·exact .inl (cg p2 i h)
       ·exact .inr (by rw [d4,if_pos h])
      ·exact absurd rfl hi
     generalize hT:bK s.tm (S.slots.map (·.1)) (eG S.cw .e)=T at*;generalize hO:bK s.ob (S.boxes.map (·.1)++o) .e=O at*;have BV:s0.tm=s.tm:=d1;have body: ∀ x,run g ⟨T::s0.tm,O::s0.ob,s0.next⟩ (List PV ⊕ R) (XZ P s0 S K)=some x→(∀ ρ',x= .inl ρ'→ ∃ s3,build P s0 S ρ'=some s3∧K .ret (pop s3)=some r)→(∀ r',x= .inr r'→r'=r)→c.wpIn (FR fo) 0 P Q a w:=by
      intro x hx Yi Yj;refine hr g _ _ _ x hx (by simp) (by simp) m Z w a h1 hI _ ?_;intro ex s' m' Z' a' w' e1 e2 e3 e4;have e4:Jz s0.next m m':=e4
      have iY:cR (T::s0.tm) s'.tm:=e3.Dp;have BE:cR (O::s0.ob) s'.ob:=e3.Si;have nx:s0.next≤s'.next:=e3.next
      have fin: ∀ r',K ex (pop s')=some r'→x= .inr r'→Q (Ey ex) a' w':=by
       intro r' hK hxr;obtain rfl:=Yj r' hxr;refine hq ex (pop s') m' Z' a' w' hK e2.pop ⟨e3.ext,e3.dF,e3.keep,e3.defers, ?_, ?_, ?_,e3.Ak⟩ (by rw [← d2]; exact e4)
       ·show cR s.tm (BB s'.tm)
        rw [← BV];exact cR.pop (by rw [BV]; exact Nk) iY Ib
       ·show cR s.ob (BB s'.ob)
        exact d3.trans (cR.pop (d3.ne Nl) BE Yh)
       ·show s.next≤s'.next
        rw [← d2]; exact nx
      cases ex with
      |ret=>
       simp only [XZ] at e1;split at e1
       ·rename_i ρ' o' hf'
        split at e1
        ·rename_i hdd
         cases e1;obtain ⟨s3,hbd,hK⟩:=Yi ρ' rfl;obtain ⟨mf,Zf,f1,f2,f3,f4,f5⟩:=rebuild h0 e2 e3.ext nx (fun t v hv g1 g2=>under iY (by rw [tmg,if_neg g1,if_neg g2]) hv) (fun i y hy g1=>under BE (by
          rw [obg,if_neg];intro hc;rcases List.mem_append.1 hc with hc|hc
          ·exact g1 hc
          ·rw [d4,if_pos hc] at hy; cases hy) hy) hf' hdd hbd
         obtain ⟨T3,O3,t1,t2,t3,t4,t5,t6,t7,t8⟩:=Ar hbd;refine hq .ret (pop s3) mf Zf a' w' hK f1.pop ⟨f2,fun b hb=>f3 b (e3.dF b hb),e3.keep,e3.defers.mono f3, ?_, ?_, ?_,fun n0 Z0 hn hf=>⟨f4 n0 Z0 (e3.Ak n0 Z0 hn hf).1,(e3.Ak n0 Z0 hn hf).2⟩⟩ (by rw [← d2]; exact e4.trans (Nat.le_refl _) f5)
         ·show cR s.tm (BB s3.tm)
          rw [t1, ←BV];exact cR.pop (by rw [BV]; exact Nk) (.refl _) fun t ht=>by
           rcases t4 t ht with h|h
           ·exact .inl (cg t6 t h)
           ·exact .inl (cg t8 t h)
         ·show cR s.ob (BB s3.ob)
          rw [t2];exact d3.trans (cR.pop (d3.ne Nl) (.refl _) fun i hi=>by
           rcases t5 i hi with h|h
           ·exact .inl (cg t7 i h)
           ·refine .inr ?_
            cases hl:look s0.ob i with
            |none=>rfl
            |some x=>have:=h0.low hl; omega)
         ·show s.next≤s3.next
          rw [← d2]; exact t3
        ·cases e1
       ·cases e1
      |_=>
       simp only [XZ,ay] at e1;split at e1
       ·rename_i r' hK
        cases e1;exact fin r' hK rfl
       ·cases e1
     cases hx:run g ⟨T::s0.tm,O::s0.ob,s0.next⟩ (List PV ⊕ R) (XZ P s0 S K) with
     |none=>rw [hx] at e; cases e
     |some x=>
      rw [hx] at e;cases x with
      |inl ρ'=>
       simp only [aq] at e;split at e
       ·rename_i s3 hbd
        exact body _ hx (fun Yk h=>by cases h; exact ⟨s3,hbd,e⟩) (fun r' h=>by cases h)
       ·cases e
      |inr r'=>
       simp only [aq] at e;cases e;exact body _ hx (fun Yk h=>by cases h) (fun r'' h=>by cases h; rfl)
    ·cases hpu
   ·cases e
  ·cases e
 ·exact hr _ s R K r e Nk Nl m Z w a hs hI Q hq
theorem rz {fo:Option Nat} {I:n5} {nt:Nat} {run:DI} {c:Code} (hr:ry P fo I nt run c):ry P fo I nt (PK P run) c:=Qj (Qi hr)
end Go.Sy
namespace Go.Sy
open Go.Sim (Tr aV bM bA bL br ef cx cY FR Ey aX fq Ex mk bN De OW)
variable {P:Program}
def aay (P:Program) (Gv:gQ) (nt:Nat) (tm:Lay AV) (A:Array Value) (i B D:Nat) (rc:Loop):n5:=fun m Z w=>
 m i=some (.lp B rc)∧Z D∧w.heap[D]? =some (Obj.deferred (some []))∧bU P m w Z nt tm A∧Gv Z w
theorem DQ {Gv:gQ} (hG:j9 Gv) {nt:Nat} {tm:Lay AV} {A:Array Value} {i B D:Nat} {rc:Loop}:BK (aay P Gv nt tm A i B D rc):=by
 rintro m m' Z Z' w w' ⟨h1,h3,h5,h6,h7⟩ he hz hk;exact ⟨he _ _ h1,hz _ h3,(hk.heap _ h3).trans h5,h6.mono he hk.heap hz,hG.st h7 hz hk⟩
theorem Ic {Gv:gQ} {nt:Nat} {tm:Lay AV} {A:Array Value} {i B D:Nat} {rc:Loop}:Has Gv (aay P Gv nt tm A i B D rc):=fun h=>h.2.2.2.2
theorem ET {m:Mp} {Z:Nat→Prop} {w:World} {nt:Nat} {tm:Lay AV}: ∀ {ps:List Nat} {l:List AV} {lv:List Value} {T:Tr (Option AV)} {A:Array Value},De nt ps=true→bu P m w Z l lv→ps.length=l.length→bU P m w Z nt (T::tm) A→
  bU P m w Z nt (T5 ps l T::tm) ((ps.zip lv).foldl (fun t (p:Nat×Value)=>t.setIfInBounds p.1 p.2) A)
 |[],[],[],T,A,_,_,_,h=>h
 |p::ps,v::l,u::lv,T,A,hp,hl,hlen,h=>by
  have hpn:=OW hp p (List.mem_cons_self ..);have hp':De nt ps=true:=by
   simp only [De] at hp;split at hp
   ·exact hp
   ·cases hp
  refine ET (T:=T.set p (some v)) (A:=A.setIfInBounds p u) hp' hl.2 (by simpa using hlen) ⟨by simp [h.size],fun t x hx=> ?_⟩;rw [cN,Tr.bn] at hx;by_cases e:p=t
  ·subst e
   rw [if_pos rfl] at hx;cases hx;exact ⟨u,by simp [h.size,hpn],hl.1⟩
  ·rw [if_neg e] at hx
   obtain ⟨y,h1,h2⟩:=h.get t x hx;exact ⟨y,by simp [Array.getElem?_setIfInBounds,e,h1],h2⟩
 |_::_,[],_,_,_,_,_,hlen,_=>by simp at hlen
 |[],_::_,_,_,_,_,_,hlen,_=>by simp at hlen
 |_,[],_::_,_,_,_,hl,_,_=>hl.elim
 |_,_::_,[],_,_,_,hl,_,_=>hl.elim
theorem Vw {ex:Ex} {q:List AV} (h:acy ex=some q) (rc:Loop): ∃ (jump:Option Code) (us:List Value),K_ rc us=some {rc with state:=if jump.isNone then .ready else .done,pending:=jump}∧HH q=jump.isNone∧(∀ (m:Mp) (w:World) (Z:Nat→Prop),bu P m w Z q us)∧
  ∀ {B:Nat} {R:Ending→World→Prop} {a:Act} {w:World},(∃ v w',(Instr.endRound B jump).run P w= .ok v w'∧R (.returned v) w')→roundPost P B R (Ey ex) a w:=by
 cases ex with
 |normal=>cases h; exact ⟨none,[],rfl,rfl,fun _ _ _=>trivial,fun h=>h⟩
 |ret=>cases h; exact ⟨some .ret,[.int .i64 0],rfl,rfl,fun _ _ _=>⟨⟨rfl,tF (n:=0) (by decide)⟩,trivial⟩,fun h=>h⟩
 |exit j=>
  simp only [acy] at h;split at h
  ·rename_i hj
   have hj:=cY hj;cases h;exact ⟨some (.exit j),[.int .i64 ((j+1:Nat):Int)],rfl,rfl,fun _ _ _=>⟨⟨rfl,tF (by unfold aN; omega)⟩,trivial⟩,fun h=>h⟩
  ·cases h
 |goto t=>cases h
theorem Yl {Gv:gQ} (lg:j9 Gv) {i nt B D:Nat} {ps:Array Nat} {tm:Lay AV} {h:Hint} {ra rb:DI} {as bo:Code} {rest:bf} {A:Array Value} {qG:FuncId} {rc:Loop} (hrc:rc.tmps=A∧rc.params=ps∧rc.assign=as∧rc.body=bo∧rc.fn=qG) (hps:De nt ps.toList=true)
  (ha:ry P (some B) (gI Gv) nt ra as) (hb:ry P (some B) (gI Gv) nt rb bo) (hR:bZ P Gv rest):
  eH P none (aay P Gv nt tm A i B D rc) (T6 i nt ps.toList tm h ra rb rest) where
 run:=by
  intro R K r f l s fr e zl m Z w fv lv hr hf hl hm hfr hfresh hI;obtain ⟨rfl,rfl,rfl,rfl,rfl⟩:=hrc;unfold T6 at e;split at e
  ·rename_i j
   split at e
   ·rename_i wh BE h1 h2 h3 hbx hp1
    obtain rfl:=br h1;have h2:=br h2;rw [j6] at e;have hI0:=hI;obtain ⟨g1,g3,g5,g6,g7⟩:=hI;obtain ⟨b,rc',k1,rfl⟩:=hf;rw [g1] at k1;cases k1;have qY:s.ob≠[]:=fun h0=>by rw [h0] at h3; cases h3
    obtain ⟨p1,p2⟩:=bX hp1;have aao:BE≠[]:=p1.ne qY;have hlk:=gq hbx;obtain ⟨hnz,g4⟩: ¬ Z B∧w.heap[B]? =some (Obj.loop {rc with state:= .ready,pending:=none}):=by
     rcases hr.obj _ _ hlk with ⟨b',c1,_⟩|⟨b',rc',q,us,c1,c2,_,c4,c5,c6⟩
     ·rw [g1] at c1; cases c1
     ·rw [g1] at c1
      cases c1;cases us with
      |nil=>cases c5; exact ⟨c2,c6⟩
      |cons _ _=>exact c4.elim
    have aew:B<w.heap.size:=(Array.getElem?_eq_some_iff.1 g4).1;have WE:Rel P m (fun b=>Z b∨b=B) BE w:=by
     refine ⟨fun b hb=> ?_,fun k o hk=> ?_,fun k k' o o' p q b hk hk'=> ?_⟩
     ·rcases hb with hb|rfl
      ·exact hr.zb b hb
      ·exact aew
     ·rw [p2] at hk
      split at hk
      ·cases hk
      ·rename_i hne
       refine (hr.obj k o hk).mono (.refl m) (fun _ _=>rfl) (fun _ h=> .inl h) fun p b hp hbk=>⟨rfl,fun hz hz1=> ?_⟩
       rcases hz1 with hz1|rfl
       ·exact hz hz1
       ·exact hne (hr.inj _ _ _ _ _ _ _ hlk hk g1 hp rfl hbk)
     ·rw [p2] at hk hk'
      split at hk
      ·cases hk
      ·split at hk'
       ·cases hk'
       ·exact hr.inj k k' o o' p q b hk hk'
    have Oc:=ct hl;have hsz:(⟨lv⟩:Array Value).size=rc.params.size:=by simp; rw [← Oc,h2]; simp
    refine .inr ⟨B,rc.fn,_,rc.assign,rc.body,rfl,run_yield (r:={rc with state:= .ready,pending:=none}) g4 hsz, ?_⟩;refine roundIn_of_wpIn trivial ?_;show rc.assign.wpIn (FR (some B)) 0 P _ _ w
    have hz:(rc.params.zip ⟨lv⟩).foldl (fun (tmps:Array Value) (x:Nat×Value)=>tmps.setIfInBounds x.1 x.2) rc.tmps=(rc.params.toList.zip lv).foldl (fun t (p:Nat×Value)=>t.setIfInBounds p.1 p.2) rc.tmps:=by
     rw [← Array.foldl_toList]; simp
    have hs0:SR P m (fun b=>Z b∨b=B) w nt ⟨T5 rc.params.toList l .e::tm,BE,s.next⟩ {tmps:=(rc.params.zip ⟨lv⟩).foldl (fun (tmps:Array Value) (x:Nat×Value)=>tmps.setIfInBounds x.1 x.2) rc.tmps,defers:=[]}:=by
     refine ⟨WE, ?_,hfresh⟩;rw [hz];exact ET hps (d_ (.refl m) (fun _ _=>rfl) (fun _ h=> .inl h) _ _ hl) (by rw [← h2]) ⟨g6.size,fun t v ht=>(g6.mono (.refl m) (fun _ _=>rfl) (fun _ h=> .inl h)).get t v ht⟩
    refine ha h.l _ _ _ _ e (by simp) aao m _ w _ hs0 (lg.st g7 (fun _ h=> .inl h) (.refl _ _)) _ ?_;intro ex s1 m1 Z1 a1 w1 e1 e2 e3 e4;cases ex with
    |normal=>
     have acO:Z1 B:=e3.dF B (.inr rfl);have hB1:w1.heap[B]? =some (Obj.loop {rc with state:= .ready,pending:=none}):=(e3.keep.heap B (.inr rfl)).trans g4;have agT:B<w1.heap.size:=(Array.getElem?_eq_some_iff.1 hB1).1;refine ⟨_,run_beginRound hB1 rfl, ?_⟩;show rc.body.wpIn (FR (some B)) 0 P _ a1 _
     have sc:bY w1 (w1.putObj B (Obj.loop {rc with state:= .busy,pending:=none})):= .putObj (fun cc ty fr h=>by rw [hB1] at h; cases h) (fun es ck h=>by rw [hB1] at h; cases h);have hB2:(w1.putObj B (Obj.loop {rc with state:= .busy,pending:=none})).heap[B]? =some (Obj.loop {rc with state:= .busy,pending:=none}):=World.putObj_heap_same agT;have Ie: ∀ q,q≠B→(w1.putObj B (Obj.loop {rc with state:= .busy,pending:=none})).heap[q]? =w1.heap[q]? :=fun q hq=>World.putObj_heap_other hq
     have hos:(w1.putObj B (Obj.loop {rc with state:= .busy,pending:=none})).os=w1.os:=rfl;have htp:(w1.putObj B (Obj.loop {rc with state:= .busy,pending:=none})).tape=w1.tape:=rfl;have hout:(w1.putObj B (Obj.loop {rc with state:= .busy,pending:=none})).output=w1.output:=rfl;have hsize:(w1.putObj B (Obj.loop {rc with state:= .busy,pending:=none})).heap.size=w1.heap.size:=World.putObj_size;show rc.body.wpIn (FR (some B)) 0 P _ a1 (w1.putObj B (Obj.loop {rc with state:= .busy,pending:=none}))
     generalize (w1.putObj B (Obj.loop {rc with state:= .busy,pending:=none}))=w2 at sc hB2 Ie hos htp hout hsize ⊢;have hs1:SR P m1 Z1 w2 nt s1 a1:=⟨e2.rel.other sc (.refl _ _) (fun _ h=>h) (Nat.le_of_eq hsize.symm) (fun k o b rc' q hk hk2 hbq=>by
      rw [Ie b fun e=>((e2.rel.obj k o hk).eC hk2 rfl).2 (e ▸ acO)]; exact hbq),e2.tr.other sc (.refl _ _),e2.fresh⟩
     refine hb h.r _ _ _ _ e1 (e3.Dp.ne (by simp)) (e3.Si.ne aao) m1 Z1 w2 a1 hs1 (lg.st g7 (fun b hb=>e3.dF b (.inl hb)) ⟨by rw [hos,e3.keep.os],by rw [htp,e3.keep.tape],by rw [hout,e3.keep.output],by have:=e3.keep.size; omega,fun b hb=>by rw [Ie b fun e=>hnz (e ▸ hb),e3.keep.heap b (.inl hb)]⟩) _ ?_;intro ex2 s2 m2 Z2 a2 w3 f1 f2 f3 f4;split at f1
     ·rename_i qv hqv
      split at f1
      ·rename_i ob4 hp4
       obtain ⟨y1,y2⟩:=bX hp4;have aex:Z2 B:=f3.dF B acO;have hB3:w3.heap[B]? =some (Obj.loop {rc with state:= .busy,pending:=none}):=(f3.keep.heap B acO).trans hB2;have aey:B<w3.heap.size:=(Array.getElem?_eq_some_iff.1 hB3).1;obtain ⟨jump,us,j1,j2,j3,j4⟩:=Vw (P:=P) hqv rc;refine j4 ⟨_,_,run_endRound jump hB3, ?_⟩;have sc4:bY w3 (w3.putObj B (Obj.loop {rc with state:=if jump.isNone then .ready else .done,pending:=jump})):= .putObj (fun cc ty fr h=>by rw [hB3] at h; cases h) (fun es ck h=>by rw [hB3] at h; cases h);have hB4:(w3.putObj B (Obj.loop {rc with state:=if jump.isNone then .ready else .done,pending:=jump})).heap[B]? =some (Obj.loop {rc with state:=if jump.isNone then .ready else .done,pending:=jump}):=World.putObj_heap_same aey;have Um: ∀ q,q≠B→(w3.putObj B (Obj.loop {rc with state:=if jump.isNone then .ready else .done,pending:=jump})).heap[q]? =w3.heap[q]? :=fun q hq=>World.putObj_heap_other hq
       have aez:(w3.putObj B (Obj.loop {rc with state:=if jump.isNone then .ready else .done,pending:=jump})).os=w3.os:=rfl;have aeA:(w3.putObj B (Obj.loop {rc with state:=if jump.isNone then .ready else .done,pending:=jump})).tape=w3.tape:=rfl;have abj:(w3.putObj B (Obj.loop {rc with state:=if jump.isNone then .ready else .done,pending:=jump})).output=w3.output:=rfl;have Ym:(w3.putObj B (Obj.loop {rc with state:=if jump.isNone then .ready else .done,pending:=jump})).heap.size=w3.heap.size:=World.putObj_size;show ∃ v' v s' m' Z',Ending.returned (Value.bool jump.isNone)= .returned v'∧K v s'=some r∧Ext m m'∧(∀ i,i<s.next→i≠fr→m' i=m i)∧(∀ b,Z b→Z' b)∧fH Z w (w3.putObj B (Obj.loop {rc with state:=if jump.isNone then .ready else .done,pending:=jump}))∧Rel P m' Z' s'.ob (w3.putObj B (Obj.loop {rc with state:=if jump.isNone then .ready else .done,pending:=jump}))∧bD P m' (w3.putObj B (Obj.loop {rc with state:=if jump.isNone then .ready else .done,pending:=jump})) Z' v v'∧s'.tm=s.tm∧s.next≤s'.next∧(∀ j,s'.next≤j→m' j=none)∧cR s.ob s'.ob∧iq m m' Z Z' w (w3.putObj B (Obj.loop {rc with state:=if jump.isNone then .ready else .done,pending:=jump}))
       generalize (w3.putObj B (Obj.loop {rc with state:=if jump.isNone then .ready else .done,pending:=jump}))=w4 at sc4 hB4 Um aez aeA abj Ym ⊢;have k13:fH (fun b=>Z b∨b=B) w w1:=e3.keep;have k23:fH Z1 w2 w3:=f3.keep;have FI:Ext m m2:=e3.ext.trans f3.ext;have Yn:Rel P m2 (fun b=>Z2 b∧b≠B) s2.ob w4:=f2.rel.other sc4 (fun b cc ty fr hz hc=>⟨hz,fun e=>by rw [e,hB3] at hc; cases hc⟩) (fun _ h=>h.1) (Nat.le_of_eq Ym.symm) (fun k o b rc' q hk hk2 hbq=>by
        rw [Um b fun e=>((f2.rel.obj k o hk).eC hk2 rfl).2 (e ▸ aex)]; exact hbq)
       have hnB: ∀ k o p b,look s2.ob k=some o→m2 k=some p→af p=some b→b≠B:=fun k o p b hk hp hb e=>((f2.rel.obj k o hk).eC hp hb).2 (e ▸ aex)
       refine ⟨_,_,_,m2,fun b=>Z2 b∧b≠B,rfl,f1,FI,fun q hq _=>(f4 q (Nat.lt_of_lt_of_le hq e3.next)).trans (e4 q hq),fun b hb=>⟨f3.dF b (e3.dF b (.inl hb)),fun e=>hnz (e ▸ hb)⟩,⟨?_, ?_, ?_, ?_,fun b hb=> ?_⟩,⟨Yn.zb,fun k o hk=> ?_,fun k k' o o' p q b hk hk' hp hq zV A7=> ?_⟩,by rw [← j2]; exact rfl,rfl,Nat.le_trans e3.next f3.next,f2.fresh,((p1.trans e3.Si).trans f3.Si).trans y1, ?_⟩
       ·rw [aez,k23.os,hos,k13.os]
       ·rw [aeA,k23.tape,htp,k13.tape]
       ·rw [abj,k23.output,hout,k13.output]
       ·have:=k23.size; have:=k13.size; omega
       ·have e:b≠B:=fun e=>hnz (e ▸ hb)
        rw [Um b e,k23.heap b (e3.dF b (.inl hb)),Ie b e,k13.heap b (.inl hb)]
       ·rw [y2] at hk
        split at hk
        ·rename_i hk2
         cases hk;subst hk2;exact .inr ⟨B,rc,_,us,FI _ _ g1,fun h=>h.2 rfl,rfl,j3 _ _ _,j1,hB4⟩
        ·exact Yn.obj k o hk
       ·rw [y2] at hk hk'
        split at hk
        ·rename_i e1
         split at hk'
         ·rename_i e2; rw [← e1, ←e2]
         ·exfalso
          rw [← e1,FI _ _ g1] at hp;cases hp;cases zV;exact hnB k' o' q _ hk' hq A7 rfl
        ·split at hk'
         ·rename_i e2
          exfalso;rw [← e2,FI _ _ g1] at hq;cases hq;cases A7;exact hnB k o p _ hk hp zV rfl
         ·exact Yn.inj k k' o o' p q b hk hk' hp hq zV A7
       ·intro n0 Z0 hn acP
        have hBn:n0≤B:=acP.1 _ _ B g1 rfl;obtain ⟨x1,x2⟩:=e3.Ak n0 Z0 hn ⟨acP.1,fun b hb=>by
         rcases hb with hb|rfl
         ·exact acP.2 b hb
         ·exact .inr hBn⟩
        obtain ⟨x3,x4⟩:=f3.Ak n0 Z0 (by rw [hsize]; exact Nat.le_trans hn k13.size) x1;exact ⟨⟨x3.1,fun b hb=>x3.2 b hb.1⟩,fun b hb=>by
         have e:b≠B:=by omega
         rw [Um b e,x4 b hb,Ie b e,x2 b hb]⟩
      ·cases f1
     ·cases f1
    |_=>cases e1
   ·cases e
  ·exact (hR none _ (DQ lg) Ic).run e zl hr hf hl hm hfr hfresh hI
 ld:=by
  intro R K r g t off s fr e m Z w hI;exact (hR none _ (DQ lg) Ic).ld e hI
end Go.Sy
namespace Go.Sy
open Go.Sim (Tr aV bM bA bL br ef cx cY FR Ey aX fq Ex mk bN nU lF)
variable {P:Program}
structure Sq (P:Program) (Gv:gQ) (pc:PC):Prop where
 par:cV P Gv true pc.q
 rng: ∀ (y:bf→bf) (I:n5),BK I→Has Gv I→(∀ rest:bf,bZ P Gv rest→eH P none I (y rest))→eH P none I (pc.rng y)
theorem Vx {q:List AV} {ex:Ex} (h:acz q=some ex) {m:Mp} {w:World} {Z:Nat→Prop} {us:List Value} (hr:bu P m w Z q us) {rc lq:Loop} (hl:K_ rc us=some lq):lq.state≠ .busy∧ ∀ {Q:Exit→Act→World→Prop} {a:Act} {w':World},Q (Ey ex) a w'→(match lq.pending with
  |none=>Q .normal a w'
  |some c=>c.wpIn (FR none) 0 P Q a w'):=by
 unfold acz at h;split at h
 ·cases h
  cases us with
  |nil=>cases hl; exact ⟨(by intro h; cases h),fun h=>h⟩
  |cons _ _=>exact hr.elim
 ·rename_i k n
  match us,hr with
  |[u],hr=>
   obtain ⟨rfl,_⟩:=hr.1;simp only [K_] at hl;split at h
   ·cases h
    simp only [N_] at hl;cases hl;exact ⟨(by intro h; cases h),fun h=>wpIn_ret h⟩
   ·rename_i j
    cases h;simp only [N_] at hl;cases hl;exact ⟨(by intro h; cases h),fun h=>wpIn_exit h⟩
   ·cases h
 ·cases h
theorem Qk (hN:aX P) {Gv:gQ} (lg:j9 Gv) {call:bf} {pc:PC} (Un:bZ P Gv call) (hP:Sq P Gv pc) {nt:Nat} {g:Operand} {ps:Array Nat} {x y:Code}
  (hx: ∀ l,ry P (some l) (gI Gv) nt (lI P call pc nt x) x) (hy: ∀ l,ry P (some l) (gI Gv) nt (lI P call pc nt y) y) {I:n5} (hH:Has Gv I):ry P none I nt (lI P call pc nt (.rangeFunc g ps x y)) (.rangeFunc g ps x y):=by
 intro h s R K r e n1 n2 m Z w a hs hI Q hq;simp only [lI] at e;split at e
 ·rename_i f cap hg q1 q2 hps
  rw [j6] at e;obtain ⟨vs,JP,hcap⟩:=az hs.tr hg;refine wpIn_rangeFunc fun qG _=> ?_
  have Hg:=run_enterLoop_outer (P:=P) (w:=w) qG a.tmps ps x y;have RT:(w.alloc (Obj.deferred (some []))).heap.size=w.heap.size+1:=World.size_alloc _ _;have hB1:((w.alloc (Obj.deferred (some []))).alloc (Obj.loop {state:= .ready,pending:=none,fn:=qG,tmps:=a.tmps,params:=ps,assign:=x,body:=y,defers:=w.heap.size})).heap[w.heap.size+1]? =some (Obj.loop {state:= .ready,pending:=none,fn:=qG,tmps:=a.tmps,params:=ps,assign:=x,body:=y,defers:=w.heap.size}):=by
   have:=World.alloc_heap_new (w.alloc (Obj.deferred (some []))) (Obj.loop {state:= .ready,pending:=none,fn:=qG,tmps:=a.tmps,params:=ps,assign:=x,body:=y,defers:=w.heap.size});rw [RT] at this;exact this
  have hD1:((w.alloc (Obj.deferred (some []))).alloc (Obj.loop {state:= .ready,pending:=none,fn:=qG,tmps:=a.tmps,params:=ps,assign:=x,body:=y,defers:=w.heap.size})).heap[w.heap.size]? =some (Obj.deferred (some [])):=
   (RowKit.Below.heap_alloc _ _ _ (by rw [RT]; omega)).trans (World.alloc_heap_new w _)
  have hold: ∀ b,b<w.heap.size→((w.alloc (Obj.deferred (some []))).alloc (Obj.loop {state:= .ready,pending:=none,fn:=qG,tmps:=a.tmps,params:=ps,assign:=x,body:=y,defers:=w.heap.size})).heap[b]? =w.heap[b]? :=fun b hb=>
   (RowKit.Below.heap_alloc _ _ _ (by rw [RT]; omega)).trans (RowKit.Below.heap_alloc _ _ _ hb)
  have agU:((w.alloc (Obj.deferred (some []))).alloc (Obj.loop {state:= .ready,pending:=none,fn:=qG,tmps:=a.tmps,params:=ps,assign:=x,body:=y,defers:=w.heap.size})).heap.size=w.heap.size+2:=by rw [World.size_alloc,RT]
  have hos:((w.alloc (Obj.deferred (some []))).alloc (Obj.loop {state:= .ready,pending:=none,fn:=qG,tmps:=a.tmps,params:=ps,assign:=x,body:=y,defers:=w.heap.size})).os=w.os:=rfl;have htp:((w.alloc (Obj.deferred (some []))).alloc (Obj.loop {state:= .ready,pending:=none,fn:=qG,tmps:=a.tmps,params:=ps,assign:=x,body:=y,defers:=w.heap.size})).tape=w.tape:=rfl;have hout:((w.alloc (Obj.deferred (some []))).alloc (Obj.loop {state:= .ready,pending:=none,fn:=qG,tmps:=a.tmps,params:=ps,assign:=x,body:=y,defers:=w.heap.size})).output=w.output:=rfl;generalize ((w.alloc (Obj.deferred (some []))).alloc (Obj.loop {state:= .ready,pending:=none,fn:=qG,tmps:=a.tmps,params:=ps,assign:=x,body:=y,defers:=w.heap.size}))=W1 at Hg hB1 hD1 hold agU hos htp hout;have hm0:m s.next=none:=hs.fresh _ (Nat.le_refl _)
  split at e
  ·rename_i BE hp1
   obtain ⟨p1,p2⟩:=bX hp1;obtain ⟨rc,hrc⟩: ∃ rc:Loop,rc={state:= .ready,pending:=none,fn:=qG,tmps:=a.tmps,params:=ps,assign:=x,body:=y,defers:=w.heap.size}:=⟨_,rfl⟩;rw [← hrc] at hB1;have FI:Ext m (m.up s.next (.lp (w.heap.size+1) rc)):= .up hm0 _
   have hZ1: ∀ b,Z b→(fun b=>Z b∨b=w.heap.size) b:=fun b hb=> .inl hb
   have hzw: ∀ b,Z b→W1.heap[b]? =w.heap[b]? :=fun b hb=>hold b (hs.rel.zb b hb)
   have hinv:aay P Gv nt s.tm a.tmps s.next (w.heap.size+1) w.heap.size rc (m.up s.next (.lp (w.heap.size+1) rc)) (fun b=>Z b∨b=w.heap.size) W1:=
    ⟨Mp.bg .., .inr rfl,hD1,hs.tr.mono FI hzw hZ1,lg.st (hH hI) hZ1 ⟨hos,htp,hout,by omega,hzw⟩⟩
   have hok:=hP.rng (T6 s.next nt ps.toList s.tm h (lI P call pc nt x) (lI P call pc nt y)) _ (DQ lg (P:=P) (nt:=nt) (tm:=s.tm) (A:=a.tmps) (i:=s.next) (B:=w.heap.size+1) (D:=w.heap.size) (rc:=rc)) Ic
    (fun rest hr=>Yl lg (qG:=qG) (by rw [hrc]; exact ⟨rfl,rfl,rfl,rfl,rfl⟩) hps (hx _) (hy _) hr)
   have hrel:Rel P (m.up s.next (.lp (w.heap.size+1) rc)) (fun b=>Z b∨b=w.heap.size) BE W1:=by
    have hne: ∀ k o,look s.ob k=some o→(m.up s.next (.lp (w.heap.size+1) rc)) k=m k:=fun k o hk=>Mp.fR m _ (fun e=>by
     have:=hs.low hk;omega)
    refine ⟨fun b hb=> ?_,fun i o hi=> ?_,fun i j o o' p q b hi hj hp hq zV A7=> ?_⟩
    ·rcases hb with hb|rfl
     ·have:=hs.rel.zb b hb; omega
     ·omega
    ·rw [p2] at hi
     split at hi
     ·rename_i he
      cases hi;subst he;refine .inr ⟨w.heap.size+1,rc,rc,[],Mp.bg ..,fun hz=> ?_,rfl,trivial,by rw [hrc]; rfl,hB1⟩;rcases hz with hz|hz
      ·have:=hs.rel.zb _ hz; omega
      ·omega
     ·refine (hs.rel.obj i o hi).mono FI hzw hZ1 fun q b hq hb=> ?_
      have zV:=(hs.rel.obj i o hi).eC hq hb;exact ⟨hold b zV.1,fun hnz hz=>by
       rcases hz with hz|rfl
       ·exact hnz hz
       ·omega⟩
    ·rw [p2] at hi hj
     have old: ∀ k o p,look s.ob k=some o→(m.up s.next (.lp (w.heap.size+1) rc)) k=some p→af p=some b→b<w.heap.size:=fun k o p hk hp hb=>by
      rw [hne k o hk] at hp;exact ((hs.rel.obj k o hk).eC hp hb).1
     split at hi
     ·rename_i e1
      split at hj
      ·rename_i e2; rw [← e1, ←e2]
      ·exfalso
       rw [← e1,Mp.bg] at hp;cases hp;cases zV;have:=old j o' q hj hq A7;omega
     ·split at hj
      ·rename_i e2
       exfalso;rw [← e2,Mp.bg] at hq;cases hq;cases A7;have:=old i o p hi hp zV;omega
      ·rw [hne i o hi] at hp
       rw [hne j o' hj] at hq;exact hs.rel.inj i j o o' p q b hi hj hp hq zV A7
   have hW:=hok.run e rfl (s:={s with ob:=BE,next:=s.next+2}) (fr:=s.next+1) hrel (fv:=a.eval g) (lv:=[.func (.yield (w.heap.size+1)) #[] #[]]) ⟨vs,JP,d_ FI hzw hZ1 _ _ hcap⟩ ⟨⟨_,_,Mp.bg ..,rfl⟩,trivial⟩
    (by rw [Mp.fR m _ (by omega)]; exact hs.fresh _ (by omega)) (by show s.next+1<s.next+2; omega) (fun j hj=>by
     have hj:s.next+2≤j:=hj
     rw [Mp.fR m _ (by omega)]; exact hs.fresh _ (by omega)) hinv
   rcases hW with ⟨f',vs',fn,c,w1,w2,w3,w4⟩|⟨_,_,_,_,_,w1,_⟩
   ·rw [JP] at w1
    cases w1;refine ⟨w.heap.size+1,[mk w.heap.size],W1,{target:= .fn (.func f) ⟨vs⟩,args:= #[.func (.yield (w.heap.size+1)) #[] #[]]},W1,f,⟨.func (.yield (w.heap.size+1)) #[] #[]::vs⟩,W1,Hg, ?_,fun _ _=>trivial, ?_,fun hd=>by simp [FR,Fence.wide] at hd, ?_⟩
    ·have hmap:(rangeCall g (w.heap.size+1)).args.map a.eval= #[.func (.yield (w.heap.size+1)) #[] #[]]:=by
      have hc: ∀ v,a.eval (.const v)=v:=fun _=>rfl
      simp [rangeCall,hc]
     show (Deferred.ofValue (a.eval g) ((rangeCall g (w.heap.size+1)).args.map a.eval):Sem _).run P W1=_
     rw [hmap,JP];rfl
    ·have hne: ¬ fn.name= "runtime.NumGoroutine" :=by simpa using hN f fn w2
     simp [invoke,callFunc,w2,hne,w3]
    ·refine bN.2 (w4.mono ?_)
     rintro e2 w5 ⟨v',v,s',m',Z',rfl,hK,k1,k2,k3,k4,k5,k6,k7,k8,k9,k10,k11⟩;split at hK
     ·rename_i qv wh hbx
      split at hK
      ·rename_i ex hex
       have hm':m' s.next=some (.lp (w.heap.size+1) rc):=k1 _ _ (Mp.bg ..)
       obtain ⟨q,us,ah9,hus,HN,hB3⟩: ∃ q us, ¬ Z' (w.heap.size+1)∧bu P m' w5 Z' qv us∧K_ rc us=some q∧w5.heap[w.heap.size+1]? =some (Obj.loop q):=by
        rcases k5.obj _ _ (gq hbx) with ⟨b',c1,_⟩|⟨b',rc',q,us,c1,c2,_,c4,c5,c6⟩
        ·rw [hm'] at c1; cases c1
        ·rw [hm'] at c1
         cases c1;exact ⟨q,us,c2,c4,c5,c6⟩
       obtain ⟨aeB,aeC⟩:=Vx hex hus HN;have hD3:w5.heap[w.heap.size]? =some (Obj.deferred (some [])):=(k4.heap _ (.inr rfl)).trans hD1;have hend:=run_endLoop (P:=P) hB3 aeB;refine ⟨_,_,hend, ?_⟩;have sc:bY w5 (w5.putObj (w.heap.size+1) (Obj.loop {q with state:= .exhausted})):= .putObj (fun cc ty fr h=>by rw [hB3] at h; cases h) (fun es ck h=>by rw [hB3] at h; cases h);have Ie: ∀ b,b≠w.heap.size+1→(w5.putObj (w.heap.size+1) (Obj.loop {q with state:= .exhausted})).heap[b]? =w5.heap[b]? :=fun b hq=>World.putObj_heap_other hq
       have aeD:(w5.putObj (w.heap.size+1) (Obj.loop {q with state:= .exhausted})).os=w5.os:=rfl;have aeE:(w5.putObj (w.heap.size+1) (Obj.loop {q with state:= .exhausted})).tape=w5.tape:=rfl;have abk:(w5.putObj (w.heap.size+1) (Obj.loop {q with state:= .exhausted})).output=w5.output:=rfl;have aeF:(w5.putObj (w.heap.size+1) (Obj.loop {q with state:= .exhausted})).heap.size=w5.heap.size:=World.putObj_size;refine aeC ?_;generalize (w5.putObj (w.heap.size+1) (Obj.loop {q with state:= .exhausted}))=w6 at sc Ie aeD aeE abk aeF ⊢;split at hK
       ·rename_i Vs hp2
        obtain ⟨y1,y2⟩:=bX hp2;have hs5:=k4.size;have hzz: ∀ b,Z b→Z' b:=fun b hb=>k3 b (.inl hb)
        have hz5: ∀ b,Z b→w5.heap[b]? =w.heap[b]? :=fun b hb=>(k4.heap b (.inl hb)).trans (hzw b hb)
        have hk5:Rel P m' Z' Vs w5:=⟨k5.zb,fun j o hj=>by
         rw [y2] at hj;split at hj
         ·cases hj
         ·exact k5.obj j o hj,fun j1 j2 o1 o2 p q b pP hj2=>by
         rw [y2] at pP hj2;split at pP
         ·cases pP
         ·split at hj2
          ·cases hj2
          ·exact k5.inj j1 j2 o1 o2 p q b pP hj2⟩
        refine hq ex {s' with tm:=s.tm,ob:=Vs} m' Z' {a with defers:=[mk w.heap.size]++a.defers} w6 hK ⟨hk5.other sc (.refl _ _) (fun _ h=>h) (Nat.le_of_eq aeF.symm) (fun k o b rc' q' hk hk2 hbq=> ?_),(hs.tr.mono (FI.trans k1) hz5 hzz).other sc (.refl _ _),k9⟩ ⟨FI.trans k1,hzz,⟨?_, ?_, ?_,by omega,fun b hb=> ?_⟩,⟨[w.heap.size],rfl,by simp,fun D hD=> ?_⟩, .refl _,(p1.trans k10).trans y1, ?_, ?_⟩ ?_
        ·rw [Ie b fun eb=> ?_]
         ·exact hbq
         ·subst eb
          have hk0:=hk;rw [y2] at hk;split at hk
          ·cases hk
          ·rename_i hne
           exact hne (k5.inj _ _ _ _ _ _ _ (gq hbx) hk hm' hk2 rfl rfl)
        ·rw [aeD,k4.os,hos]
        ·rw [aeE,k4.tape,htp]
        ·rw [abk,k4.output,hout]
        ·have zV:=hs.rel.zb b hb
         rw [Ie b (by omega),hz5 b hb]
        ·obtain rfl:=List.mem_singleton.1 hD
         exact ⟨k3 _ (.inr rfl),Nat.le_refl _,by rw [Ie _ (by omega)]; exact hD3⟩
        ·have:s.next+2≤s'.next:=k8
         show s.next≤s'.next
         omega
        ·intro n0 Z0 hn hf
         have hf1:Fen n0 Z0 (m.up s.next (.lp (w.heap.size+1) rc)) (fun b=>Z b∨b=w.heap.size):=⟨fun i p b hi hb=>by
          by_cases e:i=s.next
          ·subst e
           rw [Mp.bg] at hi;cases hi;cases hb;omega
          ·rw [Mp.fR m _ e] at hi
           exact hf.1 i p b hi hb,fun b hb=>by
          rcases hb with hb|rfl
          ·exact hf.2 b hb
          ·exact .inr hn⟩
         obtain ⟨x1,x2⟩:=k11 n0 Z0 (by omega) hf1;exact ⟨x1,fun b hb=>by rw [Ie b (by omega),x2 b hb,hold b (by omega)]⟩
        ·intro i hi
         rw [k2 i (by show i<s.next+2; omega) (by omega),Mp.fR m _ (by omega)]
       ·cases hK
      ·cases hK
     ·cases hK
   ·rw [JP] at w1
    cases w1
  ·cases e
 ·cases e
theorem dP (hN:aX P) (hM:P.follows .mixedOrders=true) {Gv:gQ} (lg:j9 Gv) {pc:PC} (hP:Sq P Gv pc) {nt:Nat} {call:bf}: ∀ (c:Code) (fo:Option Nat) (I:n5),BK I→Has Gv I→eH P fo I call→(nU c=true∨fo=none∧bZ P Gv call)→ry P fo I nt (lI P call pc nt c) c
 | .skip,fo,I,hS,hH,hC,hR=>fun h s R K r e _ _ m Z w a hs hI Q hq=>wpIn_skip (hq .normal s m Z a w e hs (.refl ..) (fun _ _=>rfl))
 | .label l,fo,I,hS,hH,hC,hR=>fun h s R K r e _ _ m Z w a hs hI Q hq=>wpIn_label (hq .normal s m Z a w e hs (.refl ..) (fun _ _=>rfl))
 | .ret,fo,I,hS,hH,hC,hR=>fun h s R K r e _ _ m Z w a hs hI Q hq=>wpIn_ret (hq .ret s m Z a w e hs (.refl ..) (fun _ _=>rfl))
 | .exit id,fo,I,hS,hH,hC,hR=>fun h s R K r e _ _ m Z w a hs hI Q hq=>wpIn_exit (hq (.exit id) s m Z a w e hs (.refl ..) (fun _ _=>rfl))
 | .region id ops draw,fo,I,hS,hH,hC,hR=>rz (fun h s R K r e _ _ m Z w a hs hI Q hq=>by
   cases draw with
   |false=>exact JX hN hS hC e hs hI fun s' m' Z' a' w' k0 k1 k2 k3=>hq .normal s' m' Z' a' w' k0 k1 k2 k3
   |true=>
    dsimp only at e;split at e
    ·exact Sn hN hM hS hC e hs hI fun s' m' Z' a' w' k0 k1 k2 k3=>hq .normal s' m' Z' a' w' k0 k1 k2 k3
    ·exact Qa hN hM lg hS hH hC hP.par e hs hI fun s' m' Z' a' w' k0 k1 k2 k3=>hq .normal s' m' Z' a' w' k0 k1 k2 k3)
 | .seq x y,fo,I,hS,hH,hC,hR=>rz (fun h s R K r e n1 n2 m Z w a hs hI Q hq=>by
   refine wpIn_seq (dP hN hM lg hP x fo I hS hH hC (hR.imp (fun h=>(lF h).1) id) h.l s R _ r e n1 n2 m Z w a hs hI _ ?_);intro ex s' m' Z' a' w' e1 e2 e3 e4;cases ex with
   |normal=>
    show (y.wpIn (FR fo) 0 P Q) a' w'
    refine dP hN hM lg hP y fo I hS hH hC (hR.imp (fun h=>(lF h).2) id) h.r s' R K r e1 (e3.Dp.ne n1) (e3.Si.ne n2) m' Z' w' a' e2 (hS hI e3.ext e3.dF e3.keep) Q ?_;intro ex2 s2 m2 Z2 a2 w2 g1 g2 g3 g4;exact hq ex2 s2 m2 Z2 a2 w2 g1 g2 (e3.trans g3) (e4.trans e3.next g4)
   |_=>exact hq _ s' m' Z' a' w' e1 e2 e3 e4)
 | .cond c x y,fo,I,hS,hH,hC,hR=>rz (fun h s R K r e n1 n2 m Z w a hs hI Q hq=>by
   split at e
   ·rename_i q hc
    have hc':a.eval c= .bool q:=az hs.tr hc;split at e
    ·exact wpIn_cond_true hc' (dP hN hM lg hP x fo I hS hH hC (hR.imp (fun h=>(lF h).1) id) h.l s R K r e n1 n2 m Z w a hs hI Q hq)
    ·exact wpIn_cond_false hc' (dP hN hM lg hP y fo I hS hH hC (hR.imp (fun h=>(lF h).2) id) h.r s R K r e n1 n2 m Z w a hs hI Q hq)
   ·cases e)
 | .block id b,fo,I,hS,hH,hC,hR=>rz (fun h s R K r e n1 n2 m Z w a hs hI Q hq=>by
   refine wpIn_block (dP hN hM lg hP b fo I hS hH hC hR h.l s R _ r e n1 n2 m Z w a hs hI _ ?_);intro ex s' m' Z' a' w' e1 e2 e3 e4;cases ex with
   |exit j=>
    show (if j=id then Q .normal a' w' else Q (.exit j) a' w')
    dsimp only at e1;split at e1
    ·rename_i hb
     rw [if_pos (br hb)];exact hq .normal s' m' Z' a' w' e1 e2 e3 e4
    ·rename_i hb
     rw [if_neg (fun e=>by subst e; simp at hb)];exact hq (.exit j) s' m' Z' a' w' e1 e2 e3 e4
   |_=>exact hq _ s' m' Z' a' w' e1 e2 e3 e4)
 | .loop b,fo,I,hS,hH,hC,hR=>Qh hS (dP hN hM lg hP b fo I hS hH hC hR)
 | .goto l,_,_,_,_,_,_=>fun h s R K r e=>by cases e
 | .scope b,_,_,_,_,_,_=>fun h s R K r e=>by cases e
 | .refuse t,_,_,_,_,_,_=>fun h s R K r e=>by cases e
 | .rangeFunc g ps x y,fo,I,hS,hH,hC,hR=>by
  rcases hR with h|⟨rfl,Un⟩
  ·cases h
  ·by_cases hq:nU x=true∧nU y=true
   ·exact Qk hN lg Un hP (fun l=>dP hN hM lg hP x (some l) (gI Gv) (q_ lg) (xg Gv) (Un _ _ (q_ lg) (xg Gv)) (.inl hq.1)) (fun l=>dP hN hM lg hP y (some l) (gI Gv) (q_ lg) (xg Gv) (Un _ _ (q_ lg) (xg Gv)) (.inl hq.2)) hH
   ·intro h s R K r e
    simp only [lI] at e;split at e
    ·rename_i q1 q2 _; exact absurd ⟨q1,q2⟩ hq
    ·cases e
end Go.Sy
namespace Go.Sy
open Go.Sim (Tr aV bM bA bL br ef cx cY FR Ey aX fq Ex bN)
open Go.RowKit (Below)
variable {P:Program}
def Sr (l:List Value) (v:Value):Prop:=l=[v]∨((∀ x,l≠[x])∧v= .tuple ⟨l⟩)
theorem As {m:Mp} {Z:Nat→Prop} {w:World} {nt:Nat} {s:St} {a:Act} (h:SR P m Z w nt s a): ∀ {l:List ResultVar} {vs:List AV},DJ P s l=some vs→ ∃ us,bu P m w Z vs us∧
  (l.mapM (fun x:ResultVar=>match x with
  | .tmp t=>pure (a.tmps.getD t undef)
  | .cell b t=>do loadVar t (← asAddr (a.tmps.getD b undef)):ResultVar→Sem Value)).run P w= .ok us w
 |[],vs,e=>by simp only [DJ,Option.some.injEq] at e; subst e; exact ⟨[],trivial,by simp⟩
 | .tmp t::l,vs,e=>by
  simp only [DJ] at e;split at e
  ·rename_i v r hv hr
   cases e;obtain ⟨us,h1,h2⟩:=As h hr;obtain ⟨u,h3,h4⟩:=h.tr.get t v hv;refine ⟨u::us,⟨h4,h1⟩, ?_⟩;rw [List.mapM_cons];simp only [Sem.run_bind,Sem.run_pure,Result.andThen_ok,h2];rw [Array.getD_eq_getD_getElem?,h3]; rfl
  ·cases e
 | .cell b t::l,vs,e=>by
  simp only [DJ] at e;split at e
  ·rename_i i off hb
   split at e
   ·rename_i c wh acN
    split at e
    ·rename_i v r hv hr
     cases e;obtain ⟨us,h1,h2⟩:=As h hr;obtain ⟨u,h3,h4⟩:=h.tr.get b _ hb;obtain ⟨bb,g1,rfl⟩:=h4;obtain ⟨b',g3,g4,cc,ty,fz,g5,g6,g7,g8⟩:=M_ (h.rel.obj i _ (gq acN)) g1;rw [g1] at g3; cases g3;obtain ⟨q1,q2⟩:=xh hv g7 (by simpa using g8);have h7:=BL (P:=P) (w:=w) (b:=bb) (o:=0) (off:=off) (vs:=cc.toList) (fun j v hj=>by simp [World.cell?,g5]; simpa using hj) q2;rw [Nat.zero_add] at h7;refine ⟨tE P t cc.toList off::us,⟨q1,h1⟩, ?_⟩;rw [List.mapM_cons];have h8:(do loadVar t (← asAddr (a.tmps.getD b undef)):Sem Value).run P w= .ok (tE P t cc.toList off) w:=by
      rw [Array.getD_eq_getD_getElem?,h3]; simp [asAddr,h7]
     simp only [Sem.run_bind] at h8;simp only [Sem.run_bind,Sem.run_pure,Result.andThen_ok,h2,h8]
    ·cases e
   ·cases e
  ·cases e
theorem finish {m:Mp} {Z:Nat→Prop} {w:World} {nt:Nat} {s:St} {a:Act} (h:SR P m Z w nt s a) {fn:Func} {vs:List AV} (e:DJ P s fn.results.toList=some vs): ∃ us v,bu P m w Z vs us∧Sr us v∧(results fn a.tmps).run P w= .ok v w:=by
 obtain ⟨us,h1,h2⟩:=As h e;have hm:(fn.results.mapM (fun x:ResultVar=>match x with
  | .tmp t=>pure (a.tmps.getD t undef)
  | .cell b t=>do loadVar t (← asAddr (a.tmps.getD b undef)):ResultVar→Sem Value)).run P w= .ok ⟨us⟩ w:=by
  rw [Array.mapM_eq_mapM_toList];simp only [Sem.run_map,Sem.run_pure]
  erw [h2]
  rfl
 by_cases h3: ∃ x,us=[x]
 ·obtain ⟨x,rfl⟩:=h3
  refine ⟨[x],x,h1, .inl rfl, ?_⟩;simp only [results,Sem.run_bind]
  erw [hm]
  rfl
 ·refine ⟨us, .tuple ⟨us⟩,h1, .inr ⟨fun x hx=>h3 ⟨x,hx⟩,rfl⟩, ?_⟩
  simp only [results,Sem.run_bind]
  erw [hm]
  simp only [Result.andThen_ok];have hl1: ¬ (us.toArray.size=1):=by
   simp only [List.size_toArray];intro h1l;obtain ⟨u,rfl⟩:=List.length_eq_one_iff.1 h1l;exact h3 ⟨u,rfl⟩
  rw [dif_neg hl1];rfl
structure JZ (w w':World) (ds:List Nat):Prop where
 sc:bY w w'
 size:w'.heap.size=w.heap.size
 os:w'.os=w.os
 tape:w'.tape=w.tape
 output:w'.output=w.output
 off: ∀ b,b∉ds→w'.heap[b]? =w.heap[b]?
theorem rC {fn:Func} {tmps:Array Value} {R:Ending→World→Prop}: ∀ (ds:List Nat) (w:World),ds.Nodup→(∀ D∈ds,w.heap[D]? =some (Obj.deferred (some [])))→
  (∀ w',JZ w w' ds→ ∃ v,(results fn tmps).run P w'= .ok v w'∧R (.returned v) w')→LeavesInM (FR none) 0 P fn tmps R (ds.map Sim.mk) .returning w
 |[],w,_,_,hq=>by
  obtain ⟨v,h1,h2⟩:=hq w ⟨.refl _,rfl,rfl,rfl,rfl,fun _ _=>rfl⟩;exact ⟨v,h1,h2⟩
 |D::ds,w,hnd,k,hq=>by
  have hk:=k D (by simp);rw [List.nodup_cons] at hnd;refine ⟨by simp, .inl ⟨D,w.putObj D (.deferred none),rfl,run_takeDeferred hk, ?_⟩⟩;refine rC ds _ hnd.2 (fun E hE=> ?_) fun w' t=>hq w' ?_
  ·rw [World.putObj_heap_other (fun e:E=D=>hnd.1 (e ▸ hE))]
   exact k E (by simp [hE])
  ·have sc:bY w (w.putObj D (.deferred none)):= .putObj (fun cc ty fr h=>by rw [hk] at h; cases h) (fun es ck h=>by rw [hk] at h; cases h)
   refine ⟨sc.trans t.sc,by rw [t.size,World.putObj_size],t.os,t.tape,t.output,fun b hb=> ?_⟩;simp only [List.mem_cons,not_or] at hb;rw [t.off b hb.2,World.putObj_heap_other hb.1]
theorem SR.acQ {m:Mp} {Z:Nat→Prop} {w w':World} {nt:Nat} {s:St} {a:Act} {ds:List Nat} (h:SR P m Z w nt s a) (t:JZ w w' ds) (hds: ∀ D∈ds,w.heap[D]? =some (Obj.deferred (some []))):SR P m Z w' nt s a:=
 ⟨h.rel.other t.sc (.refl _ _) (fun _ h=>h) (Nat.le_of_eq t.size.symm) (fun k o b rc q _ _ hb=>by
  rw [t.off b fun hm=>by rw [hds b hm] at hb; cases hb]; exact hb),h.tr.other t.sc (.refl _ _),h.fresh⟩
theorem JZ.below {w0 w w':World} {ds:List Nat} (t:JZ w w' ds) (h:Below w0.heap.size w0 w) (hd: ∀ D∈ds,w0.heap.size≤D):Below w0.heap.size w0 w':=
 ⟨t.os.trans h.os,t.tape.trans h.tape,t.output.trans h.output,by rw [t.size]; exact h.size,fun k hk=>by rw [t.off k (fun hm=>by have:=hd k hm; omega)]; exact h.block k hk⟩
theorem JZ.keep {Z:Nat→Prop} {w0 w w':World} {ds:List Nat} (t:JZ w w' ds) (h:fH Z w0 w) (hd: ∀ D∈ds, ¬ Z D):fH Z w0 w':=
 ⟨t.os.trans h.os,t.tape.trans h.tape,t.output.trans h.output,by rw [t.size]; exact h.size,fun k hk=>by rw [t.off k (fun hm=>hd k hm hk)]; exact h.heap k hk⟩
end Go.Sy
namespace Go.Sy
open Go.Sim (Tr aV bM bA bL br ef cx cY FR Ey aX fq Ex bN)
open Go.RowKit (Below)
variable {P:Program}
theorem xw {m:Mp} {Z:Nat→Prop} {w:World} {ρ:List PV} {args:List Value}: ∀ {ts:List TypeId} {k:Nat} {T T':Tr (Option AV)},K8 P ts ρ k T=some T'→k+ts.length=args.length→(∀ i t v,ts[i]? =some t→args[k+i]? =some v→cu P w Z t v (nth ρ (k+i)))→
  (∀ t v,T.get t=some (some v)→ ∃ u,args[t]? =some u∧bD P m w Z v u)→ ∀ t v,T'.get t=some (some v)→ ∃ u,args[t]? =some u∧bD P m w Z v u
 |[],k,T,T',e,hl,ha,hT,t,v,ht=>by
  simp only [K8,Option.some.injEq] at e;subst e;exact hT t v ht
 |t0::ts,k,T,T',e,hl,ha,hT,t,v,ht=>by
  simp only [K8] at e;split at e
  ·rename_i v0 Yd
   simp only [List.length_cons] at hl;have hk:args[k]? =some (args[k]'(by omega)):=List.getElem?_eq_getElem (by omega);refine xw e (by omega) (fun i t v h1 h2=> ?_) (fun x y hx=> ?_) t v ht
   ·rw [show k+1+i=k+(i+1) by omega] at h2 ⊢
    exact ha (i+1) t v (by simpa using h1) h2
   ·rw [Tr.bn] at hx
    by_cases e:k=x
    ·subst e
     rw [if_pos rfl] at hx;simp only [Option.some.injEq] at hx;subst hx;exact ⟨_,hk,jN (ha 0 t0 _ rfl hk) Yd⟩
    ·rw [if_neg e] at hx
     exact hT x y hx
  ·cases e
theorem Vy (hN:aX P) (hM:P.follows .mixedOrders=true) {Gv:gQ} (lg:j9 Gv) {call:bf} {pc:PC} (hC:bZ P Gv call) (hP:Sq P Gv pc) {f:FuncId} {h:Hint} {ρ ρ':List PV} (e:fnK P call pc f h ρ=some ρ') {fn:Func} (hfn:P.funcs[f]? =some fn) {w:World} {args:List Value} (hlen:args.length=fn.params.toList.length) {Z0:Nat→Prop} (hz0: ∀ b,Z0 b→b<w.heap.size) (hg0:Gv Z0 w)
  (ha: ∀ j t v,fn.params.toList[j]? =some t→args[j]? =some v→cu P w Z0 t v (nth ρ j)):
  Calls P f ⟨args⟩ w (fun e w'=> ∃ (us:List Value) (v:Value) (Z':Nat→Prop),e= .returned v∧Below w.heap.size w w'∧Sr us v∧(∀ b,Z' b→b<w'.heap.size)∧(∀ b,Z0 b→Z' b)∧(∀ b,Z' b→Z0 b∨w.heap.size≤b)∧us.length=fn.resultTypes.toList.length∧ρ'.length=us.length∧ ∀ (j:Nat) (t:TypeId) (u:Value) (p:PV),fn.resultTypes.toList[j]? =some t→us[j]? =some u→ρ'[j]? =some p→cu P w' Z' t u p):=by
 unfold fnK at e;rw [hfn] at e;dsimp only at e;split at e
 ·rename_i c T hb hT hle
  have hle:=cx hle;refine (bN (ρ:=none) (n:=0)).1 (callsIn_of_wp_marks hfn hb trivial ?_);have hs:SR P (fun _=>none) Z0 w fn.ntmps ⟨[T],[.e],0⟩ {tmps:=(⟨args⟩:Array Value)++Array.replicate (fn.ntmps - (⟨args⟩:Array Value).size) undef,defers:=[]}:=by
   refine ⟨⟨hz0,fun i o hi=> ?_,fun i j o o' p q b hi=> ?_⟩,⟨by simp; omega,fun t v ht=> ?_⟩,fun _ _=>rfl⟩
   ·cases hi
   ·cases hi
   ·rw [cN] at ht
    cases hg:T.get t with
    |none=>rw [hg] at ht; cases ht
    |some x=>
     rw [hg] at ht;have ht:x=some v:=ht;subst ht;obtain ⟨u,h1,h2⟩:=xw (m:=fun _=>none) (args:=args) hT (by omega) (fun i t v h1 h2=>by rw [Nat.zero_add] at h2 ⊢; exact ha i t v h1 h2) (fun t v h=>by cases h) t v hg;refine ⟨u, ?_,h2⟩;have hlt:=(List.getElem?_eq_some_iff.1 h1).1;rw [Array.getElem?_append_left (by simpa using hlt)];simpa using h1
  refine dP hN hM lg hP c none (gI Gv) (q_ lg) (xg Gv) (hC _ _ (q_ lg) (xg Gv)) (.inr ⟨rfl,hC⟩) h _ _ _ _ e (by simp) (by simp) _ _ _ _ hs hg0 _ ?_;intro ex s' m' Z' a' w' e1 e2 e3 e4;obtain ⟨fe,fw⟩:=e3.Ak w.heap.size Z0 (Nat.le_refl _) ⟨(fun i p b hi=>by cases hi),fun b hb=> .inl hb⟩;obtain ⟨ds,hd,hnd,hds⟩:=e3.defers;have hd:a'.defers=ds.map Sim.mk:=by rw [hd]; exact List.append_nil _
  have fin:(match DJ P s' fn.results.toList with
    |some vs=>match EF P s' fn.resultTypes.toList vs with
     |some r=>match nodup (ij P fn.resultTypes.toList vs) with
      |true=>some r
      |false=>none
     |none=>none
    |none=>none)=some ρ'→ ∀ w2,JZ w' w2 ds→ ∃ v,(results fn a'.tmps).run P w2= .ok v w2∧ ∃ (us:List Value) (v1:Value) (Z':Nat→Prop),Ending.returned v= .returned v1∧Below w.heap.size w w2∧Sr us v1∧(∀ b,Z' b→b<w2.heap.size)∧(∀ b,Z0 b→Z' b)∧(∀ b,Z' b→Z0 b∨w.heap.size≤b)∧us.length=fn.resultTypes.toList.length∧ρ'.length=us.length∧ ∀ (j:Nat) (t:TypeId) (u:Value) (p:PV),fn.resultTypes.toList[j]? =some t→us[j]? =some u→ρ'[j]? =some p→cu P w2 Z' t u p:=by
   intro e4 w2 tk;have Uo:=e2.acQ tk (fun D hD=>(hds D hD).2.2);split at e4
   ·rename_i vs hvs
    split at e4
    ·rename_i r hr
     split at e4
     ·rename_i hnd
      cases e4;obtain ⟨us,v,g1,g2,g3⟩:=finish Uo hvs;obtain ⟨k1,k2,k3,k4⟩:=qX Uo.rel g1 hr;refine ⟨v,g3,us,v,Zo m' (ij P fn.resultTypes.toList vs) Z',rfl,tk.below ⟨e3.keep.os,e3.keep.tape,e3.keep.output,e3.keep.size,fun k hk=>fw k hk⟩ (fun D hD=>(hds D hD).2.1),g2,fun b hb=> ?_,fun b hb=> .inl (e3.dF b hb),fun b hb=> ?_,k1.symm,k2,k3⟩;rcases Zo.old (w:=w2) k4 hb with h|h|⟨i,o,p,h1,h2,h3⟩
      ·exact Uo.rel.zb b h
      ·rcases hb with hb|⟨i,hi,o,n,c,hm⟩
       ·exact Uo.rel.zb b hb
       ·obtain ⟨q,hq⟩:=k4 i hi
        exact ((Uo.rel.obj i q hq).eC hm rfl).1
      ·exact ((Uo.rel.obj i o h1).eC h2 h3).1
      ·rcases hb with hb|⟨i,_,o,n,c,hm⟩
       ·exact fe.2 b hb
       ·exact .inr (fe.1 i _ b hm rfl)
     ·cases e4
    ·cases e4
   ·cases e4
  have leave:(∀ w2,JZ w' w2 ds→ ∃ v,(results fn a'.tmps).run P w2= .ok v w2∧ ∃ (us:List Value) (v1:Value) (Z':Nat→Prop),Ending.returned v= .returned v1∧Below w.heap.size w w2∧Sr us v1∧(∀ b,Z' b→b<w2.heap.size)∧(∀ b,Z0 b→Z' b)∧(∀ b,Z' b→Z0 b∨w.heap.size≤b)∧us.length=fn.resultTypes.toList.length∧ρ'.length=us.length∧ ∀ (j:Nat) (t:TypeId) (u:Value) (p:PV),fn.resultTypes.toList[j]? =some t→us[j]? =some u→ρ'[j]? =some p→cu P w2 Z' t u p)→
    LeavesInM (FR none) 0 P fn a'.tmps (fun e w'=> ∃ (us:List Value) (v:Value) (Z':Nat→Prop),e= .returned v∧Below w.heap.size w w'∧Sr us v∧(∀ b,Z' b→b<w'.heap.size)∧(∀ b,Z0 b→Z' b)∧(∀ b,Z' b→Z0 b∨w.heap.size≤b)∧us.length=fn.resultTypes.toList.length∧ρ'.length=us.length∧ ∀ (j:Nat) (t:TypeId) (u:Value) (p:PV),fn.resultTypes.toList[j]? =some t→us[j]? =some u→ρ'[j]? =some p→cu P w' Z' t u p) a'.defers .returning w':=by
   intro hq;rw [hd];exact rC ds w' hnd (fun D hD=>(hds D hD).2.2) hq
  cases ex with
  |goto l=>cases e1
  |exit id=>cases e1
  |normal=>exact leave (fin e1)
  |ret=>exact leave (fin e1)
 ·cases e
end Go.Sy
namespace Go.Sy
open Go.Sim (Tr aV bM bA bL br ef cx cY FR Ey aX)
variable {P:Program}
theorem u6 {Gv:gQ} (q:Bool):cV P Gv q BC:=⟨(fun e=>by cases e),(fun e=>by cases e)⟩
theorem cV.ok {Gv:gQ} {q:Bool} {call:bf} (h:cV P Gv q call) (hs: ∀ {f:AV} {l:List AV} {s s':St} {fr:Nat} {v:AV},call f l s fr K1=some (v,s')→s'.tm=s.tm∧s'.next=s.next∧cR s.ob s'.ob) (hl: ∀ {R:Type} {K:AV→St→Option R} {g:Nat} {off:Int} {l:List AV} {s:St} {fr:Nat},call (.gp g off) l s fr K=none):bZ P Gv call:=fun fo I hS hH=>{
 ld:=fun e=>by cases (hl.symm.trans e)
 run:=by
  intro R K r f l s fr e zl m Z w fv lv hr hf hl hm hfr hfresh hI;obtain ⟨v,s',h1,h2,_⟩:=h.par e;obtain ⟨g,vs,fn,c,q1,q2,q3,q4⟩:=h.run h1 zl hr hf hl hm hfresh (hH hI);obtain ⟨t1,t2,t3⟩:=hs h1;refine .inl ⟨g,vs,fn,c,q1,q2,q3,q4.mono ?_⟩;rintro e w' ⟨v',m',Z',rfl,k1,k2,k3⟩;refine ⟨v',v,s',m',Z',rfl,h2,k1.ext,fun i _ hi=>k1.off i hi,k1.dF,k1.keep,k2,k3,t1,by rw [t2]; exact Nat.le_refl _,fun j hj=> ?_,t3,k1.Ak⟩;rw [t2] at hj;rw [k1.off j (by omega)];exact hfresh j hj}
abbrev yZ:=List (Nat×TypeId×List PV)
def acR:yZ→Nat→Option (TypeId×List PV)
 |[],_=>none
 |(h,e,l)::r,g=>match Nat.beq g h with
  |true=>some (e,l)
  |false=>acR r g
def Ss (P:Program) (G:yZ):gQ:=fun Z w=> ∀ g e l,acR G g=some (e,l)→Z g∧ ∀ i p,l[i]? =some p→ ∃ u,w.cell? ⟨g,i,none⟩=some u∧jM P w Z e u p
theorem i5 (G:yZ):j9 (Ss P G):=⟨fun {Z Z' w w'} h hz hk g e l hg=>by
 obtain ⟨h1,h2⟩:=h g e l hg;refine ⟨hz g h1,fun i p hi=> ?_⟩;obtain ⟨u,h3,h4⟩:=h2 i p hi;exact ⟨u,by rw [yF (hk.heap g h1)]; exact h3,h4.mono hk.heap hz⟩⟩
noncomputable def tJ (P:Program) (G:yZ) (rest:bf):bf:=fun f l s fr K=>match f with
 | .gp g off=>match l,acR G g with
  |[.int _ t],some (e,d)=>match bM P t.toNat,Nat.beq t.toNat e with
   |some false,true=>aC (bp off d.length) (andThen (Ag P e (rd d off)) fun v=>K v s)
   |_,_=>none
  |_,_=>none
 |f=>rest f l s fr K
theorem Yo {G:yZ} {rest:bf} (hR:bZ P (Ss P G) rest):bZ P (Ss P G) (tJ P G rest):=fun fo I hS hH=>{
 run:=by
  intro R K r f l s fr e zl m Z w fv lv hr hf hl hm hfr hfresh hI;cases f with
  |gp g off=>cases zl
  |_=>exact (hR fo I hS hH).run e rfl hr hf hl hm hfr hfresh hI
 ld:=by
  intro R K r g t off s fr e m Z w hI;simp only [tJ] at e;split at e
  ·rename_i k t' ty d h1 h2
   cases h1;split at e
   ·rename_i ha hb
    obtain ⟨i1,e⟩:=cC e;obtain ⟨v,e1,e2⟩:=aG e;obtain ⟨i2,i3⟩:=uW i1;simp only [Int.toNat_natCast] at ha hb;obtain rfl:=br hb;have hk:off.toNat<d.length:=by omega
    obtain ⟨_,h4⟩:=hH hI g _ d h2;obtain ⟨u,h5,h6⟩:=h4 off.toNat d[off.toNat] (by simp [hk]);rw [rd_eq i2 i3] at e1;refine ⟨v,u,e2,uU h6 e1, ?_⟩;simp [loadVar,Sim.cJ ha,h5]
   ·cases e
  ·cases e}
end Go.Sy
namespace Go.Sy
open Go.Sim (Tr aV bM bA bL br ef cx cY FR Ey aX)
open Go.RowKit (Below)
variable {P:Program}
def aaz (P:Program) (res:List TypeId) (Z0:Nat→Prop) (w:World) (ρ':List PV) (e:Ending) (w':World):Prop:=
 ∃ (us:List Value) (v:Value) (Z':Nat→Prop),e= .returned v∧Below w.heap.size w w'∧Sr us v∧(∀ b,Z' b→b<w'.heap.size)∧(∀ b,Z0 b→Z' b)∧(∀ b,Z' b→Z0 b∨w.heap.size≤b)∧us.length=res.length∧ρ'.length=us.length∧
  ∀ (j:Nat) (t:TypeId) (u:Value) (p:PV),res[j]? =some t→us[j]? =some u→ρ'[j]? =some p→cu P w' Z' t u p
structure Ls (P:Program) (Gv:gQ) (c:Con):Prop where
 fn: ∃ fn code,P.funcs[c.f]? =some fn∧fn.body=some code
 run: ∀ ρ ρ',c.F ρ=some ρ'→ ∀ (w:World) (args:List Value) (Z0:Nat→Prop),(∀ b,Z0 b→b<w.heap.size)→Gv Z0 w→args.length=c.params.length→(∀ j t v,c.params[j]? =some t→args[j]? =some v→cu P w Z0 t v (nth ρ j))→
  Calls P c.f ⟨args⟩ w (aaz P c.res Z0 w ρ')
theorem Su (hN:aX P) (hM:P.follows .mixedOrders=true) {Gv:gQ} (lg:j9 Gv) {call:bf} {pc:PC} (hC:bZ P Gv call) (hP:Sq P Gv pc) {f:FuncId} {h:Hint} {F:List PV→Option (List PV)} (e: ∀ ρ,fnK P call pc f h ρ=F ρ) {fn:Func} (hfn:P.funcs[f]? =some fn) {code:Code} (hb:fn.body=some code) {ps rs:List TypeId} (hps:fn.params.toList=ps) (hrs:fn.resultTypes.toList=rs):
  Ls P Gv ⟨f,ps,rs,F⟩:=by
 subst hps hrs;refine ⟨⟨fn,code,hfn,hb⟩,fun ρ ρ' hF w args Z0 hz hg hlen ha=> ?_⟩;have e1:fnK P call pc f h ρ=some ρ':=(e ρ).trans hF;exact Vy hN hM lg hC hP e1 hfn hlen hz hg ha
theorem xx {m:Mp} {w:World} {Z:Nat→Prop} {ρ:List PV}: ∀ {ts:List TypeId} {us:List Value} {k:Nat} {vs:List AV},us.length=ts.length→(∀ (j:Nat) (t:TypeId) (u:Value),ts[j]? =some t→us[j]? =some u→cu P w Z t u (nth ρ (k+j)))→PO P ts ρ k=some vs→bu P m w Z vs us
 |[],[],k,vs,_,_,e=>by simp only [PO,Option.some.injEq] at e; subst e; trivial
 |t::ts,u::us,k,vs,hl,h,e=>by
  simp only [PO] at e;split at e
  ·rename_i v l h1 h2
   cases e;refine ⟨jN (h 0 t u rfl rfl) h1,xx (by simpa using hl) (fun j t u a b=> ?_) h2⟩;have:=h (j+1) t u (by simpa using a) (by simpa using b);rw [show k+1+j=k+(j+1) by omega]; exact this
  ·cases e
 |[],_::_,_,_,hl,_,_=>by simp at hl
 |_::_,[],_,_,hl,_,_=>by simp at hl
theorem EU {m:Mp} {w:World} {Z:Nat→Prop} {vs:List AV} {us:List Value} {v:Value} (h:bu P m w Z vs us) (hr:Sr us v):bD P m w Z (K9 vs) v:=by
 have hl:=ct h;rcases hr with rfl|⟨h1,rfl⟩
 ·obtain ⟨x,rfl⟩: ∃ x,vs=[x]:=List.length_eq_one_iff.1 (by simpa using hl)
  exact h.1
 ·have:K9 vs= .pT vs:=by
   match vs,hl with
   |[],_=>rfl
   |[x],hl=>
    obtain ⟨y,rfl⟩: ∃ y,us=[y]:=List.length_eq_one_iff.1 (by simpa using hl.symm);exact absurd rfl (h1 y)
   |x::y::l,_=>rfl
  rw [this];exact ⟨us,rfl,h⟩
theorem jM.flat {w:World} {Z Z':Nat→Prop} {t:TypeId} {v:Value} {p:PV} (h:jM P w Z t v p) (ht: ∀ e,P.underlying t≠some (.slice e)):jM P w Z' t v p:=by
 cases h with
 |int h1 h2=>exact .int h1 h2
 |bool h1=>exact .bool h1
 |str h1 h2=>exact .str h1 h2
 |nil h1=>exact absurd h1 (ht _)
 |sl h1=>exact absurd h1 (ht _)
theorem DR {t:TypeId} (h:zj P t=true) {u:TypeId} (hu:u∈aI P t): ∀ e,P.underlying u≠some (.slice e):=by
 intro e he;unfold zj at h;have:=List.all_eq_true.1 h u hu;rw [he] at this;cases this
theorem cu.flat {w:World} {Z Z':Nat→Prop} {t:TypeId} {v:Value} {p:PV} (h:cu P w Z t v p) (ht:zj P t=true):cu P w Z' t v p:=by
 unfold cu at*;cases hq:isAgg P t with
 |true=>
  rw [hq] at h;obtain ⟨vs,ps,h1,h2,h3,h4,h5⟩:=h;exact ⟨vs,ps,h1,h2,h3,h4,fun j t' x q a b c=>(h5 j t' x q a b c).flat (DR ht (List.mem_of_getElem? a))⟩
 |false=>
  rw [hq] at h;have h:jM P w Z t v p:=h;have hts:aI P t=[t]∨True:= .inr trivial;refine jM.flat h ?_;intro e he;have:aI P t=[t]:=by
   unfold aI dep;simp [tys,he]
  exact DR ht (by rw [this]; exact List.mem_singleton.2 rfl) e he
theorem DS {Gv:gQ} (lg:j9 Gv) {c:Con} (hc:Ls P Gv c) {rest:bf} (hR:cV P Gv false rest):cV P Gv false (BF P c rest) where
 par:=by
  intro R K r f l s fr e;unfold BF at e ⊢;split at e
  ·rename_i g cap
   dsimp only;split at e
   ·rename_i hg
    split at e
    ·rename_i ρ s1 h1 h2
     try rw [hg,h1,h2]
     refine .bind e fun ρ' h3 h4=> ?_
     split at h4
     ·rename_i vs h5
      try rw [h5]
      exact ⟨_,_,rfl,h4,fun h=>by cases h⟩
     ·cases h4
    ·cases e
   ·rename_i hg
    try rw [hg]
    exact hR.par e
  ·exact hR.par e
 run:=by
  intro f l s s' fr v e zl m Z w fv lv hr hf hl hm hfresh hg;unfold BF at e;split at e
  ·rename_i g cap
   split at e
   ·rename_i hgc
    obtain rfl:=br hgc;split at e
    ·rename_i ρ s1 h1 h2
     obtain ⟨ρ',h3,h4⟩:=aG e;split at h4
     ·rename_i vs h5
      cases h4;obtain ⟨fn,code,q1,q2⟩:=hc.fn;obtain ⟨cv,rfl,hcv⟩:=hf;have hargs:bu P m w Z (l++cap) (lv++cv):=gm hl hcv;obtain ⟨t1,t2,t3,t4⟩:=qX hr hargs h1;have hz0: ∀ b,Zo m (ij P c.params (l++cap)) Z b→b<w.heap.size:=(yY.freeze hr.ZD t4 (fun _=>rfl)).zb;have hrun:=fun (Z0:Nat→Prop) (hz: ∀ b,Z0 b→b<w.heap.size) (hg0:Gv Z0 w) (ha: ∀ j t v,c.params[j]? =some t→(lv++cv)[j]? =some v→cu P w Z0 t v (nth ρ j))=>hc.run ρ ρ' h3 w (lv++cv) Z0 hz hg0 t1.symm ha
      have acS: ∀ j t v,c.params[j]? =some t→(lv++cv)[j]? =some v→cu P w (Zo m (ij P c.params (l++cap)) Z) t v (nth ρ j):=fun j t v a b=>by
       have hlt:=(List.getElem?_eq_some_iff.1 b).1;have hj:j<ρ.length:=by omega
       have:nth ρ j=ρ[j]:=by simp [nth,hj]
       rw [this];exact t3 j t v _ a b (by simp [hj])
      refine ⟨_,cv,fn,code,rfl,q1,q2, ?_⟩;refine (hrun _ hz0 (lg.st hg (fun _ h=>Zo.sub h) (.refl _ _)) acS).mono ?_;rintro e w' ⟨us,v,Z',rfl,hB,hres,g1,g2,g3,g4,g5,g6⟩;have aeG: ∀ {j:Nat} {u:Value},us[j]? =some u→ρ'[j]? =some (nth ρ' j):=fun {j u} b=>by
       have hlt:=(List.getElem?_eq_some_iff.1 b).1;have hj:j<ρ'.length:=by omega
       simp [nth,hj]
      split at h2
      ·rename_i aeH
       cases h2;refine ⟨v,m,Z,rfl,⟨.refl m,fun _ _=>rfl,fun b hb=>hb,⟨hB.os,hB.tape,hB.output,hB.size,fun b hb=>hB.block b (hr.zb b hb)⟩,fun b hb _=>hB.block b hb,fun b hb=> .inl hb,fun p b h _=> .inl h⟩,⟨fun b hb=>Nat.lt_of_lt_of_le (hr.zb b hb) hB.size,fun i o hi=> ?_,hr.inj⟩,EU (xx g4 (fun j t u a b=> ?_) h5) hres⟩
       ·refine (hr.obj i o hi).mono (.refl m) (fun b hb=>hB.block b (hr.zb b hb)) (fun _ h=>h) fun q b hq hb=> ?_
        have zV:=(hr.obj i o hi).eC hq hb;exact ⟨hB.block b zV.1,fun h=>h⟩
       ·rw [Nat.zero_add]
        exact (g6 j t u _ a b (aeG b)).flat (List.all_eq_true.1 aeH t (List.mem_of_getElem? a))
      ·have rd:=Rel.drop hr t4 h2
       refine ⟨v,m,Z',rfl,⟨.refl m,fun _ _=>rfl,fun b hb=>g2 b (.inl hb),⟨hB.os,hB.tape,hB.output,hB.size,fun b hb=>hB.block b (hr.zb b hb)⟩,fun b hb _=>hB.block b hb,fun b hb=> ?_,fun p b h _=> .inl h⟩,⟨g1,fun i o hi=> ?_,rd.inj⟩,EU (xx g4 (fun j t u a b=> ?_) h5) hres⟩
       ·rcases g3 b hb with h|h
        ·exact Zo.old t4 h
        ·exact .inr (.inl h)
       ·refine (rd.obj i o hi).mono (.refl m) (fun b hb=>hB.block b (rd.zb b hb)) g2 fun q b hq hb=> ?_
        have zV:=(rd.obj i o hi).eC hq hb;refine ⟨hB.block b zV.1,fun hnz hz=> ?_⟩;rcases g3 b hz with h|h
        ·exact zV.2 h
        ·have:=zV.1; omega
       ·rw [Nat.zero_add]
        exact g6 j t u _ a b (aeG b)
     ·cases h4
    ·cases e
   ·exact hR.run e zl hr hf hl hm hfresh hg
  ·exact hR.run e zl hr hf hl hm hfresh hg
noncomputable def Up (P:Program) (c:Con) (rest:bf):bf:=fun f l s fr K=>match f with
 | .fn g cap=>match Nat.beq g c.f with
  |true=>match either (c.res.all (zj P)) (HH (ij P c.params (l++cap))) with
   |true=>BF P c BC (.fn g cap) l s fr K
   |false=>none
  |false=>rest f l s fr K
 |_=>rest f l s fr K
theorem Vz {Gv:gQ} (lg:j9 Gv) {c:Con} (hc:Ls P Gv c) {rest:bf} (hR:cV P Gv true rest):cV P Gv true (Up P c rest) where
 par:=by
  intro R K r f l s fr e;unfold Up at e ⊢;split at e
  ·rename_i g cap
   dsimp only;split at e
   ·rename_i hg
    split at e
    ·rename_i hq
     obtain ⟨v,s',h1,h2,_⟩:=(DS lg hc (u6 false)).par e;refine ⟨v,s',h1,h2,fun _=> ?_⟩;unfold BF at h1;dsimp only at h1;rw [hg] at h1;dsimp only at h1;split at h1
     ·rename_i ρ s1 k1 k2
      obtain ⟨ρ',k3,k4⟩:=aG h1;split at k4
      ·cases k4
       split at k2
       ·cases k2; exact .refl fr s
       ·rename_i hfl
        unfold either at hq;rw [hfl] at hq;dsimp only at hq;have:ij P c.params (l++cap)=[]:=by
         cases ho:ij P c.params (l++cap) with
         |nil=>rfl
         |cons a b=>rw [ho] at hq; cases hq
        rw [this] at k2;simp only [drop,Option.some.injEq] at k2;subst k2;exact .refl fr s
      ·cases k4
     ·cases h1
    ·cases e
   ·exact hR.par e
  ·exact hR.par e
 run:=by
  intro f l s s' fr v e zl m Z w fv lv hr hf hl hm hfresh hg;unfold Up at e;split at e
  ·split at e
   ·split at e
    ·exact (DS lg hc (u6 false)).run e rfl hr hf hl hm hfresh hg
    ·cases e
   ·exact hR.run e zl hr hf hl hm hfresh hg
  ·exact hR.run e zl hr hf hl hm hfresh hg
def xy (call:bf):Prop:= ∀ {f:AV} {l:List AV} {s s':St} {fr:Nat} {v:AV},call f l s fr K1=some (v,s')→s'.tm=s.tm∧s'.next=s.next∧cR s.ob s'.ob
theorem VC:xy BC:=fun e=>by cases e
theorem Yp {c:Con} {rest:bf} (hR:xy rest):xy (BF P c rest):=by
 intro f l s s' fr v e
 replace e:BF P c rest f l s fr K1=some (v,s'):=e
 unfold BF at e;split at e
 ·split at e
  ·split at e
   ·rename_i ρ s1 h1 h2
    obtain ⟨ρ',h3,h4⟩:=aG e;split at h4
    ·cases h4
     split at h2
     ·cases h2; exact ⟨rfl,rfl, .refl _⟩
     ·obtain ⟨d1,d2,d3,_⟩:=iI h2
      exact ⟨d1,d2,d3⟩
    ·cases h4
   ·cases e
  ·exact hR e
 ·exact hR e
end Go.Sy
namespace Go.Sy
open Go.Sim (Tr aV bM bA bL br ef cx cY FR Ey aX bN Ex nU)
noncomputable section
variable {P:Program}
def Yq:List AV→Nat→Tr (Option AV)→Tr (Option AV)
 |[],_,T=>T
 |v::l,k,T=>Yq l (k+1) (T.set k (some v))
def shN (b i:Nat):Nat:=match Nat.ble 1000000 i with
 |true=>Nat.add (Nat.sub i 1000000) b
 |false=>i
def shA (b:Nat):AV→AV
 | .ptr i o=> .ptr (shN b i) o
 | .own i=> .own (shN b i)
 | .fn f c=> .fn f (shL b c)
 |v=>v
 where shL (b:Nat):List AV→List AV
 |[]=>[]
 |v::l=>shA b v::shL b l
def shP (b:Nat):uP→uP
 | .same v=> .same (shA b v)
 |h=>h
def acT (b:Nat) (S:Spec):Spec:=⟨S.slots.map fun p=>(p.1,shP b p.2),S.boxes.map fun p=>(shN b p.1,p.2.map (shP b)),S.cw⟩
def shH (b:Nat):Hint→Hint
 | .leaf=> .leaf
 | .two x y=> .two (shH b x) (shH b y)
 | .loop S x=> .loop (acT b S) (shH b x)
 | .meet S x=> .meet (acT b S) (shH b x)
 | .mD S x=> .mD (acT b S) (shH b x)
 | .any=> .any
def acU (P:Program) (call:bf) (pc:PC) (jo:FuncId→Option Hint) (rf:Bool) (rest:bf):bf:=fun f l s fr K=>match f with
 | .fn g cap=>match jo g with
  |some h=>match P.funcs[g]? with
   |some fn=>match fn.body,Nat.ble (l++cap).length fn.ntmps,HH s.ob with
    |some c,true,false=>match either rf (Sim.nU c) with
     |false=>none
     |true=>xe s.next fun n0=>lI P call pc fn.ntmps c (shH n0 h) ⟨[Yq (l++cap) 0 .e],s.ob,n0⟩ _ fun ex s'=>match ex with
     | .goto _=>none
     | .exit _=>none
     |_=>match DJ P s' fn.results.toList with
      |some vs=>K (K9 vs) {s' with tm:=s.tm}
      |none=>none
    |_,_,_=>none
   |none=>none
  |none=>rest f l s fr K
 |_=>rest f l s fr K
def Ql (P:Program) (C Q:bf) (jo:FuncId→Option Hint):Nat→Bool→bf→bf
 |0,_,B=>B
 |n+1,rf,B=>acU P (Ql P C Q jo n rf B) ⟨Q,fun y=>Ql P C Q jo n false (y C)⟩ jo rf B
def Lt (P:Program) (C Q:bf) (jo:FuncId→Option Hint) (n:Nat):bf:=Ql P C Q jo n true C
def pcA (P:Program) (C Q:bf) (jo:FuncId→Option Hint) (n:Nat):PC:=⟨Q,fun y=>Ql P C Q jo n false (y C)⟩
def fG:List (Nat×Hint)→FuncId→Option Hint
 |[],_=>none
 |(g,h)::l,f=>match Nat.beq g f with
  |true=>some h
  |false=>fG l f
theorem Ig {m:Mp} {Z:Nat→Prop} {w:World} {args:List Value}: ∀ {vs:List AV} {us:List Value} {k:Nat} {T:Tr (Option AV)},bu P m w Z vs us→(∀ i u,us[i]? =some u→args[k+i]? =some u)→
  (∀ t v,T.get t=some (some v)→ ∃ u,args[t]? =some u∧bD P m w Z v u)→ ∀ t v,(Yq vs k T).get t=some (some v)→ ∃ u,args[t]? =some u∧bD P m w Z v u
 |[],us,k,T,_,_,hT,t,v,ht=>hT t v ht
 |x::vs,[],k,T,h,_,_,_,_,_=>h.elim
 |x::vs,u::us,k,T,h,ha,hT,t,v,ht=>by
  refine Ig (us:=us) h.2 (fun i y hy=> ?_) (fun t v h1=> ?_) t v ht
  ·have:=ha (i+1) y (by simpa using hy)
   rw [show k+1+i=k+(i+1) by omega]; exact this
  ·rw [Tr.bn] at h1
   by_cases e:k=t
   ·subst e
    rw [if_pos rfl] at h1;cases h1;exact ⟨u,by have:=ha 0 u rfl; simpa using this,h.1⟩
   ·rw [if_neg e] at h1
    exact hT t v h1
theorem aaA (hN:aX P) (hM:P.follows .mixedOrders=true) {Gv:gQ} (lg:j9 Gv) {fo:Option Nat} {I:n5} (hS:BK I) (hH:Has Gv I) {call rest:bf} {pc:PC} (hC:eH P none I call) (hP:Sq P Gv pc) (hR:eH P fo I rest) (jo:FuncId→Option Hint) {rf:Bool} (hrf:rf=true→bZ P Gv call):eH P fo I (acU P call pc jo rf rest) where
 run:=by
  intro R K r f l s fr e zl m Z w fv lv hr hf hl hm hfr hfresh hI;unfold acU at e;split at e
  ·rename_i g cap
   split at e
   ·rename_i h htb
    split at e
    ·rename_i fn hfn
     split at e
     ·rename_i c hb hle qY
      split at e
      ·cases e
      ·rename_i agV
       rw [j6] at e;obtain ⟨vs,rfl,hvs⟩:=hf;refine .inl ⟨g,vs,fn,c,rfl,hfn,hb, ?_⟩;have hargs:bu P m w Z (l++cap) (lv++vs):=gm hl hvs;have hlen:=ct hargs;refine (bN (ρ:=none) (n:=0)).1 (callsIn_of_wp_marks hfn hb trivial ?_);have hs:SR P m Z w fn.ntmps ⟨[Yq (l++cap) 0 .e],s.ob,s.next⟩ {tmps:=(⟨lv++vs⟩:Array Value)++Array.replicate (fn.ntmps - (⟨lv++vs⟩:Array Value).size) undef,defers:=[]}:=by
        refine ⟨hr,⟨?_,fun t v ht=> ?_⟩,hfresh⟩
        ·have:=cx hle
         simp only [Array.size_append,Array.size_replicate,List.size_toArray];omega
        ·rw [cN] at ht
         cases hg:(Yq (l++cap) 0 .e).get t with
         |none=>rw [hg] at ht; cases ht
         |some x=>
          rw [hg] at ht;have ht:x=some v:=ht;subst ht;obtain ⟨u,h1,h2⟩:=Ig (args:=lv++vs) hargs (fun i u hu=>by rw [Nat.zero_add]; exact hu) (fun t v h=>by cases h) t v hg;refine ⟨u, ?_,h2⟩;have hlt:=(List.getElem?_eq_some_iff.1 h1).1;rw [Array.getElem?_append_left (by simpa using hlt)];simpa using h1
       have qY:s.ob≠[]:=fun h0=>by rw [h0] at qY; cases qY
       have hor:nU c=true∨(none:Option Nat)=none∧bZ P Gv call:=by
        cases rf with
        |true=>exact .inr ⟨rfl,hrf rfl⟩
        |false=>exact .inl agV
       refine dP hN hM lg hP c none I hS hH hC hor (shH s.next h) _ _ _ _ e (by simp) qY _ _ _ _ hs hI _ ?_
       intro ex s' m' Z' a' w' e1 e2 e3 e4;obtain ⟨ds,hd,hnd,hds⟩:=e3.defers;have hd:a'.defers=ds.map Sim.mk:=by rw [hd]; exact List.append_nil _
       have fin:(match DJ P s' fn.results.toList with
         |some vs=>K (K9 vs) {s' with tm:=s.tm}
         |none=>none)=some r→ ∀ w2,JZ w' w2 ds→ ∃ v,(results fn a'.tmps).run P w2= .ok v w2∧ ∃ v' v0 s2 m' Z',Ending.returned v= .returned v'∧K v0 s2=some r∧Ext m m'∧(∀ i,i<s.next→i≠fr→m' i=m i)∧(∀ b,Z b→Z' b)∧fH Z w w2∧Rel P m' Z' s2.ob w2∧bD P m' w2 Z' v0 v'∧s2.tm=s.tm∧s.next≤s2.next∧(∀ j,s2.next≤j→m' j=none)∧cR s.ob s2.ob∧iq m m' Z Z' w w2:=by
        intro e5 w2 tk;have Uo:=e2.acQ tk (fun D hD=>(hds D hD).2.2);split at e5
        ·rename_i vs hvs
         obtain ⟨us,v,g1,g2,g3⟩:=finish Uo hvs;refine ⟨v,g3,v,_,_,m',Z',rfl,e5,e3.ext,fun i hi _=>e4 i hi,e3.dF,tk.keep e3.keep (fun D hD hz=> ?_),Uo.rel, ?_,rfl,e3.next,e2.fresh,e3.Si, ?_⟩
         ·have h1:=(hds D hD).2.1
          have h2:=hr.zb D hz;omega
         ·have hl:=ct g1
          rcases g2 with rfl|⟨h1,rfl⟩
          ·obtain ⟨x,rfl⟩: ∃ x,vs=[x]:=List.length_eq_one_iff.1 (by simpa using hl)
           exact g1.1
          ·have:K9 vs= .pT vs:=by
            match vs,hl with
            |[],_=>rfl
            |[x],hl=>
             obtain ⟨y,rfl⟩: ∃ y,us=[y]:=List.length_eq_one_iff.1 (by simpa using hl.symm);exact absurd rfl (h1 y)
            |x::y::l,_=>rfl
           rw [this];exact ⟨us,rfl,g1⟩
         ·intro n0 Z0 hn hf
          obtain ⟨x1,x2⟩:=e3.Ak n0 Z0 hn hf;exact ⟨x1,fun b hb=>by rw [tk.off b (fun hm=>by have:=(hds b hm).2.1; omega)]; exact x2 b hb⟩
        ·cases e5
       have leave:=fun hq=>(hd ▸ rC (fn:=fn) (tmps:=a'.tmps) ds w' hnd (fun D hD=>(hds D hD).2.2) hq:LeavesInM (FR none) 0 P fn a'.tmps (fun e w2=> ∃ v' v0 s2 m' Z',e= .returned v'∧K v0 s2=some r∧Ext m m'∧(∀ i,i<s.next→i≠fr→m' i=m i)∧(∀ b,Z b→Z' b)∧fH Z w w2∧Rel P m' Z' s2.ob w2∧bD P m' w2 Z' v0 v'∧s2.tm=s.tm∧s.next≤s2.next∧(∀ j,s2.next≤j→m' j=none)∧cR s.ob s2.ob∧iq m m' Z Z' w w2) a'.defers .returning w')
       cases ex with
       |goto l=>cases e1
       |exit id=>cases e1
       |normal=>exact leave (fin e1)
       |ret=>exact leave (fin e1)
     ·cases e
    ·cases e
   ·exact hR.run e zl hr hf hl hm hfr hfresh hI
  ·exact hR.run e zl hr hf hl hm hfr hfresh hI
 ld:=by
  intro R K r g t off s fr e m Z w hI;exact hR.ld e hI
theorem xz (hN:aX P) (hM:P.follows .mixedOrders=true) {Gv:gQ} (lg:j9 Gv) {C:bf} (hC:bZ P Gv C) {Q:bf} (hP:cV P Gv true Q) (jo:FuncId→Option Hint): ∀ (n:Nat) (rf:Bool) (B:bf) (fo:Option Nat) (I:n5),BK I→Has Gv I→eH P none I B→eH P fo I B→(rf=true→bZ P Gv B)→eH P fo I (Ql P C Q jo n rf B)
 |0,rf,B,fo,I,hS,hH,h0,h1,h2=>h1
 |n+1,rf,B,fo,I,hS,hH,h0,h1,h2=>aaA hN hM lg hS hH (xz hN hM lg hC hP jo n rf B none I hS hH h0 h0 h2)
   ⟨hP,fun y J hJ hK hy=>xz hN hM lg hC hP jo n false (y C) none J hJ hK (hy C hC) (hy C hC) (fun h=>by cases h)⟩ h1 jo
   (fun h=>fun fo' J hJ hK=>xz hN hM lg hC hP jo n rf B fo' J hJ hK (h2 h _ _ hJ hK) (h2 h _ _ hJ hK) h2)
theorem Qm (hN:aX P) (hM:P.follows .mixedOrders=true) {Gv:gQ} (lg:j9 Gv) {C:bf} (hC:bZ P Gv C) {Q:bf} (hP:cV P Gv true Q) (jo:FuncId→Option Hint) (n:Nat):bZ P Gv (Lt P C Q jo n):=fun fo I hS hH=>
 xz hN hM lg hC hP jo n true C fo I hS hH (hC _ _ hS hH) (hC _ _ hS hH) (fun _=>hC)
theorem Yr (hN:aX P) (hM:P.follows .mixedOrders=true) {Gv:gQ} (lg:j9 Gv) {C:bf} (hC:bZ P Gv C) {Q:bf} (hP:cV P Gv true Q) (jo:FuncId→Option Hint) (n:Nat):Sq P Gv (pcA P C Q jo n):=
 ⟨hP,fun y J hJ hK hy=>xz hN hM lg hC hP jo n false (y C) none J hJ hK (hy C hC) (hy C hC) (fun h=>by cases h)⟩
end
end Go.Sy
namespace Go.Sy
open Go.Sim (Tr aV bM bA bL br ef cx cY FR Ey aX bN Ex)
open Go.RowKit (Below)
variable {P:Program}
noncomputable section
structure Ys where
 f:FuncId
 params:List TypeId
 e:TypeId
 F:List PV→Option (List PV)
def fnO (P:Program) (call:bf) (pc:PC) (f:FuncId) (el:TypeId) (h:Hint) (ρ:List PV):Option (List PV):=match P.funcs[f]? with
 |some fn=>match fn.body,K8 P fn.params.toList ρ 0 .e,Nat.ble fn.params.toList.length fn.ntmps with
  |some c,some T,true=>lI P call pc fn.ntmps c h ⟨[T],[.e],0⟩ _ fun ex s=>match ex with
   | .goto _=>none
   | .exit _=>none
   |_=>match DJ P s fn.results.toList with
    |some [.own i]=>match rowOf s i with
     |some (e',l)=>match Nat.beq el e' with
      |true=>some l
      |false=>none
     |none=>none
    |some [.wA (.slice none 0 0)]=>some []
    |_=>none
  |_,_,_=>none
 |none=>none
def BW (P:Program) (e:TypeId) (w:World) (l:List PV) (en:Ending) (w':World):Prop:=
 ∃ (ad:Option (Nat×Nat)) (c:Nat),en= .returned (.slice (addrOf ad) l.length c)∧Below w.heap.size w w'∧(∀ b,ad.map (·.1)=some b→w.heap.size≤b∧b<w'.heap.size)∧ ∀ Z:Nat→Prop,(∀ b,Z b→b<w.heap.size)→HM P w' Z e l ad c
structure Yt (P:Program) (Gv:gQ) (c:Ys):Prop where
 fn: ∃ fn code,P.funcs[c.f]? =some fn∧fn.body=some code
 flat:zj P c.e=true
 run: ∀ ρ l,c.F ρ=some l→ ∀ (w:World) (args:List Value) (Z0:Nat→Prop),(∀ b,Z0 b→b<w.heap.size)→Gv Z0 w→args.length=c.params.length→(∀ j t v,c.params[j]? =some t→args[j]? =some v→cu P w Z0 t v (nth ρ j))→
  Calls P c.f ⟨args⟩ w (BW P c.e w l)
theorem HM.flat {w:World} {Z Z':Nat→Prop} {e:TypeId} {l:List PV} {a:Option (Nat×Nat)} {c:Nat} (h:HM P w Z e l a c) (hf:zj P e=true) (hz: ∀ b,a.map (·.1)=some b→ ¬ Z' b):HM P w Z' e l a c:=by
 rcases h with h|⟨b,o,rfl,h1,cc,ty,fr,h2,h3,h4,h5,h6,h7,h8,h9⟩
 ·exact .inl h
 ·refine .inr ⟨b,o,rfl,hz b rfl,cc,ty,fr,h2,h3,h4,h5,h6,h7,h8,fun i j p t' a b=> ?_⟩
  obtain ⟨u,g1,g2⟩:=h9 i j p t' a b;exact ⟨u,g1,g2.flat (DR hf (List.mem_of_getElem? b))⟩
theorem VD (hN:aX P) (hM:P.follows .mixedOrders=true) {Gv:gQ} (lg:j9 Gv) {call:bf} {pc:PC} (hC:bZ P Gv call) (hP:Sq P Gv pc) {f:FuncId} {el:TypeId} (hfl:zj P el=true) {h:Hint} {ρ l:List PV} (e:fnO P call pc f el h ρ=some l) {fn:Func} (hfn:P.funcs[f]? =some fn) {w:World} {args:List Value} (hlen:args.length=fn.params.toList.length) {Z0:Nat→Prop} (hz0: ∀ b,Z0 b→b<w.heap.size) (hg0:Gv Z0 w)
  (ha: ∀ j t v,fn.params.toList[j]? =some t→args[j]? =some v→cu P w Z0 t v (nth ρ j)):Calls P f ⟨args⟩ w (BW P el w l):=by
 unfold fnO at e;rw [hfn] at e;dsimp only at e;split at e
 ·rename_i c T hb hT hle
  have hle:=cx hle;refine (bN (ρ:=none) (n:=0)).1 (callsIn_of_wp_marks hfn hb trivial ?_);have hs:SR P (fun _=>none) Z0 w fn.ntmps ⟨[T],[.e],0⟩ {tmps:=(⟨args⟩:Array Value)++Array.replicate (fn.ntmps - (⟨args⟩:Array Value).size) undef,defers:=[]}:=by
   refine ⟨⟨hz0,fun i o hi=> ?_,fun i j o o' p q b hi=> ?_⟩,⟨by simp; omega,fun t v ht=> ?_⟩,fun _ _=>rfl⟩
   ·cases hi
   ·cases hi
   ·rw [cN] at ht
    cases hg:T.get t with
    |none=>rw [hg] at ht; cases ht
    |some x=>
     rw [hg] at ht;have ht:x=some v:=ht;subst ht;obtain ⟨u,h1,h2⟩:=xw (m:=fun _=>none) (args:=args) hT (by omega) (fun i t v h1 h2=>by rw [Nat.zero_add] at h2 ⊢; exact ha i t v h1 h2) (fun t v h=>by cases h) t v hg;refine ⟨u, ?_,h2⟩;have hlt:=(List.getElem?_eq_some_iff.1 h1).1;rw [Array.getElem?_append_left (by simpa using hlt)];simpa using h1
  refine dP hN hM lg hP c none (gI Gv) (q_ lg) (xg Gv) (hC _ _ (q_ lg) (xg Gv)) (.inr ⟨rfl,hC⟩) h _ _ _ _ e (by simp) (by simp) _ _ _ _ hs hg0 _ ?_;intro ex s' m' Z' a' w' e1 e2 e3 e4;obtain ⟨fe,fw⟩:=e3.Ak w.heap.size Z0 (Nat.le_refl _) ⟨(fun i p b hi=>by cases hi),fun b hb=> .inl hb⟩;obtain ⟨ds,hd,hnd,hds⟩:=e3.defers;have hd:a'.defers=ds.map Sim.mk:=by rw [hd]; exact List.append_nil _
  have fin:(match DJ P s' fn.results.toList with
    |some [.own i]=>match rowOf s' i with
     |some (e',l)=>match Nat.beq el e' with
      |true=>some l
      |false=>none
     |none=>none
    |some [.wA (.slice none 0 0)]=>some []
    |_=>none)=some l→ ∀ w2,JZ w' w2 ds→ ∃ v,(results fn a'.tmps).run P w2= .ok v w2∧BW P el w l (.returned v) w2:=by
   intro e5 w2 tk;have Uo:=e2.acQ tk (fun D hD=>(hds D hD).2.2);have Yu:Below w.heap.size w w2:=tk.below ⟨e3.keep.os,e3.keep.tape,e3.keep.output,e3.keep.size,fun k hk=>fw k hk⟩ (fun D hD=>(hds D hD).2.1);split at e5
   ·rename_i i hvs
    obtain ⟨us,v,g1,g2,g3⟩:=finish Uo hvs
    match us,g1 with
    |[u],g1=>
     have hv:v=u:=by
      rcases g2 with g2|⟨g2,_⟩
      ·simpa using g2.symm
      ·exact absurd rfl (g2 _)
     subst hv;split at e5
     ·rename_i e' l' hrow
      split at e5
      ·rename_i hbe
       cases e5;obtain rfl:=br hbe;obtain ⟨a,c,k1,k3⟩:=Uo.rel.obj i _ (dD hrow);obtain rfl:=qW g1.1 k1;have ajm:=(Uo.rel.obj i _ (dD hrow));refine ⟨_,g3,a,c,rfl,Yu,fun b hb=>⟨fe.1 i _ b k1 hb,(ajm.eC k1 hb).1⟩,fun Z hZ=>k3.flat hfl fun b hb hz=> ?_⟩;have:=fe.1 i _ b k1 hb;have:=hZ b hz;omega
      ·cases e5
     ·cases e5
   ·rename_i hvs
    cases e5;obtain ⟨us,v,g1,g2,g3⟩:=finish Uo hvs
    match us,g1 with
    |[u],g1=>
     obtain ⟨rfl,_⟩:=g1.1;have hv:v= .slice none 0 0:=by
      rcases g2 with g2|⟨g2,_⟩
      ·simpa using g2.symm
      ·exact absurd rfl (g2 _)
     subst hv;exact ⟨_,g3,none,0,rfl,Yu,fun b hb=>(by cases hb),fun Z hZ=> .inl ⟨rfl,rfl,rfl⟩⟩
   ·cases e5
  have leave:=fun hq=>(hd ▸ rC (fn:=fn) (tmps:=a'.tmps) ds w' hnd (fun D hD=>(hds D hD).2.2) hq:LeavesInM (FR none) 0 P fn a'.tmps (BW P el w l) a'.defers .returning w')
  cases ex with
  |goto l=>cases e1
  |exit id=>cases e1
  |normal=>exact leave (fin e1)
  |ret=>exact leave (fin e1)
 ·cases e
def EV (P:Program) (c:Ys) (rest:bf):bf:=fun f l s fr K=>match f with
 | .fn g cap=>match Nat.beq g c.f with
  |true=>match EF P s c.params (l++cap) with
   |some ρ=>andThen (c.F ρ) fun r=>match put s.ob fr (some (.row c.e r)) with
    |some ob=>K (.own fr) {s with ob:=ob}
    |none=>none
   |none=>none
  |false=>rest f l s fr K
 |_=>rest f l s fr K
theorem Lu {Gv:gQ} (lg:j9 Gv) {c:Ys} (hc:Yt P Gv c) {q:Bool} {rest:bf} (hR:cV P Gv q rest):cV P Gv q (EV P c rest) where
 par:=by
  intro R K r f l s fr e;unfold EV at e ⊢;split at e
  ·rename_i g cap
   dsimp only;split at e
   ·rename_i hg
    split at e
    ·rename_i ρ h1
     try rw [hg,h1]
     refine .bind e fun l h3 h4=> ?_
     split at h4
     ·rename_i ob h5
      try rw [h5]
      exact ⟨_,_,rfl,h4,fun h=> .put h5⟩
     ·cases h4
    ·cases e
   ·rename_i hg
    try rw [hg]
    exact hR.par e
  ·exact hR.par e
 run:=by
  intro f l s s' fr v e zl m Z w fv lv hr hf hl hm hfresh JP;unfold EV at e;split at e
  ·rename_i g cap
   split at e
   ·rename_i hg
    obtain rfl:=br hg;split at e
    ·rename_i ρ h1
     obtain ⟨r,h3,h4⟩:=aG e;split at h4
     ·rename_i ob h5
      cases h4;obtain ⟨fn,code,q1,q2⟩:=hc.fn;obtain ⟨cv,rfl,hcv⟩:=hf;have hargs:bu P m w Z (l++cap) (lv++cv):=gm hl hcv;obtain ⟨t1,t2,t3,t4⟩:=qX hr hargs h1;have hz0: ∀ b,Zo m (ij P c.params (l++cap)) Z b→b<w.heap.size:=(yY.freeze hr.ZD t4 (fun _=>rfl)).zb;refine ⟨_,cv,fn,code,rfl,q1,q2, ?_⟩;refine (hc.run ρ r h3 w (lv++cv) _ hz0 (lg.st JP (fun _ h=>Zo.sub h) (.refl _ _)) t1.symm fun j t v a b=> ?_).mono ?_
      ·have hlt:=(List.getElem?_eq_some_iff.1 b).1
       have hj:j<ρ.length:=by omega
       have:nth ρ j=ρ[j]:=by simp [nth,hj]
       rw [this];exact t3 j t v _ a b (by simp [hj])
      ·rintro e w' ⟨ad,cp,rfl,hB,hnew,hrow⟩
       have hrow:=hrow Z hr.zb;have rl':Rel P m Z s.ob w':=⟨fun b hb=>Nat.lt_of_lt_of_le (hr.zb b hb) hB.size,fun i o hi=>by
        refine (hr.obj i o hi).mono (.refl m) (fun b hb=>hB.block b (hr.zb b hb)) (fun _ h=>h) fun q b hq hb=> ?_
        exact ⟨hB.block b ((hr.obj i o hi).eC hq hb).1,fun h=>h⟩,hr.inj⟩
       have FI:Ext m (m.up fr (.row ad r.length cp)):= .up hm _;refine ⟨_,m.up fr (.row ad r.length cp),Z,rfl,⟨FI,fun i hi=>Mp.fR m _ hi,fun b hb=>hb,⟨hB.os,hB.tape,hB.output,hB.size,fun b hb=>hB.block b (hr.zb b hb)⟩,fun b hb _=>hB.block b hb,fun b hb=> .inl hb,fun p b h hb=> ?_⟩,
        rl'.X5 hm (bX h5).2 (fun j o p b hj hp hb h=> ?_) rfl (fun _ _=>rfl) ⟨ad,cp,Mp.bg ..,hrow⟩,⟨_,Mp.bg ..,rfl⟩⟩
       ·rw [Mp.bg] at h
        cases h;exact .inr (.inl (hnew b hb).1)
       ·have h2:=(hnew b h).1
        have h3:=((hr.obj j o hj).eC hp hb).1;omega
     ·cases h4
    ·cases e
   ·exact hR.run e zl hr hf hl hm hfresh JP
  ·exact hR.run e zl hr hf hl hm hfresh JP
theorem Yv {c:Ys} {rest:bf} (hR:xy rest):xy (EV P c rest):=by
 intro f l s s' fr v e
 replace e:EV P c rest f l s fr K1=some (v,s'):=e
 unfold EV at e;split at e
 ·split at e
  ·split at e
   ·obtain ⟨r,h3,h4⟩:=aG e
    split at h4
    ·rename_i ob h5
     cases h4;exact ⟨rfl,rfl,(bX h5).1⟩
    ·cases h4
   ·cases e
  ·exact hR e
 ·exact hR e
structure Yw where
 f:FuncId
 e:TypeId
 F:List PV→Option (List PV)
structure Sv (P:Program) (c:Yw):Prop where
 fn: ∃ fn code,P.funcs[c.f]? =some fn∧fn.body=some code
 run: ∀ l l',c.F l=some l'→ ∀ (w:World) (ad:Option (Nat×Nat)) (cp:Nat) (Z0:Nat→Prop),HM P w Z0 c.e l ad cp→(∀ b,ad.map (·.1)=some b→b<w.heap.size)→
  Calls P c.f ⟨[.slice (addrOf ad) l.length cp]⟩ w (fun en w'=>en= .returned (.tuple ⟨[]⟩)∧l'.length=l.length∧w'.os=w.os∧w'.tape=w.tape∧w'.output=w.output∧w.heap.size≤w'.heap.size∧(∀ b,b<w.heap.size→ad.map (·.1)≠some b→w'.heap[b]? =w.heap[b]?)∧ ∀ Z,HM P w Z c.e l ad cp→HM P w' Z c.e l' ad cp)
def qT (P:Program) (c:Yw) (rest:bf):bf:=fun f l s fr K=>match f with
 | .fn g cap=>match Nat.beq g c.f with
  |true=>match l++cap with
   |[.own i]=>match rowOf s i with
    |some (e',r)=>match Nat.beq e' c.e with
     |true=>andThen (c.F r) fun r'=>match put s.ob i (some (.row e' r')) with
      |some ob=>K (.pT []) {s with ob:=ob}
      |none=>none
     |false=>none
    |none=>none
   |_=>none
  |false=>rest f l s fr K
 |_=>rest f l s fr K
theorem VE {Gv:gQ} {c:Yw} (hc:Sv P c) {rest:bf} (hR:cV P Gv false rest):cV P Gv false (qT P c rest) where
 par:=by
  intro R K r f l s fr e;unfold qT at e ⊢;split at e
  ·rename_i g cap
   dsimp only;split at e
   ·rename_i hg
    try rw [hg]
    try dsimp only
    split at e
    ·rename_i i hla
     try rw [hla]
     try dsimp only
     split at e
     ·rename_i e' q h1
      try rw [h1]
      try dsimp only
      split at e
      ·rename_i h2
       try rw [h2]
       refine .bind e fun l h3 h4=> ?_
       split at h4
       ·rename_i ob h5
        try rw [h5]
        exact ⟨_,_,rfl,h4,fun h=>by cases h⟩
       ·cases h4
      ·cases e
     ·cases e
    ·cases e
   ·rename_i hg
    try rw [hg]
    exact hR.par e
  ·exact hR.par e
 run:=by
  intro f l s s' fr v e zl m Z w fv lv hr hf hl hm hfresh JP;unfold qT at e;split at e
  ·rename_i g cap
   split at e
   ·rename_i hg
    obtain rfl:=br hg;split at e
    ·rename_i i hla
     split at e
     ·rename_i e' q h1
      split at e
      ·rename_i h2
       obtain rfl:=br h2;obtain ⟨q',h3,h4⟩:=aG e;split at h4
       ·rename_i ob h5
        cases h4;obtain ⟨fn,code,q1,q2⟩:=hc.fn;obtain ⟨cv,rfl,hcv⟩:=hf;have hargs:bu P m w Z [.own i] (lv++cv):=hla ▸ gm hl hcv;obtain ⟨u,hu,hov⟩:=Lh hargs;have hlk:=dD h1;obtain ⟨ad,cp,d1,d2⟩:=hr.obj i _ hlk;obtain rfl:=qW hov d1;obtain ⟨p1,p2⟩:=bX h5;have ajm:=fun b (hb:ad.map (·.1)=some b)=>(hr.obj i _ hlk).eC d1 hb
        refine ⟨_,cv,fn,code,rfl,q1,q2, ?_⟩;rw [hu];refine (hc.run q q' h3 w ad cp Z d2 (fun b hb=>(ajm b hb).1)).mono ?_;rintro en w' ⟨rfl,g1,g2,g3,g4,g5,g6,g7⟩;have hz: ∀ b,Z b→w'.heap[b]? =w.heap[b]? :=fun b hb=>g6 b (hr.zb b hb) fun e=>(ajm b e).2 hb
        refine ⟨_,m,Z,rfl,⟨.refl m,fun _ _=>rfl,fun _ h=>h,⟨g2,g3,g4,g5,hz⟩,fun b hb hap=>g6 b hb fun e=>hap i _ _ hlk d1 e,fun b hb=> .inl hb,fun _ _ h _=> .inl h⟩,⟨fun b hb=>Nat.lt_of_lt_of_le (hr.zb b hb) g5,fun j o hj=> ?_,fun j k o o' p q b hj hk=> ?_⟩,⟨[],rfl,trivial⟩⟩
        ·rw [p2] at hj
         split at hj
         ·rename_i he
          cases hj;subst he;exact ⟨ad,cp,by rw [g1]; exact d1,g7 Z d2⟩
         ·rename_i hne
          refine (hr.obj j o hj).mono (.refl m) hz (fun _ h=>h) fun p b hp hb=>⟨g6 b ((hr.obj j o hj).eC hp hb).1 fun e=>hne (hr.inj i j _ _ _ _ b hlk hj d1 hp e hb),fun h=>h⟩
        ·have key: ∀ j o,look ob j=some o→ ∃ o2,look s.ob j=some o2:=by
          intro j o h;rw [p2] at h;split at h
          ·rename_i he; rw [← he]; exact ⟨_,hlk⟩
          ·exact ⟨_,h⟩
         obtain ⟨o2,hj2⟩:=key _ _ hj;obtain ⟨o3,hk2⟩:=key _ _ hk;exact hr.inj j k o2 o3 p q b hj2 hk2
       ·cases h4
      ·cases e
     ·cases e
    ·cases e
   ·exact hR.run e zl hr hf hl hm hfresh JP
  ·exact hR.run e zl hr hf hl hm hfresh JP
theorem Yx {c:Yw} {rest:bf} (hR:xy rest):xy (qT P c rest):=by
 intro f l s s' fr v e
 replace e:qT P c rest f l s fr K1=some (v,s'):=e
 unfold qT at e;split at e
 ·split at e
  ·split at e
   ·split at e
    ·split at e
     ·obtain ⟨r,h3,h4⟩:=aG e
      split at h4
      ·rename_i ob h5
       cases h4;exact ⟨rfl,rfl,(bX h5).1⟩
      ·cases h4
     ·cases e
    ·cases e
   ·cases e
  ·exact hR e
 ·exact hR e
inductive CX where
 |c (c:Con)
 |o (c:Ys)
 |m (c:Yw)
def Qn (P:Program):List CX→bf
 |[]=>BC
 | .c c::l=>BF P c (Qn P l)
 | .o c::l=>EV P c (Qn P l)
 | .m c::l=>qT P c (Qn P l)
def Au (P:Program) (G:yZ):CX→Prop
 | .c c=>Ls P (Ss P G) c
 | .o c=>Yt P (Ss P G) c
 | .m c=>Sv P c
def Uq (P:Program):List CX→bf
 |[]=>BC
 | .c c::l=>Up P c (Uq P l)
 | .o c::l=>EV P c (Uq P l)
 | .m _::l=>Uq P l
theorem u7 {G:yZ}: ∀ {l:List CX},(∀ c∈l,Au P G c)→cV P (Ss P G) true (Uq P l)
 |[],_=>u6 true
 | .c c::l,h=>Vz (i5 G) (h (.c c) (List.mem_cons_self ..)) (u7 fun d hd=>h d (List.mem_cons_of_mem _ hd))
 | .o c::l,h=>Lu (i5 G) (h (.o c) (List.mem_cons_self ..)) (u7 fun d hd=>h d (List.mem_cons_of_mem _ hd))
 | .m c::l,h=>u7 (l:=l) fun d hd=>h d (List.mem_cons_of_mem _ hd)
theorem Gt {G:yZ}: ∀ {l:List CX},(∀ c∈l,Au P G c)→cV P (Ss P G) false (Qn P l)
 |[],_=>u6 false
 | .c c::l,h=>DS (i5 G) (h (.c c) (List.mem_cons_self ..)) (Gt fun d hd=>h d (List.mem_cons_of_mem _ hd))
 | .o c::l,h=>Lu (i5 G) (h (.o c) (List.mem_cons_self ..)) (Gt fun d hd=>h d (List.mem_cons_of_mem _ hd))
 | .m c::l,h=>VE (h (.m c) (List.mem_cons_self ..)) (Gt fun d hd=>h d (List.mem_cons_of_mem _ hd))
theorem Nn: ∀ l:List CX,xy (Qn P l)
 |[]=>VC
 | .c c::l=>Yp (Nn l)
 | .o c::l=>Yv (Nn l)
 | .m c::l=>Yx (Nn l)
theorem No {R:Type} {K:AV→St→Option R} {g:Nat} {off:Int} {a:List AV} {s:St} {fr:Nat}: ∀ l:List CX,Qn P l (.gp g off) a s fr K=none
 |[]=>rfl
 | .c c::l=>No l
 | .o c::l=>No l
 | .m c::l=>No l
theorem Np {G:yZ} {l:List CX} (h: ∀ c∈l,Au P G c):bZ P (Ss P G) (tJ P G (Qn P l)):=Yo ((Gt h).ok (Nn l) (No l))
theorem aeI (hN:aX P) (hM:P.follows .mixedOrders=true) {G:yZ} {l:List CX} (hl: ∀ c∈l,Au P G c) {jo:FuncId→Option Hint} {n:Nat} {f:FuncId} {h:Hint} {F:List PV→Option (List PV)} (e:fnK P (Lt P (tJ P G (Qn P l)) (Uq P l) jo n) (pcA P (tJ P G (Qn P l)) (Uq P l) jo n) f h=F) {fn:Func} (hfn:P.funcs[f]? =some fn) {code:Code} (hb:fn.body=some code) {ps rs:List TypeId} (hps:fn.params.toList=ps) (hrs:fn.resultTypes.toList=rs):
  Au P G (.c ⟨f,ps,rs,F⟩):=Su hN hM (i5 G) (Qm hN hM (i5 G) (Np hl) (u7 hl) jo n) (Yr hN hM (i5 G) (Np hl) (u7 hl) jo n) (fun ρ=>congrFun e ρ) hfn hb hps hrs
theorem acV (hN:aX P) (hM:P.follows .mixedOrders=true) {G:yZ} {l:List CX} (hl: ∀ c∈l,Au P G c) {jo:FuncId→Option Hint} {n:Nat} {f:FuncId} {el:TypeId} (hfl:zj P el=true) {h:Hint} {F:List PV→Option (List PV)} (e:fnO P (Lt P (tJ P G (Qn P l)) (Uq P l) jo n) (pcA P (tJ P G (Qn P l)) (Uq P l) jo n) f el h=F) {fn:Func} (hfn:P.funcs[f]? =some fn) {code:Code} (hb:fn.body=some code) {ps:List TypeId} (hps:fn.params.toList=ps):
  Au P G (.o ⟨f,ps,el,F⟩):=by
 subst hps;refine ⟨⟨fn,code,hfn,hb⟩,hfl,fun ρ l' hF w args Z0 hz hg hlen ha=> ?_⟩;exact VD hN hM (i5 G) (Qm hN hM (i5 G) (Np hl) (u7 hl) jo n) (Yr hN hM (i5 G) (Np hl) (u7 hl) jo n) hfl ((congrFun e ρ).trans hF) hfn hlen hz hg ha
end
end Go.Sy
