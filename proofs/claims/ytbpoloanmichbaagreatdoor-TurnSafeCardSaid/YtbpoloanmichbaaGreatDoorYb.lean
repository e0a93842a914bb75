/-
  Proved here: parts of the evaluator of the model's code on data of any value: regions and loops. No condition.
-/
import Derived.Test.YtbpoloanmichbaaGreatDoorYa
import Derived.Test.YtbpoloanmichbaaGreatDoorSc
set_option linter.unusedVariables false
set_option linter.unusedSimpArgs false
namespace Go.Sy
open Go.Sim (Tr aV bM bA bL br ef cx cY aW aD cJ bW aU cM fP)
variable {P:Program} {m:Mp} {Z:Nat→Prop} {w:World} {nt:Nat} {s:St} {a:Act} {R:Type} {fr:Nat} {K:AV→St→Option R} {r:R}
def j_:Op→Bool
 | .call ⟨.value _,_,_⟩=>true
 |_=>false
theorem lA {u:AV} {s0:St} (rl:Rel P m Z s0.ob w) {x:Result Next} {v':Value} {K:AV→St→Option R} (hx:x= .ok (.value v') w) (hv:bD P m w Z u v') (e:K u s0=some r): ∃ v s',K v s'=some r∧dh P m Z w s0 fr x v s':=
 ⟨_,_,e, .quiet rl hx hv⟩
theorem Vn {x y:AV} {vs:List Value} (h:bu P m w Z [x,y] vs): ∃ u v,vs=[u,v]∧bD P m w Z x u∧bD P m w Z y v:=by
 match vs,h with
 |[u,v],h=>exact ⟨u,v,rfl,h.1,h.2.1⟩
theorem Lh {x:AV} {vs:List Value} (h:bu P m w Z [x] vs): ∃ u,vs=[u]∧bD P m w Z x u:=by
 match vs,h with
 |[u],h=>exact ⟨u,rfl,h.1⟩
theorem Nd {call:AV→List AV→St→Nat→(AV→St→Option R)→Option R} {o:Oper} {b:Builtin} {args:Array Operand} {ts:Array TypeId} (ho:o.op= .call {callee:= .builtin b,args:=args,argTypes:=ts}) (rl:Rel P m Z s.ob w) (rt:bU P m w Z nt s.tm a.tmps) (hm:m fr=none)
  (e:cr P s fr K call o.op=some r): ∃ v s',K v s'=some r∧dh P m Z w s fr ((execOp a.eval o).run P w) v s':=by
 have hex:execOp a.eval o=builtin b ts o.type (args.map fun| .const _=>true|_=>false) (args.map a.eval):=by
  unfold execOp;rw [ho];rfl
 rw [hex];rw [ho] at e;simp only [cr] at e;split at e
 ·rename_i v t tl hl hts
  obtain ⟨u,h1,h2⟩:=Lh (bR rt hl);have hargs:args.map a.eval= #[u]:=by apply Array.ext'; rw [Array.toList_map,h1]
  rw [hargs];split at e
  ·rename_i d hd
   obtain ⟨n,g1,g2⟩:=aG e;exact ⟨_,_,g2,Mg hts rl h2 hd g1⟩
  ·cases e
 ·rename_i b x hl
  obtain ⟨u,v,h1,h2,h3⟩:=Vn (bR rt hl);have hargs:args.map a.eval= #[u,v]:=by apply Array.ext'; rw [Array.toList_map,h1]
  rw [hargs];exact Dj rl hm h2 h3 e
 ·rename_i l hl
  obtain ⟨q,g1,g2⟩:=aG e;have hargs:args.map a.eval=⟨args.toList.map a.eval⟩:=by apply Array.ext'; rw [Array.toList_map]
  rw [hargs];exact ⟨_,_,g2,Le false rl (bR rt hl) g1⟩
 ·rename_i l hl
  obtain ⟨q,g1,g2⟩:=aG e;have hargs:args.map a.eval=⟨args.toList.map a.eval⟩:=by apply Array.ext'; rw [Array.toList_map]
  rw [hargs];exact ⟨_,_,g2,Le true rl (bR rt hl) g1⟩
 ·cases e
theorem xm {call:AV→List AV→St→Nat→(AV→St→Option R)→Option R} {o:Oper} (hv:j_ o.op=false) (rl:Rel P m Z s.ob w) (rt:bU P m w Z nt s.tm a.tmps) (hm:m fr=none)
  (e:cr P s fr K call o.op=some r): ∃ v s',K v s'=some r∧dh P m Z w s fr ((execOp a.eval o).run P w) v s':=by
 obtain ⟨dst,op,type,pos,after,guard⟩:=o;cases op with
 |move x=>
  obtain ⟨u,h1,h2⟩:=aG e;exact lA rl rfl (az rt h1) h2
 |assign x=>
  obtain ⟨u,h1,h2⟩:=aG e;exact lA rl rfl (az rt h1) h2
 |pick c x y=>
  simp only [cr] at e;split at e
  ·rename_i q hq
   have hc:a.eval c= .bool q:=az rt hq;split at e
   ·obtain ⟨u,h1,h2⟩:=aG e
    exact lA rl (by simp [execOp,hc,asBool]) (az rt h1) h2
   ·obtain ⟨u,h1,h2⟩:=aG e
    exact lA rl (by simp [execOp,hc,asBool]) (az rt h1) h2
  ·cases e
 |alloc t=>exact GS rl hm e
 |box t x=>
  obtain ⟨u,h1,h2⟩:=aG e;exact RL rl hm (az rt h1) h2
 |build t parts=>
  simp only [cr] at e;split at e
  ·rename_i z fs hz ht
   obtain ⟨h0,e⟩:=cC e;obtain ⟨ps,h1,e⟩:=aG e;obtain ⟨l,h2,e⟩:=aG e;exact ⟨_,_,e,Vl rl rt hz ht h0 h1 h2⟩
  ·rename_i z n el hz ht
   obtain ⟨k,h0,e⟩:=aG e;obtain ⟨ps,h1,e⟩:=aG e;obtain ⟨l,h2,e⟩:=aG e;exact ⟨_,_,e,Vm rl rt hz ht h0 h1 h2⟩
  ·cases e
 |buildSlice t len parts=>
  simp only [cr] at e;split at e
  ·rename_i el ht
   split at e
   ·rename_i l o' z h1 h2 h3 h4 h5 h6
    exact sy rl rt hm ht (pV h6) h2 h1 (br h3) (cx h4) (cx h5) e
   ·cases e
  ·cases e
 |makeSlice t x y=>
  simp only [cr] at e;split at e
  ·rename_i el ht
   split at e
   ·rename_i k n k' c p b hx hy hz hb hw
    exact uA rl hm (az rt hx).1 (az rt hy).1 ht hw hz hb e
   ·cases e
  ·cases e
 |makeMap t x=>
  cases x with
  |none=>
   simp only [cr] at e;split at e
   ·rename_i q ob h1 h2
    exact p_ rl hm h1 h2 rfl e
   ·cases e
  |some x=>
   simp only [cr] at e;split at e
   ·rename_i q k n ob h1 h3 h2
    have hx:a.eval x= .int k n:=(az rt h3).1;exact p_ rl hm h1 h2 (by simp [Instr.makeMap,aD (ir h1),hx,asInt,asIntOf]) e
   ·cases e
 |lookup t x i ok=>
  obtain ⟨u,h1,e⟩:=aG e;obtain ⟨v,h2,e⟩:=aG e;exact pR rl (az rt h1) (az rt h2) e
 |mapUpdate t x i y=>
  obtain ⟨u,h1,e⟩:=aG e;obtain ⟨v,h2,e⟩:=aG e;obtain ⟨z,h3,e⟩:=aG e;exact Lg rl (az rt h1) (az rt h2) (az rt h3) e
 |insert t x i y=>
  obtain ⟨u,h1,e⟩:=aG e;obtain ⟨v,h2,e⟩:=aG e;obtain ⟨z,h3,e⟩:=aG e;exact Lg rl (az rt h1) (az rt h2) (az rt h3) e
 |load t x=>
  obtain ⟨u,h1,h2⟩:=aG e;exact Me rl (az rt h1) h2
 |store t x y=>
  obtain ⟨u,h1,h2⟩:=aG e;obtain ⟨v,h3,h4⟩:=aG h2;exact GU rl (az rt h1) (az rt h3) h4
 |nilCheck x=>
  simp only [cr] at e;split at e
  ·rename_i i off h1
   have h2:=az rt h1;refine lA rl ?_ h2 e;obtain ⟨b,_,h3⟩:=h2;simp [execOp,h3]
  ·rename_i el l k off h1
   have h2:=az rt h1;refine lA rl ?_ h2 e;obtain ⟨t,b,o,c,_,_,_,_,h3⟩:=h2;simp [execOp,h3]
  ·rename_i i el k off h1
   have h2:=az rt h1;refine lA rl ?_ h2 e;obtain ⟨b,o,n,c,_,_,_,h3⟩:=h2;simp [execOp,h3]
  ·rename_i f c h1
   have h2:=az rt h1;refine lA rl ?_ h2 e;obtain ⟨vs,h3,_⟩:=h2;simp [execOp,h3]
  ·cases e
 |binOp op t x y c=>
  simp only [cr] at e;split at e
  ·rename_i b c hx hy
   have h1:=az rt hx;have h2:=az rt hy;split at e
   ·exact Vk rl h1 h2 e
   ·obtain ⟨q,g1,g2⟩:=aG e
    exact ⟨_,_,g2,Mj rl h1 h2 g1⟩
  ·rename_i k n k' n' hx hy
   exact X8 rl (az rt hx) (az rt hy) e
  ·rename_i u v hq1 HN hx hy
   obtain ⟨q,g1,g2⟩:=aG e;exact ⟨_,_,g2,Mj rl (az rt hx) (az rt hy) g1⟩
  ·cases e
 |unOp op t x=>
  simp only [cr] at e;split at e
  ·rename_i b hx
   exact abe rl (az rt hx) (by exact e)
  ·rename_i k n hx
   exact abe rl (az rt hx) (by exact e)
  ·cases e
 |convert src dst x=>
  obtain ⟨u,h1,h2⟩:=aG e;exact Ml rl (az rt h1) h2
 |makeFunc fn f c=>
  cases fn with
  |func g=>
   simp only [cr] at e;split at e
   ·rename_i c' hf hc
    refine lA (u:= .fn g c') rl (v':= .func (.func g) #[] ⟨c.toList.map a.eval⟩) ?_ ⟨_,rfl,bR rt hc⟩ e;have h1:f.map a.eval= #[]:=by apply Array.ext'; rw [Array.toList_map,hf]; rfl
    have h2:c.map a.eval=⟨c.toList.map a.eval⟩:=by apply Array.ext'; rw [Array.toList_map]
    simp only [execOp,Instr.makeFunc,h1,h2];rfl
   ·cases e
  |_=>cases e
 |slice t x lo hi mx=>
  cases mx with
  |some _=>cases e
  |none=>
   simp only [cr] at e;split at e
   ·rename_i d u lo' hi' ht hx hl hh
    exact GX rl (az rt hx) (HV rt hl) (HV rt hh) ht e
   ·cases e
 |fieldAddr t x f=>
  simp only [cr] at e;split at e
  ·rename_i u fs hx ht
   obtain ⟨fd,h1,e⟩:=aG e;obtain ⟨v,h2,e⟩:=aG e;exact ⟨_,_,e,uw rl (az rt hx) ht h1 h2⟩
  ·cases e
 |field t x f=>
  simp only [cr] at e;split at e
  ·rename_i l wh fs hx ht
   obtain ⟨fd,h1,e⟩:=aG e;obtain ⟨v,h2,e⟩:=aG e;exact ⟨_,_,e,G3 rl (az rt hx) ht h1 h2⟩
  ·cases e
 |indexAddr t x i=>
  simp only [cr] at e;split at e
  ·rename_i d u kd k ht hx hi
   exact Nc rl (az rt hx) (az rt hi).1 ht e
  ·cases e
 |index t x i=>
  simp only [cr] at e;split at e
  ·rename_i b kd k ht hx hi
   have h1:a.eval x= .string b:=(az rt hx).1;have h2:=X4 (fr:=fr) rl (az rt hi).1 ht e;rw [← h1] at h2;exact h2
  ·cases e
 |extract x i=>
  simp only [cr] at e;split at e
  ·rename_i l hx
   obtain ⟨v,h1,h2⟩:=aG e;obtain ⟨vs,h3,h4⟩:=az rt hx;obtain ⟨z,h5,h6⟩:=pU h4 i v h1;refine ⟨_,_,h2, .value rl (sem:=Instr.extract (a.eval x) i) ?_ h6⟩;rw [h3];have:(⟨vs⟩:Array Value)[i]? =some z:=by simpa using h5
   simp [Instr.extract,this]
  ·cases e
 |call c=>
  obtain ⟨callee,args,argTypes⟩:=c;cases callee with
  |builtin b=>exact Nd (o:=⟨dst, .call ⟨.builtin b,args,argTypes⟩,type,pos,after,guard⟩) rfl rl rt hm e
  |value f=>cases hv
  |invoke x n=>cases e
 |_=>cases e
end Go.Sy
namespace Go.Sy
open Go.Sim (Tr aV bM bA bL br ef cx cY fP)
variable {P:Program} {s:St} {R:Type} {fr:Nat} {K:AV→St→Option R} {r:R}
def K1:AV→St→Option (AV×St):=fun v s=>some (v,s)
def Off (fr:Nat) (s s':St):Prop:= ∀ j,j≠fr→look s'.ob j=look s.ob j
theorem Off.refl (fr:Nat) (s:St):Off fr s s:=fun _ _=>rfl
theorem Off.put {ob:Lay AO} {o:Option AO} (h:put s.ob fr o=some ob):Off fr s {s with ob:=ob}:=fun j hj=>by
 show look ob j=_
 rw [(bX h).2,if_neg (Ne.symm hj)]
def Gq (fr:Nat) (s:St) (K:AV→St→Option R) (r:R) (x:Option (AV×St)) (quiet:Bool):Prop:= ∃ v s',x=some (v,s')∧K v s'=some r∧(quiet=true→Off fr s s')
theorem Gq.here {v:AV} {q:Bool} (e:K v s=some r):Gq fr s K r (K1 v s) q:=⟨v,s,rfl,e,fun _=> .refl fr s⟩
theorem Gq.bind {α:Type} {x:Option α} {f:α→Option R} {g:α→Option (AV×St)} {q:Bool} (e:andThen x f=some r) (h: ∀ a,x=some a→f a=some r→Gq fr s K r (g a) q):Gq fr s K r (andThen x g) q:=by
 obtain ⟨a,h1,h2⟩:=aG e;rw [h1];exact h a h1 h2
theorem Gq.aC {b:Bool} {x:Option R} {y:Option (AV×St)} {q:Bool} (e:aC b x=some r) (h:x=some r→Gq fr s K r y q):Gq fr s K r (aC b y) q:=by
 obtain ⟨h1,h2⟩:=cC e;rw [h1];exact h h2
theorem HW {l:List AV} {w:Option (TypeId×PV)} {q:Bool} (e:qg s fr K l w=some r):Gq fr s K r (qg s fr K1 l w) q:=by
 unfold qg at e ⊢;split at e
 ·rename_i ob h1 h2
  try rw [h1,h2]
  exact ⟨_,_,rfl,e,fun _=> .put h2⟩
 ·cases e
theorem An {el:TypeId} {l:List PV} {s0:St} (e:newRow fr K el l s0=some r):Gq fr s K r (newRow fr K1 el l s0) false:=by
 unfold newRow at e ⊢;split at e
 ·rename_i ob h1
  try rw [h1]
  exact ⟨_,_,rfl,e,fun h=>by cases h⟩
 ·cases e
theorem P5 {el:TypeId} {l:List PV} {q:Bool} (e:newRow fr K el l s=some r):Gq fr s K r (newRow fr K1 el l s) q:=by
 unfold newRow at e ⊢;split at e
 ·rename_i ob h1
  try rw [h1]
  exact ⟨_,_,rfl,e,fun _=> .put h1⟩
 ·cases e
theorem Vo {t:TypeId} {a:AV} {q:Bool} (e:vO P s K t a=some r):Gq fr s K r (vO P s K1 t a) q:=by
 cases a with
 |ptr i off=>
  simp only [vO] at e ⊢;split at e
  ·rename_i l w h; (try rw [h]); exact .bind e fun v h1 h2=> .here h2
  ·cases e
 |sG el l k off=>
  simp only [vO] at e ⊢;exact .bind e fun v h1 h2=> .here h2
 |nZ i el k off=>
  simp only [vO] at e ⊢;split at e
  ·rename_i e' l h
   try rw [h]
   try dsimp only
   split at e
   ·rename_i hb; (try rw [hb]); exact .bind e fun v h1 h2=> .here h2
   ·cases e
  ·cases e
 |_=>simp [vO] at e
theorem Sd {t:TypeId} {a v:AV} (e:DD P s K t a v=some r):Gq fr s K r (DD P s K1 t a v) false:=by
 unfold DD at e ⊢;split at e
 ·cases e
 ·rename_i n hn
  try rw [hn]
  try dsimp only
  split at e
  ·rename_i h1 h2
   try rw [h1,h2]
   try dsimp only
   cases a with
   |ptr i off=>
    dsimp only at e ⊢;split at e
    ·rename_i l w h
     try rw [h]
     try dsimp only
     split at e
     ·rename_i ob h3 h4
      try rw [h3,h4]
      exact ⟨_,_,rfl,e,fun h=>by cases h⟩
     ·cases e
    ·cases e
   |nZ i el k off=>
    dsimp only at e ⊢;split at e
    ·rename_i e' l h
     try rw [h]
     try dsimp only
     split at e
     ·rename_i c s1 h3 h4 h5 h6
      try rw [h3,h4,h5,h6]
      try dsimp only
      split at e
      ·rename_i ob q h7 h8
       try rw [h7,h8]
       exact ⟨_,_,rfl,e,fun h=>by cases h⟩
      ·cases e
     ·cases e
    ·cases e
   |_=>simp at e
  ·cases e
theorem P6 {t:TypeId} {a x:AV} {ok q:Bool} (e:yC P s K t a x ok=some r):Gq fr s K r (yC P s K1 t a x ok) q:=by
 unfold yC at e ⊢;split at e
 ·rename_i i t' k v l h
  try rw [h]
  refine .bind e fun kp _ e=> .bind e fun z _ e=> .bind e fun u _ e=> ?_
  cases ok with
  |true=>exact .here e
  |false=>exact .here e
 ·cases e
theorem EK {t:TypeId} {a x y:AV} (e:uO P s K t a x y=some r):Gq fr s K r (uO P s K1 t a x y) false:=by
 unfold uO at e ⊢;split at e
 ·rename_i i t' k v l h
  try rw [h]
  refine .bind e fun kp _ e=> .bind e fun vp _ e=> .bind e fun s1 _ e=> ?_
  split at e
  ·rename_i ob q h1 h2
   try rw [h1,h2]
   exact ⟨_,_,rfl,e,fun h=>by cases h⟩
  ·cases e
 ·cases e
theorem Se {d:TypeDesc} {a:AV} {k:Int} {q:Bool} (e:DE P s K d a k=some r):Gq fr s K r (DE P s K1 d a k) q:=by
 unfold DE at e ⊢;split at e
 ·rename_i el e' l
  try dsimp only
  split at e
  ·rename_i h; (try rw [h]); exact .aC e fun h=> .here h
  ·cases e
 ·rename_i el i
  try dsimp only
  split at e
  ·rename_i e' l h
   try rw [h]
   try dsimp only
   split at e
   ·rename_i h; (try rw [h]); exact .aC e fun h=> .here h
   ·cases e
  ·cases e
 ·rename_i n el i off
  try dsimp only
  split at e
  ·rename_i sz h; (try rw [h]); exact .aC e fun h=> .here h
  ·cases e
 ·rename_i n e1 g off
  split at e
  ·rename_i size hn; (try rw [hn]); exact .aC e fun h=> .here h
  ·cases e
 ·cases e
theorem P7 {ts:List TypeId} {b x:AV} (e:yB P s fr K ts b x=some r):Gq fr s K r (yB P s fr K1 ts b x) false:=by
 unfold yB at e ⊢;split at e
 ·rename_i t u tl
  try dsimp only
  split at e
  ·rename_i el ht
   try rw [ht]
   try dsimp only
   split at e
   ·rename_i new hn
    try rw [hn]
    try dsimp only
    split at e
    ·exact .aC e fun h=>An h
    ·rename_i i
     try dsimp only
     split at e
     ·rename_i e' l ob h1 h2
      try rw [h1,h2]
      try dsimp only
      split at e
      ·rename_i h; (try rw [h]); exact .aC e fun h=>An h
      ·cases e
     ·cases e
    ·cases e
   ·cases e
  ·cases e
 ·cases e
theorem Sf {d:TypeDesc} {a:AV} {lo hi:Option Int} {q:Bool} (e:uE P s K d a lo hi=some r):Gq fr s K r (uE P s K1 d a lo hi) q:=by
 unfold uE at e ⊢;split at e
 ·exact .aC e fun h=> .here h
 ·rename_i el e' l
  try dsimp only
  split at e
  ·rename_i h; (try rw [h]); exact .aC e fun h=> .here h
  ·cases e
 ·cases e
theorem Vp {a b:TypeId} {v:AV} {q:Bool} (e:K6 P s K a b v=some r):Gq fr s K r (K6 P s K1 a b v) q:=by
 unfold K6 at e ⊢;split at e
 ·rename_i k n
  try dsimp only
  split at e
  ·rename_i d k' h1 h2; (try rw [h1,h2]); exact .here e
  ·cases e
 ·rename_i t
  try dsimp only
  split at e
  ·rename_i h1 h2; (try rw [h1,h2]); exact .here e
  ·cases e
 ·split at e
  ·rename_i el h1 h2
   try rw [h1,h2]
   try dsimp only
   split at e
   ·rename_i l h3 h4 h5
    try rw [h3,h4,h5]
    exact .aC e fun h=> .here h
   ·cases e
  ·cases e
theorem Ao {op:BinOp} {k:IntKind} {n n':Int} {q:Bool} (e:xd s K op k n n'=some r):Gq fr s K r (xd s K1 op k n n') q:=by
 unfold xd at e ⊢;split at e
 ·exact .aC e fun h=> .here h
 ·exact .aC e fun h=> .here h
 ·cases e
theorem Sg {op:BinOp} {k k':IntKind} {n n':Int} {q:Bool} (e:DF s K op k k' n n'=some r):Gq fr s K r (DF s K1 op k k' n n') q:=by
 unfold DF at e ⊢;split at e
 ·rename_i h
  try rw [h]
  cases op
  case quo=>exact .aC e fun h=> .here h
  case rem=>exact .aC e fun h=> .here h
  case shl=>exact Ao e
  case shr=>exact Ao e
  all_goals exact .bind e fun v h1 h2=> .here h2
 ·rename_i h
  try rw [h]
  exact Ao e
theorem Vq {call:AV→List AV→St→Nat→(AV→St→Option R)→Option R} {call':AV→List AV→St→Nat→(AV→St→Option (AV×St))→Option (AV×St)} {o:Op} (hv:j_ o=false)
  (e:cr P s fr K call o=some r):Gq fr s K r (cr P s fr K1 call' o) (!wr o):=by
 cases o with
 |move x=>exact .bind e fun v h1 h2=> .here h2
 |assign x=>exact .bind e fun v h1 h2=> .here h2
 |pick c x y=>
  simp only [cr] at e ⊢;split at e
  ·rename_i q hq
   try rw [hq]
   try dsimp only
   cases q with
   |true=>exact .bind e fun v h1 h2=> .here h2
   |false=>exact .bind e fun v h1 h2=> .here h2
  ·cases e
 |alloc t=>exact .bind e fun v h1 h2=>HW h2
 |box t x=>exact .bind e fun v h1 h2=>HW h2
 |build t parts=>
  simp only [cr] at e ⊢;split at e
  ·rename_i z fs hz ht
   try rw [hz,ht]
   exact .aC e fun e=> .bind e fun ps _ e=> .bind e fun l _ e=> .here e
  ·rename_i z n el hz ht
   try rw [hz,ht]
   exact .bind e fun k _ e=> .bind e fun ps _ e=> .bind e fun l _ e=> .here e
  ·cases e
 |buildSlice t len parts=>
  simp only [cr] at e ⊢;split at e
  ·rename_i el ht
   try rw [ht]
   try dsimp only
   split at e
   ·rename_i l o' z h1 h2 h3 h4 h5 h6
    try rw [h1,h2,h3,h4,h5,h6]
    exact .bind e fun s1 _ h=>An h
   ·cases e
  ·cases e
 |makeMap t x=>
  cases x with
  |none=>
   simp only [cr] at e ⊢;split at e
   ·rename_i q ob h1 h2
    try rw [h1,h2]
    exact ⟨_,_,rfl,e,fun _=> .put h2⟩
   ·cases e
  |some x=>
   simp only [cr] at e ⊢;split at e
   ·rename_i q k n ob h1 h3 h2
    try rw [h1,h3,h2]
    exact ⟨_,_,rfl,e,fun _=> .put h2⟩
   ·cases e
 |lookup t x i ok=>exact .bind e fun a _ e=> .bind e fun b _ e=>P6 e
 |mapUpdate t x i y=>exact .bind e fun a _ e=> .bind e fun b _ e=> .bind e fun v _ e=>EK e
 |insert t x i y=>exact .bind e fun a _ e=> .bind e fun b _ e=> .bind e fun v _ e=>EK e
 |makeSlice t x y=>
  simp only [cr] at e ⊢;split at e
  ·rename_i el ht
   try rw [ht]
   try dsimp only
   split at e
   ·rename_i k n k' c p b hx hy hz hb hw
    try rw [hx,hy,hz,hb,hw]
    exact .aC e fun h=>P5 h
   ·cases e
  ·cases e
 |load t x=>exact .bind e fun v _ h=>Vo h
 |store t x y=>exact .bind e fun v _ h=> .bind h fun u _ h=>Sd h
 |nilCheck x=>
  simp only [cr] at e ⊢;split at e
  ·rename_i h; (try rw [h]); exact .here e
  ·rename_i h; (try rw [h]); exact .here e
  ·rename_i h; (try rw [h]); exact .here e
  ·rename_i h; (try rw [h]); exact .here e
  ·cases e
 |binOp op t x y c=>
  simp only [cr] at e ⊢;split at e
  ·rename_i b c hx hy
   try rw [hx,hy]
   try dsimp only
   split at e
   ·rename_i ht
    try rw [ht]
    exact .aC e fun h=> .here h
   ·exact .bind e fun v _ h=> .here h
  ·rename_i k n k' n' hx hy
   try rw [hx,hy]
   exact Sg e
  ·rename_i u v hq1 HN hx hy
   try rw [hx,hy]
   exact .bind e fun v _ h=> .here h
  ·cases e
 |unOp op t x=>
  simp only [cr] at e ⊢;split at e
  ·rename_i b hx
   try rw [hx]
   try dsimp only
   split at e
   ·exact .here e
   ·cases e
  ·rename_i k n hx
   try rw [hx]
   try dsimp only
   split at e
   ·exact .here e
   ·cases e
  ·cases e
 |convert src dst x=>exact .bind e fun v _ h=>Vp h
 |makeFunc fn f c=>
  cases fn with
  |func g=>
   simp only [cr] at e ⊢;split at e
   ·rename_i c' h1 h2; (try rw [h1,h2]); exact .here e
   ·cases e
  |_=>cases e
 |slice t x lo hi mx=>
  cases mx with
  |some _=>cases e
  |none=>
   simp only [cr] at e ⊢;split at e
   ·rename_i d u lo' hi' h1 h2 h3 h4; (try rw [h1,h2,h3,h4]); exact Sf e
   ·cases e
 |fieldAddr t x f=>
  simp only [cr] at e ⊢;split at e
  ·rename_i u fs h1 h2; (try rw [h1,h2]); exact .bind e fun _ _ e=> .bind e fun _ _ e=> .here e
  ·cases e
 |field t x f=>
  simp only [cr] at e ⊢;split at e
  ·rename_i l w fs h1 h2; (try rw [h1,h2]); exact .bind e fun _ _ e=> .bind e fun _ _ e=> .here e
  ·cases e
 |indexAddr t x i=>
  simp only [cr] at e ⊢;split at e
  ·rename_i d u kd k h1 h2 h3; (try rw [h1,h2,h3]); exact Se e
  ·cases e
 |index t x i=>
  simp only [cr] at e ⊢;split at e
  ·rename_i b kd k h1 h2 h3; (try rw [h1,h2,h3]); exact .aC e fun h=> .here h
  ·cases e
 |extract x i=>
  simp only [cr] at e ⊢;split at e
  ·rename_i l h; (try rw [h]); exact .bind e fun _ _ e=> .here e
  ·cases e
 |call c=>
  obtain ⟨callee,args,argTypes⟩:=c;cases callee with
  |builtin b=>
   simp only [cr] at e ⊢;split at e
   ·rename_i v t tl h1 h2
    try rw [h1,h2]
    try dsimp only
    split at e
    ·rename_i d hd; (try rw [hd]); exact .bind e fun _ _ e=> .here e
    ·cases e
   ·rename_i b x h1
    try rw [h1]
    exact P7 e
   ·rename_i l h1
    try rw [h1]
    exact .bind e fun _ _ e=> .here e
   ·rename_i l h1
    try rw [h1]
    exact .bind e fun _ _ e=> .here e
   ·cases e
  |value f=>cases hv
  |invoke x n=>cases e
 |_=>cases e
end Go.Sy
namespace Go.Sy
open Go.Sim (Tr aV bM bA bL br ef cx cY FR bN aX Ey aD aU)
variable {P:Program} {fo:Option Nat} {m:Mp} {Z:Nat→Prop} {w:World} {nt:Nat} {s:St} {a:Act} {R:Type} {fr:Nat} {K:AV→St→Option R} {r:R}
theorem T_ {o:Oper} {fx:Operand} {args:Array Operand} {ats:Array TypeId} (hN:aX P) (hop:o.op= .call ⟨.value fx,args,ats⟩) {g:FuncId} {vs:List Value} (hfx:a.eval fx= .func (.func g) #[] ⟨vs⟩) {fn:Func} {c:Code} (hfn:P.funcs[g]? =some fn) (hb:fn.body=some c)
  {next:Act→World→Prop} {Q:Exit→Act→World→Prop} (hC:Calls P g ⟨args.toList.map a.eval++vs⟩ w (fun e w'=> ∃ v',e= .returned v'∧next (a.put o.dst v') w')):o.wpIn (FR fo) 0 P a w next Q:=by
 have hnd: ∀ c,o.op≠ .defer c:=by intro c hc; rw [hop] at hc; cases hc
 have Dn:(o.semAt (FR fo).round a.eval)=execOp a.eval o:=Oper.semAt_eq _ _ _ hnd;have hex:(execOp a.eval o).run P w=(callFunc g ⟨args.toList.map a.eval++vs⟩).run P w:=by
  unfold execOp;rw [hop];simp only [resolve,hfx,Deferred.ofValue,pure_bind,invoke]
  congr 2
  apply Array.ext';simp
 have hrun:(callFunc g ⟨args.toList.map a.eval++vs⟩).run P w= .ok (.enter g ⟨args.toList.map a.eval++vs⟩) w:=by
  have hne: ¬ fn.name= "runtime.NumGoroutine" :=by simpa using hN g fn hfn
  simp [callFunc,hfn,hne,hb]
 refine ⟨fun _ _=>trivial, ?_⟩;rw [Dn,hex,hrun];refine ⟨fun hd=>by simp [FR,Fence.wide] at hd,bN.2 ?_⟩;refine hC.mono ?_;rintro e2 w' ⟨v',rfl,h⟩;exact h
def P8 (P:Program) (fo:Option Nat) (fv:Value) (lv:List Value) (w:World) (Φ:Ending→World→Prop):Prop:=
 (∃ g vs fn c,fv= .func (.func g) #[] ⟨vs⟩∧P.funcs[g]? =some fn∧fn.body=some c∧Calls P g ⟨lv++vs⟩ w Φ)∨
 (∃ b f tmps as bo,fv= .func (.yield b) #[] #[]∧(Instr.yield b ⟨lv⟩).run P w= .ok (.round b f tmps as bo) w∧RoundIn (FR fo) 0 P b f tmps as bo w Φ)
theorem P8.mono {fv:Value} {lv:List Value} {Φ Ψ:Ending→World→Prop} (h:P8 P fo fv lv w Φ) (hh: ∀ e w',Φ e w'→Ψ e w'):P8 P fo fv lv w Ψ:=by
 rcases h with ⟨g,vs,fn,c,h1,h2,h3,h4⟩|⟨b,f,tmps,as,bo,h1,h2,h3⟩
 ·exact .inl ⟨g,vs,fn,c,h1,h2,h3,h4.mono hh⟩
 ·exact .inr ⟨b,f,tmps,as,bo,h1,h2,h3.mono hh⟩
theorem X_ {o:Oper} {fx:Operand} {args:Array Operand} {ats:Array TypeId} (hN:aX P) (hop:o.op= .call ⟨.value fx,args,ats⟩)
  {next:Act→World→Prop} {Q:Exit→Act→World→Prop} (hC:P8 P fo (a.eval fx) (args.toList.map a.eval) w (fun e w'=> ∃ v',e= .returned v'∧next (a.put o.dst v') w')):o.wpIn (FR fo) 0 P a w next Q:=by
 rcases hC with ⟨g,vs,fn,c,h1,h2,h3,h4⟩|⟨b,f,tmps,as,bo,h1,h2,h3⟩
 ·exact T_ hN hop h1 h2 h3 h4
 ·have hnd: ∀ c,o.op≠ .defer c:=by intro c hc; rw [hop] at hc; cases hc
  have Dn:(o.semAt (FR fo).round a.eval)=execOp a.eval o:=Oper.semAt_eq _ _ _ hnd;have hex:(execOp a.eval o).run P w= .ok (.round b f tmps as bo) w:=by
   rw [← h2];unfold execOp;rw [hop];simp only [resolve,h1,Deferred.ofValue,pure_bind,invoke]
   congr 2
   apply Array.ext';simp
  refine ⟨fun _ _=>trivial, ?_⟩;rw [Dn,hex];refine ⟨fun hd=>by simp [FR,Fence.wide] at hd,h3.mono ?_⟩;rintro e2 w' ⟨v',rfl,h⟩;exact h
def acG (P:Program) (I:n5) (call:bf):Prop:= ∀ {R:Type} {K:AV→St→Option R} {r:R} {g t:Nat} {off:Int} {s:St} {fr:Nat},call (.gp g off) [.int .i64 (t:Nat)] s fr K=some r→ ∀ {m:Mp} {Z:Nat→Prop} {w:World},I m Z w→
 ∃ v v',K v s=some r∧bD P m w Z v v'∧(loadVar t ⟨g,off.toNat,none⟩).run P w= .ok v' w
theorem P9 {call:bf} {I:n5} (hL:acG P I call) (hI:I m Z w) {o:Oper} (hv:j_ o.op=false) (rl:Rel P m Z s.ob w) (rt:bU P m w Z nt s.tm a.tmps) (hm:m fr=none) (e:PJ P s fr K call o.op=some r):
  ∃ v s',K v s'=some r∧dh P m Z w s fr ((execOp a.eval o).run P w) v s':=by
 unfold PJ at e;split at e
 ·rename_i t x q hq
  split at e
  ·rename_i el l el2 hx ht
   have hu:=az rt hx;obtain ⟨t0,k1,k2⟩:=hu;have run: ∀ ad n c,a.eval x= .slice ad n c→ ∀ y b2 c2 op,o.op= .binOp op t x (.const (.slice none 0 0)) y→(op= .eql∧b2=ad.isNone∨op= .neq∧b2= !ad.isNone)→c2=w→(execOp a.eval o).run P w= .ok (.value (.bool b2)) w:=by
    intro ad n c hs y b2 c2 op ho hb _;have hq:(Op.equalIn (9999+1) t (.slice ad n c) (.slice none 0 0)).run P w= .ok ad.isNone w:=by
     rw [Op.equalIn]; cases ad<;>simp [aD ht]
    have key:=Sim.mF (P:=P) (T:=t) (x:=x) (y:= .const (.slice none 0 0)) (u:= .slice ad n c) (v:= .slice none 0 0) (w:=w) rfl rfl rfl rfl hq;have hc: ∀ v,a.eval (.const v)=v:=fun _=>rfl
    unfold execOp;rw [ho];dsimp only;rw [hs,hc];rcases hb with ⟨rfl,rfl⟩|⟨rfl,rfl⟩
    ·exact aU key.1
    ·exact aU key.2
   have hop:(∃ y,o.op= .binOp .eql t x (.const (.slice none 0 0)) y∧q=true)∨(∃ y,o.op= .binOp .neq t x (.const (.slice none 0 0)) y∧q=false):=by
    unfold XW at hq;split at hq
    ·rename_i h; cases hq; exact .inl ⟨_,h,rfl⟩
    ·rename_i h; cases hq; exact .inr ⟨_,h,rfl⟩
    ·cases hq
   have fin: ∀ (b:Bool),(∃ ad n c,a.eval x= .slice ad n c∧ad.isNone=b)→K (.bool (XX q b)) s=some r→ ∃ v s',K v s'=some r∧dh P m Z w s fr ((execOp a.eval o).run P w) v s':=by
    rintro b ⟨ad,n,c,hs,hb⟩ hk;refine ⟨_,_,hk, .quiet rl (v':= .bool (XX q b)) ?_ rfl⟩;rcases hop with ⟨y,ho,rfl⟩|⟨y,ho,rfl⟩
    ·exact run ad n c hs y _ w _ ho (.inl ⟨rfl,hb.symm⟩) rfl
    ·exact run ad n c hs y _ w _ ho (.inr ⟨rfl,by rw [hb]; cases b<;>rfl⟩) rfl
   generalize hp:PV.list l=p at k2;have abg:(a.eval x= .slice none 0 0∧l=[])∨ ∃ ad n c,a.eval x= .slice (some ad) n c:=by
    generalize a.eval x=u at k2;cases k2 with
    |nil h=>cases hp; exact .inl ⟨rfl,rfl⟩
    |sl=>exact .inr ⟨_,_,_,rfl⟩
    |_=>cases hp
   unfold HJ at e;cases l with
   |nil=>
    dsimp only at e;unfold eI at e;split at e
    ·rename_i heq
     rcases abg with ⟨h1,_⟩|⟨ad,n,c,h1⟩
     ·exact fin true ⟨none,0,0,h1,rfl⟩ e
     ·exact fin false ⟨some ad,n,c,h1,rfl⟩ (heq ▸ e)
    ·cases e
   |cons y l=>
    dsimp only at e;rcases abg with ⟨h1,h2⟩|⟨ad,n,c,h1⟩
    ·cases h2
    ·exact fin false ⟨some ad,n,c,h1,rfl⟩ e
  ·exact xm hv rl rt hm e
 ·split at e
  ·rename_i t g off zl
   obtain ⟨dst,op,type,pos,after,guard⟩:=o;cases op with
   |load t' x=>
    simp only [acv] at zl;split at zl
    ·rename_i g' off' hx
     cases zl;obtain ⟨v,v',k1,k2,k3⟩:=hL e hI;have hu:a.eval x= .pointer (some ⟨g,off.toNat,none⟩):=(az rt hx).1;refine ⟨v,s,k1, .value rl (sem:=Instr.loadAt t (a.eval x)) ?_ k2⟩;rw [hu];simp [Instr.loadAt,Instr.sureAddr,k3]
    ·cases zl
   |_=>cases zl
  ·exact xm hv rl rt hm e
theorem aer {call:AV→List AV→St→Nat→(AV→St→Option R)→Option R} {o:Oper} (hv:j_ o.op=false) (rl:Rel P m Z s.ob w) (rt:bU P m w Z nt s.tm a.tmps) (hm:m fr=none) (e:cr P s fr K call o.op=some r)
  {next:Act→World→Prop} {Q:Exit→Act→World→Prop}
  (hn: ∀ v s' m' Z' v' w',K v s'=some r→Mv m m' Z Z' w w' fr s.ob→Rel P m' Z' s'.ob w'→bD P m' w' Z' v v'→s'.tm=s.tm→s'.next=s.next→cR s.ob s'.ob→next (a.put o.dst v') w'):o.wpIn (FR fo) 0 P a w next Q:=by
 have hnd: ∀ c,o.op≠ .defer c:=by
  intro c hc;rw [hc] at e;cases e
 have Dn:(o.semAt (FR fo).round a.eval)=execOp a.eval o:=Oper.semAt_eq _ _ _ hnd;obtain ⟨v,s',h1,m',Z',v',w',h2,h3,h4,h5,h6,h7,h8⟩:=xm hv rl rt hm e;refine ⟨fun _ _=>trivial, ?_⟩;rw [Dn];rcases h2 with h2|⟨h2,rfl⟩
 ·rw [h2]; exact hn v s' m' Z' v' w' h1 h3 h4 h5 h6 h7 h8
 ·rw [h2]; exact hn v s' m' Z' _ w' h1 h3 h4 h5 h6 h7 h8
theorem acH {call:bf} {I:n5} (hL:acG P I call) (hI:I m Z w) {o:Oper} (hv:j_ o.op=false) (rl:Rel P m Z s.ob w) (rt:bU P m w Z nt s.tm a.tmps) (hm:m fr=none) (e:PJ P s fr K call o.op=some r)
  {next:Act→World→Prop} {Q:Exit→Act→World→Prop}
  (hn: ∀ v s' m' Z' v' w',K v s'=some r→Mv m m' Z Z' w w' fr s.ob→Rel P m' Z' s'.ob w'→bD P m' w' Z' v v'→s'.tm=s.tm→s'.next=s.next→cR s.ob s'.ob→next (a.put o.dst v') w'):o.wpIn (FR fo) 0 P a w next Q:=by
 have hnd: ∀ c,o.op≠ .defer c:=by
  intro c hc;rw [hc] at e;cases (show (none:Option R)=some r from e)
 have Dn:(o.semAt (FR fo).round a.eval)=execOp a.eval o:=Oper.semAt_eq _ _ _ hnd;obtain ⟨v,s',h1,m',Z',v',w',h2,h3,h4,h5,h6,h7,h8⟩:=P9 hL hI hv rl rt hm e;refine ⟨fun _ _=>trivial, ?_⟩;rw [Dn];rcases h2 with h2|⟨h2,rfl⟩
 ·rw [h2]; exact hn v s' m' Z' v' w' h1 h3 h4 h5 h6 h7 h8
 ·rw [h2]; exact hn v s' m' Z' _ w' h1 h3 h4 h5 h6 h7 h8
structure eH (P:Program) (fo:Option Nat) (I:n5) (call:bf):Prop where
 run: ∀ {R:Type} {K:AV→St→Option R} {r:R} {f:AV} {l:List AV} {s:St} {fr:Nat},call f l s fr K=some r→acq f=false→ ∀ {m:Mp} {Z:Nat→Prop} {w:World} {fv:Value} {lv:List Value},Rel P m Z s.ob w→bD P m w Z f fv→bu P m w Z l lv→m fr=none→fr<s.next→(∀ j,s.next≤j→m j=none)→I m Z w→
  P8 P fo fv lv w (fun e w'=> ∃ v' v s' m' Z',e= .returned v'∧K v s'=some r∧Ext m m'∧(∀ i,i<s.next→i≠fr→m' i=m i)∧(∀ b,Z b→Z' b)∧fH Z w w'∧Rel P m' Z' s'.ob w'∧bD P m' w' Z' v v'∧s'.tm=s.tm∧s.next≤s'.next∧(∀ j,s'.next≤j→m' j=none)∧cR s.ob s'.ob∧iq m m' Z Z' w w')
 ld:acG P I call
def bZ (P:Program) (Gv:gQ) (call:bf):Prop:= ∀ (fo:Option Nat) (I:n5),BK I→Has Gv I→eH P fo I call
def Sh (Z':Nat→Prop) (w w':World) (a a':Act):Prop:= ∃ ds:List Nat,a'.defers=ds.map Sim.mk++a.defers∧ds.Nodup∧ ∀ D∈ds,Z' D∧w.heap.size≤D∧w'.heap[D]? =some (Obj.deferred (some []))
theorem Sh.of {Z':Nat→Prop} {w w':World} {a a':Act} (h:a'.defers=a.defers):Sh Z' w w' a a':=⟨[],by simpa using h,List.nodup_nil,fun D hD=>by cases hD⟩
theorem Sh.trans {Z1 Z2:Nat→Prop} {w w1 w2:World} {a a1 a2:Act} (h:Sh Z1 w w1 a a1) (g:Sh Z2 w1 w2 a1 a2) (hw:w.heap.size≤w1.heap.size) (hz: ∀ b,Z1 b→Z2 b) (hk:fH Z1 w1 w2):Sh Z2 w w2 a a2:=by
 obtain ⟨ds,h1,h2,h3⟩:=h;obtain ⟨es,g1,g2,g3⟩:=g;refine ⟨es++ds,by rw [g1,h1]; simp,List.nodup_append.2 ⟨g2,h2,fun x hx y hy e=> ?_⟩,fun D hD=> ?_⟩
 ·subst e
  have a1:=(g3 x hx).2.1;have a2:=(Array.getElem?_eq_some_iff.1 (h3 x hy).2.2).1;omega
 ·rcases List.mem_append.1 hD with hD|hD
  ·obtain ⟨k1,k2,k3⟩:=g3 D hD
   exact ⟨k1,by omega,k3⟩
  ·obtain ⟨k1,k2,k3⟩:=h3 D hD
   exact ⟨hz D k1,k2,(hk.heap D k1).trans k3⟩
theorem Sh.mono {Z1 Z2:Nat→Prop} {w w':World} {a a':Act} (h:Sh Z1 w w' a a') (hz: ∀ b,Z1 b→Z2 b):Sh Z2 w w' a a':=by
 obtain ⟨ds,h1,h2,h3⟩:=h;exact ⟨ds,h1,h2,fun D hD=>⟨hz D (h3 D hD).1,(h3 D hD).2⟩⟩
theorem Sh.from {Z':Nat→Prop} {w0 w w':World} {a a':Act} (h:Sh Z' w w' a a') (hw:w0.heap.size≤w.heap.size):Sh Z' w0 w' a a':=by
 obtain ⟨ds,h1,h2,h3⟩:=h;exact ⟨ds,h1,h2,fun D hD=>⟨(h3 D hD).1,Nat.le_trans hw (h3 D hD).2.1,(h3 D hD).2.2⟩⟩
structure SR (P:Program) (m:Mp) (Z:Nat→Prop) (w:World) (nt:Nat) (s:St) (a:Act):Prop where
 rel:Rel P m Z s.ob w
 tr:bU P m w Z nt s.tm a.tmps
 fresh: ∀ j,s.next≤j→m j=none
structure qj (m m':Mp) (Z Z':Nat→Prop) (w w':World) (s s':St) (a a':Act):Prop where
 ext:Ext m m'
 dF: ∀ b,Z b→Z' b
 keep:fH Z w w'
 defers:Sh Z' w w' a a'
 Dp:cR s.tm s'.tm
 Si:cR s.ob s'.ob
 next:s.next≤s'.next
 Ak:iq m m' Z Z' w w'
theorem qj.refl (m:Mp) (Z:Nat→Prop) (w:World) (s:St) (a:Act):qj m m Z Z w w s s a a:=⟨.refl m,fun _ h=>h, .refl Z w, .of rfl, .refl _, .refl _,Nat.le_refl _, .same _ _ fun _=>rfl⟩
theorem qj.trans {m m1 m2:Mp} {Z Z1 Z2:Nat→Prop} {w w1 w2:World} {s s1 s2:St} {a a1 a2:Act} (h:qj m m1 Z Z1 w w1 s s1 a a1) (g:qj m1 m2 Z1 Z2 w1 w2 s1 s2 a1 a2):qj m m2 Z Z2 w w2 s s2 a a2:=
 ⟨h.ext.trans g.ext,fun b hb=>g.dF b (h.dF b hb),h.keep.trans g.keep h.dF,h.defers.trans g.defers h.keep.size g.dF g.keep,h.Dp.trans g.Dp,h.Si.trans g.Si,Nat.le_trans h.next g.next,h.Ak.trans h.keep.size g.Ak⟩
theorem put_defers {dst:Option Nat} {u:Value}:(a.put dst u).defers=a.defers:=Sim.Act.nW
theorem Nf {all:Array Oper} {g:Option (Nat×Bool)} {K:Bool→St→Option R} (e:DH all.toList s g K=some r) (rt:bU P m w Z nt s.tm a.tmps):
  ∃ go dc,K go {s with tm:=dc}=some r∧cR s.tm dc∧(∀ j,look dc j=look s.tm j)∧ ∀ o:Oper,o.guard=g→Region.wanted o (yielded all a.tmps)=go:=by
 unfold DH at e;split at e
 ·exact ⟨true,s.tm,e, .refl _,fun _=>rfl,fun o ho=>by unfold Region.wanted; rw [ho]⟩
 ·rename_i j want
  split at e
  ·rename_i o2 RS
   have Mr:all[j]? =some o2:=by simpa using RS
   split at e
   ·rename_i d hd
    split at e
    ·rename_i b hb
     obtain ⟨x,h1,h2⟩:=rt.get d _ hb;obtain rfl:=h2;have key: ∀ tm,put s.tm d (some (.bool b))=some tm→cR s.tm tm∧ ∀ j,look tm j=look s.tm j:=by
      intro tm h;obtain ⟨p1,p2⟩:=bX h;refine ⟨p1,fun j=> ?_⟩;rw [p2];split
      ·rename_i he; rw [← he,hb]
      ·rfl
     split at e
     ·split at e
      ·rename_i tm htm
       obtain ⟨k1,k2⟩:=key tm htm;refine ⟨_,tm,e,k1,k2,fun o ho=> ?_⟩;unfold Region.wanted;rw [ho];simp [yielded,Mr,hd,h1]
      ·cases e
     ·split at e
      ·rename_i tm htm
       obtain ⟨k1,k2⟩:=key tm htm;refine ⟨_,tm,e,k1,k2,fun o ho=> ?_⟩;unfold Region.wanted;rw [ho];simp [yielded,Mr,hd,h1]
      ·cases e
    ·rename_i l hl
     obtain ⟨x,h1,h2⟩:=rt.get d _ hl;obtain ⟨vs,rfl,_⟩:=h2;refine ⟨_,s.tm,e, .refl _,fun _=>rfl,fun o ho=> ?_⟩;unfold Region.wanted;rw [ho];simp [yielded,Mr,hd,h1]
    ·cases e
   ·cases e
  ·cases e
theorem bU.put {m':Mp} {Z':Nat→Prop} {w':World} {tm dc:Lay AV} {ts:Array Value} (rt:bU P m w Z nt tm ts) (he:Ext m m') (hw: ∀ b,Z b→w'.heap[b]? =w.heap[b]?) (hz: ∀ b,Z b→Z' b) {d:Nat} {v:AV} {v':Value} (hd:d<nt) (hv:bD P m' w' Z' v v')
  (hp:Sy.put tm d (some v)=some dc):bU P m' w' Z' nt dc (ts.setIfInBounds d v'):=by
 obtain ⟨_,p2⟩:=bX hp;refine ⟨by simp [rt.size],fun t u ht=> ?_⟩;rw [p2] at ht;by_cases e:d=t
 ·rw [if_pos e] at ht
  cases ht;subst e;exact ⟨v',by simp [rt.size,hd],hv⟩
 ·rw [if_neg e] at ht
  obtain ⟨x,h1,h2⟩:=(rt.mono he hw hz).get t u ht;exact ⟨x,by simp [Array.getElem?_setIfInBounds,e,h1],h2⟩
theorem HX {dst:Option Nat} {v:AV} {K:St→Option R} (e:M8 nt dst v s K=some r): ∃ dc,K {s with tm:=dc}=some r∧cR s.tm dc∧
  ∀ {m m':Mp} {Z Z':Nat→Prop} {w w':World} {a:Act} {v':Value},bU P m w Z nt s.tm a.tmps→Ext m m'→(∀ b,Z b→w'.heap[b]? =w.heap[b]?)→(∀ b,Z b→Z' b)→bD P m' w' Z' v v'→bU P m' w' Z' nt dc (a.put dst v').tmps:=by
 unfold M8 at e;split at e
 ·exact ⟨s.tm,e, .refl _,fun rt he hw hz _=>rt.mono he hw hz⟩
 ·rename_i d
  split at e
  ·rename_i tm h1 h2
   exact ⟨tm,e,(bX h2).1,fun rt he hw hz hv=>rt.put he hw hz (cY h1) hv h2⟩
  ·cases e
def Jz (n:Nat) (m m':Mp):Prop:= ∀ i,i<n→m' i=m i
theorem Jz.trans {n n':Nat} {m m1 m2:Mp} (h:Jz n m m1) (hn:n≤n') (g:Jz n' m1 m2):Jz n m m2:=fun i hi=>(g i (Nat.lt_of_lt_of_le hi hn)).trans (h i hi)
theorem Ap (hN:aX P) {call:bf} {I:n5} (hC:eH P fo I call) {all:Array Oper} {i:Nat} {o:Oper} (ho:all[i]? =some o) {fr:Nat} {K:St→Option R} (e:Vc P call all.toList nt fr o s K=some r) (h:SR P m Z w nt s a) (hI:I m Z w) (hlt:fr<s.next) (hfr:m fr=none) {Q:Exit→Act→World→Prop} {next:Act→World→Prop}
  (hq: ∀ s' m' Z' a' w',K s'=some r→SR P m' Z' w' nt s' a'→qj m m' Z Z' w w' s s' a a'→(∀ j,j<s.next→j≠fr→m' j=m j)→next a' w'):wpOpIn (FR fo) 0 P all Q i next a w:=by
 unfold wpOpIn;rw [ho];dsimp only;unfold Vc at e;obtain ⟨go,iY,e1,g1,g2,g3⟩:=Nf e h.tr;rw [g3 o rfl];have Vr:bU P m w Z nt iY a.tmps:=⟨h.tr.size,fun t v ht=>h.tr.get t v (by rw [← g2]; exact ht)⟩;have h1:SR P m Z w nt {s with tm:=iY} a:=⟨h.rel,Vr,h.fresh⟩;cases go with
 |true=>
  rw [if_pos rfl];dsimp only at e1;have fin: ∀ v s' m' Z' v' w',(M8 nt o.dst v s' K)=some r→Ext m m'→(∀ j,j<s.next→j≠fr→m' j=m j)→(∀ b,Z b→Z' b)→fH Z w w'→Rel P m' Z' s'.ob w'→bD P m' w' Z' v v'→s'.tm=iY→s.next≤s'.next→(∀ j,s'.next≤j→m' j=none)→cR s.ob s'.ob→iq m m' Z Z' w w'→
    next (a.put o.dst v') w':=by
   intro v s' m' Z' v' w' e2 k1 k2 k3 k4 k5 k6 k7 k8 k9 k10 k11;obtain ⟨nu,e3,j1,j2⟩:=HX (P:=P) e2;subst k7;have acI:=j2 (a:=a) Vr k1 k4.heap k3 k6;exact hq {s' with tm:=nu} m' Z' (a.put o.dst v') w' e3 ⟨k5,acI,k9⟩ ⟨k1,k3,k4, .of put_defers,g1.trans j1,k10,k8,k11⟩ k2
  by_cases hv:j_ o.op=true
  ·obtain ⟨dst,op,type,pos,after,guard⟩:=o
   cases op with
   |call c=>
    obtain ⟨callee,args,argTypes⟩:=c;cases callee with
    |value f=>
     simp only [PJ,XW,acv,cr] at e1;split at e1
     ·rename_i fa la hf hla
      split at e1
      ·cases e1
      ·rename_i zl
       have hfa:=az Vr hf;have hW:=hC.run e1 zl h.rel hfa (bR Vr hla) hfr hlt h.fresh hI;refine X_ hN (o:=⟨dst, .call ⟨.value f,args,argTypes⟩,type,pos,after,guard⟩) rfl (hW.mono ?_);rintro e w' ⟨v',v,s',m',Z',rfl,k0,k1,k2,k3,k4,k5,k6,k7,k8,k9,k10,k11⟩;exact ⟨v',rfl,fin v s' m' Z' v' w' k0 k1 (fun j x y=>k2 j x y) k3 k4 k5 k6 k7 k8 k9 k10 k11⟩
     ·cases e1
    |_=>cases hv
   |_=>cases hv
  ·refine acH (s:={s with tm:=iY}) hC.ld hI (by simpa using hv) h.rel Vr hfr e1 ?_
   intro v s' m' Z' v' w' k0 k1 k2 k3 k4 k5 k6;exact fin v s' m' Z' v' w' k0 k1.ext (fun j _ y=>k1.off j y) k1.dF k1.keep k2 k3 k4 (Nat.le_of_eq k5.symm) (fun j hj=>by
    have hne:j≠fr:=by rw [k5] at hj; have:s.next≤j:=hj; omega
    rw [k1.off j hne];exact h.fresh j (by rw [k5] at hj; exact hj)) k6 k1.Ak
 |false=>
  rw [if_neg (by decide)];dsimp only at e1;obtain ⟨nu,e3,j1,j2⟩:=HX (P:=P) e1;refine ⟨fun _ _=>trivial, ?_⟩;have acI:=j2 (a:=a) (m':=m) (Z':=Z) (w':=w) (v':=undef) Vr (.refl m) (fun _ _=>rfl) (fun _ h=>h) ⟨[],rfl,trivial⟩;exact hq {s with tm:=nu} m Z (a.put o.dst undef) w e3 ⟨h.rel,acI,h.fresh⟩ ⟨.refl m,fun _ h=>h, .refl Z w, .of put_defers,g1.trans j1, .refl _,Nat.le_refl _, .same _ _ fun _=>rfl⟩ (fun _ _ _=>rfl)
theorem Sj (hN:aX P) {call:bf} {I:n5} (hS:BK I) (hC:eH P fo I call) {all:Array Oper} {base:Nat} {Q:Exit→Act→World→Prop}: ∀ (l:List Oper) (i:Nat) (s:St) (K:St→Option R) (m:Mp) (Z:Nat→Prop) (a:Act) (w:World),(∀ j,l[j]? =all[i+j]?)→
  aal P call all.toList nt base i l s K=some r→SR P m Z w nt s a→I m Z w→base+i+l.length≤s.next→(∀ j,base+i≤j→j<base+i+l.length→m j=none)→
  (∀ s' m' Z' a' w',K s'=some r→SR P m' Z' w' nt s' a'→qj m m' Z Z' w w' s s' a a'→Jz base m m'→Q .normal a' w')→wpOpsIn (FR fo) 0 P all Q (List.range' i l.length) a w:=by
 intro l;induction l with
 |nil=>
  intro i s K m Z a w _ e h hI _ _ hq;exact hq s m Z a w e h (.refl ..) (fun _ _=>rfl)
 |cons o l ih=>
  intro i s K m Z a w hl e h hI hlen hfr hq;simp only [List.length_cons] at hlen hfr;have ho:all[i]? =some o:=by rw [← Nat.add_zero i, ←hl 0]; rfl
  have hl': ∀ j,l[j]? =all[i+1+j]? :=fun j=>by rw [show i+1+j=i+(j+1) by omega, ←hl (j+1)]; rfl
  rw [List.length_cons,List.range'_succ,wpOpsIn_cons];simp only [aal] at e;refine Ap hN hC ho e h hI (by omega) (hfr _ (by omega) (by omega)) ?_;intro s1 m1 Z1 a1 w1 e1 e2 e3 e4;refine ih (i+1) s1 K m1 Z1 a1 w1 hl' e1 e2 (hS hI e3.ext e3.dF e3.keep) (by have:=e3.next; omega) (fun j x1 x2=> ?_) ?_
  ·rw [e4 j (by omega) (by omega)]
   exact hfr j (by omega) (by omega)
  ·intro s2 m2 Z2 a2 w2 y1 y2 y3 y4
   exact hq s2 m2 Z2 a2 w2 y1 y2 (e3.trans y3) (fun j hj=>(y4 j hj).trans (e4 j (by omega) (by omega)))
theorem JX (hN:aX P) {call:bf} {I:n5} (hS:BK I) (hC:eH P fo I call) {ops:Array Oper} {id:Nat} {K:St→Option R} (e:M9 P call nt ops.toList s K=some r) (h:SR P m Z w nt s a) (hI:I m Z w) {Q:Exit→Act→World→Prop}
  (hq: ∀ s' m' Z' a' w',K s'=some r→SR P m' Z' w' nt s' a'→qj m m' Z Z' w w' s s' a a'→Jz s.next m m'→Q .normal a' w'):(Code.region id ops false).wpIn (FR fo) 0 P Q a w:=by
 refine wpIn_region ?_;unfold M9 at e;rw [j6] at e;have:=Sj hN hS hC (all:=ops) (Q:=Q) ops.toList 0 _ K m Z a w (fun j=>by simp) e ⟨h.rel,h.tr,fun j hj=>h.fresh j (by have:s.next+ops.toList.length≤j:=hj; omega)⟩ hI (by simp) (fun j h1 h2=>h.fresh j (by omega)) (fun s' m' Z' a' w' k0 k1 k2 k3=>hq s' m' Z' a' w' k0 k1 ⟨k2.ext,k2.dF,k2.keep,k2.defers,k2.Dp,k2.Si,by have:=k2.next; have h3:s.next+ops.toList.length≤s'.next:=this; omega,k2.Ak⟩ k3)
 rw [List.range_eq_range'];simpa using this
end Go.Sy
namespace Go.Sy
open Go.Sim (Tr aV bM bA bL br ef cx cY FR bN aX Ey cZ bl eO sD bF)
variable {P:Program}
structure yY (P:Program) (m:Mp) (Z:Nat→Prop) (f:Nat→Option AO) (w:World):Prop where
 zb: ∀ b,Z b→b<w.heap.size
 obj: ∀ i o,f i=some o→gZ P m w Z i o
 inj: ∀ i j o o' p q b,f i=some o→f j=some o'→m i=some p→m j=some q→af p=some b→af q=some b→i=j
theorem Rel.ZD {m:Mp} {Z:Nat→Prop} {ob:Lay AO} {w:World} (r:Rel P m Z ob w):yY P m Z (look ob) w:=⟨r.zb,r.obj,r.inj⟩
theorem yY.to {m:Mp} {Z:Nat→Prop} {f:Nat→Option AO} {ob:Lay AO} {w:World} (r:yY P m Z f w) (h: ∀ i o,look ob i=some o→f i=some o):Rel P m Z ob w:=
 ⟨r.zb,fun i o hi=>r.obj i o (h i o hi),fun i j o o' p q b hi hj=>r.inj i j o o' p q b (h i o hi) (h j o' hj)⟩
theorem uY {i:Nat}: ∀ {l:List Nat},has i l=true↔i∈l
 |[]=>by simp [has]
 |j::l=>by
  simp only [has];split
  ·rename_i h; simp [br h]
  ·rename_i h
   have hne:i≠j:=by intro e; subst e; simp at h
   simp [uY (l:=l),hne]
theorem DM: ∀ {l r:List Nat},meets l r=true↔ ∃ i,i∈l∧i∈r
 |[],r=>by simp [meets]
 |i::l,r=>by
  simp only [meets];split
  ·rename_i h; simp only [true_iff]; exact ⟨i,List.mem_cons_self ..,uY.1 h⟩
  ·rename_i h
   rw [DM];constructor
   ·rintro ⟨j,h1,h2⟩; exact ⟨j,List.mem_cons_of_mem _ h1,h2⟩
   ·rintro ⟨j,h1,h2⟩
    rcases List.mem_cons.1 h1 with rfl|h1
    ·rw [uY.2 h2] at h; cases h
    ·exact ⟨j,h1,h2⟩
theorem rj {a b:Bool}:either a b=true↔a=true∨b=true:=by cases a<;>simp [either]
theorem Li {base:Nat} {f g:Rec}:qQ base f g=true↔((f.w=true∨g.w=true)∧ ∃ i,i∈f.gP∧i∈g.gP)∨base+f.i∈g.gP∨base+g.i∈f.gP:=by
 unfold qQ;split
 ·rename_i h
  rw [rj] at h;split
  ·rename_i h2; simp [h,DM.1 h2]
  ·rename_i h2
   rw [rj,uY,uY];have: ¬ ∃ i,i∈f.gP∧i∈g.gP:=fun hh=>by rw [DM.2 hh] at h2; cases h2
   simp [this]
 ·rename_i h
  rw [rj,uY,uY];have: ¬ (f.w=true∨g.w=true):=fun hh=>by rw [rj.2 hh] at h; cases h
  simp [this]
theorem DN {base mask:Nat} {g:Rec}: ∀ {l:List Rec},waits base mask g l=true→ ∀ f∈l,qQ base f g=true→mask.testBit f.i=true
 |[],_,f,hf,_=>by cases hf
 |f::l,h,f',hf,hc=>by
  simp only [waits] at h;split at h
  ·rename_i h1
   split at h
   ·rename_i h2
    rcases List.mem_cons.1 hf with rfl|hf
    ·exact h2
    ·exact DN h f' hf hc
   ·cases h
  ·rename_i h1
   rcases List.mem_cons.1 hf with rfl|hf
   ·rw [h1] at hc; cases hc
   ·exact DN h f' hf hc
theorem kg {α:Type} (s:Lay α): ∀ (l:List Nat) (T:Tr (Option α)) (i:Nat),(bK s l T).get i=if i∈l then some (look s i) else T.get i
 |[],T,i=>by simp [bK]
 |j::l,T,i=>by
  simp only [bK,kg s l,Tr.bn,List.mem_cons];by_cases h:i∈l
  ·simp [h]
  ·by_cases e:j=i
   ·subst e; simp [h]
   ·simp [h,e,Ne.symm e]
theorem tG {α:Type} (s:Lay α) (l:List Nat) (i:Nat):look [bK s l .e] i=if i∈l then look s i else none:=by
 rw [cN,kg];by_cases h:i∈l
 ·simp [h]
 ·simp [h]; rfl
theorem HY {ob:Lay AO}: ∀ {is:List Nat} {l l':Lay AO},PM ob is l=some l'→cR l l'∧ ∀ i,look l' i=if i∈is then look ob i else look l i
 |[],l,l',h=>by simp only [PM,Option.some.injEq] at h; subst h; exact ⟨.refl _,fun i=>by simp⟩
 |j::is,l,l',h=>by
  simp only [PM] at h;split at h
  ·rename_i l1 h1
   obtain ⟨p1,p2⟩:=bX h1;obtain ⟨q1,q2⟩:=HY h;refine ⟨p1.trans q1,fun i=> ?_⟩;rw [q2,p2];by_cases h2:i∈is
   ·simp [h2]
   ·by_cases e:j=i
    ·subst e; simp [h2]
    ·simp [h2,e,Ne.symm e]
  ·cases h
noncomputable def uZ (all:List Oper) (tm:Lay AV) (g:Option (Nat×Bool)):Option Bool:=match g with
 |none=>some true
 |some (j,want)=>match all[j]? with
  |some o=>match o.dst with
   |some d=>match look tm d with
    |some (.bool b)=>some (match b with
     |true=>want
     |false=> !want)
    |some (.pT _)=>some false
    |_=>none
   |none=>none
  |none=>none
theorem Sk {all:List Oper} {g:Option (Nat×Bool)} {s:St} {R:Type} {K:Bool→St→Option R} {r:R} (e:DH all s g K=some r): ∃ go dc,uZ all s.tm g=some go∧K go {s with tm:=dc}=some r∧cR s.tm dc∧ ∀ j,look dc j=look s.tm j:=by
 unfold DH at e;unfold uZ;split at e
 ·exact ⟨true,s.tm,rfl,e, .refl _,fun _=>rfl⟩
 ·rename_i j want
  dsimp only;split at e
  ·rename_i o2 RS
   try rw [RS]
   try dsimp only
   split at e
   ·rename_i d hd
    try rw [hd]
    try dsimp only
    split at e
    ·rename_i b hb
     try rw [hb]
     try dsimp only
     have key: ∀ tm,put s.tm d (some (.bool b))=some tm→cR s.tm tm∧ ∀ j,look tm j=look s.tm j:=by
      intro tm h;obtain ⟨p1,p2⟩:=bX h;refine ⟨p1,fun j=> ?_⟩;rw [p2];split
      ·rename_i he; rw [← he,hb]
      ·rfl
     cases b with
     |true=>
      dsimp only at e;split at e
      ·rename_i tm htm
       obtain ⟨k1,k2⟩:=key tm htm;exact ⟨_,tm,rfl,e,k1,k2⟩
      ·cases e
     |false=>
      dsimp only at e;split at e
      ·rename_i tm htm
       obtain ⟨k1,k2⟩:=key tm htm;exact ⟨_,tm,rfl,e,k1,k2⟩
      ·cases e
    ·rename_i l hl
     try rw [hl]
     exact ⟨_,s.tm,rfl,e, .refl _,fun _=>rfl⟩
    ·cases e
   ·cases e
  ·cases e
theorem Ng {m:Mp} {Z:Nat→Prop} {w:World} {nt:Nat} {a:Act} {tm:Lay AV} {all:Array Oper} {g:Option (Nat×Bool)} {go:Bool} (e:uZ all.toList tm g=some go) (rt:bU P m w Z nt tm a.tmps) {o:Oper} (ho:o.guard=g):Region.wanted o (yielded all a.tmps)=go:=by
 unfold uZ at e;unfold Region.wanted;rw [ho];split at e
 ·cases e; rfl
 ·rename_i j want
  split at e
  ·rename_i o2 RS
   have Mr:all[j]? =some o2:=by simpa using RS
   split at e
   ·rename_i d hd
    split at e
    ·rename_i b hb
     obtain ⟨x,h1,rfl⟩:=rt.get d _ hb;cases e;cases b<;>simp [yielded,Mr,hd,h1]<;>cases want<;>rfl
    ·rename_i l hl
     obtain ⟨x,h1,h2⟩:=rt.get d _ hl;obtain ⟨vs,rfl,_⟩:=h2;cases e;simp [yielded,Mr,hd,h1]
    ·cases e
   ·cases e
  ·cases e
theorem P_ {all:List Oper} {g:Option (Nat×Bool)} {tm dc:Lay AV} (h: ∀ t∈Sim.ey all g,look dc t=look tm t):uZ all dc g=uZ all tm g:=by
 unfold uZ;split
 ·rfl
 ·rename_i j want
  cases ho:all[j]? with
  |none=>rfl
  |some o=>
   dsimp only;cases hd:o.dst with
   |none=>rfl
   |some d=>
    dsimp only;rw [h d (by unfold Sim.ey; simp [ho,hd])]
structure cV (P:Program) (Gv:gQ) (q:Bool) (call:bf):Prop where
 par: ∀ {R:Type} {K:AV→St→Option R} {r:R} {f:AV} {l:List AV} {s:St} {fr:Nat},call f l s fr K=some r→Gq fr s K r (call f l s fr K1) q
 run: ∀ {f:AV} {l:List AV} {s s':St} {fr:Nat} {v:AV},call f l s fr K1=some (v,s')→acq f=false→ ∀ {m:Mp} {Z:Nat→Prop} {w:World} {fv:Value} {lv:List Value},Rel P m Z s.ob w→bD P m w Z f fv→bu P m w Z l lv→m fr=none→(∀ j,s.next≤j→m j=none)→Gv Z w→
  ∃ g vs fn c,fv= .func (.func g) #[] ⟨vs⟩∧P.funcs[g]? =some fn∧fn.body=some c∧Calls P g ⟨lv++vs⟩ w (fun e w'=> ∃ v' m' Z',e= .returned v'∧Mv m m' Z Z' w w' fr s.ob∧Rel P m' Z' s'.ob w'∧bD P m' w' Z' v v')
theorem Sl {Gv:gQ} {call:bf} (hC:cV P Gv true call) {s:St} {R:Type} {fr:Nat} {K:AV→St→Option R} {r:R} {o:Op} (e:cr P s fr K call o=some r):Gq fr s K r (cr P s fr K1 call o) (!wr o):=by
 by_cases hv:j_ o=true
 ·cases o with
  |call c=>
   obtain ⟨callee,args,argTypes⟩:=c;cases callee with
   |value f=>
    simp only [cr] at e ⊢;split at e
    ·rename_i fa la hf hla
     try rw [hf,hla]
     try dsimp only
     split at e
     ·cases e
     ·rename_i zl
      try rw [zl]
      exact hC.par e
    ·cases e
   |_=>cases hv
  |_=>cases hv
 ·exact Vq (by simpa using hv) e
theorem acJ {fo:Option Nat} (hN:aX P) {Gv:gQ} {call:bf} (hC:cV P Gv true call) {s s':St} {fr nt:Nat} {v:AV} {o:Oper} (e:cr P s fr K1 call o.op=some (v,s')) {m:Mp} {Z:Nat→Prop} {w:World} {a:Act} (rl:Rel P m Z s.ob w) (rt:bU P m w Z nt s.tm a.tmps) (hm:m fr=none) (hfresh: ∀ j,s.next≤j→m j=none) (hg:Gv Z w)
  {next:Act→World→Prop} {Q:Exit→Act→World→Prop} (hn: ∀ m' Z' v' w',Mv m m' Z Z' w w' fr s.ob→Rel P m' Z' s'.ob w'→bD P m' w' Z' v v'→next (a.put o.dst v') w'):o.wpIn (FR fo) 0 P a w next Q:=by
 by_cases hv:j_ o.op=true
 ·obtain ⟨dst,op,type,pos,after,guard⟩:=o
  cases op with
  |call c=>
   obtain ⟨callee,args,argTypes⟩:=c;cases callee with
   |value f=>
    simp only [cr] at e;split at e
    ·rename_i fa la hf hla
     split at e
     ·cases e
     ·rename_i zl
      obtain ⟨g,vs,fn,c,q1,q2,q3,q4⟩:=hC.run e zl rl (az rt hf) (bR rt hla) hm hfresh hg;refine T_ hN (o:=⟨dst, .call ⟨.value f,args,argTypes⟩,type,pos,after,guard⟩) rfl q1 q2 q3 (q4.mono ?_);rintro e w' ⟨v',m',Z',rfl,k1,k2,k3⟩;exact ⟨v',rfl,hn m' Z' v' w' k1 k2 k3⟩
    ·cases e
   |_=>cases hv
  |_=>cases hv
 ·refine aer (by simpa using hv) rl rt hm e ?_
  intro v1 s1 m' Z' v' w' k0 k1 k2 k3 k4 k5 k6;cases k0;exact hn m' Z' v' w' k1 k2 k3
end Go.Sy
namespace Go.Sy
open Go.Sim (Tr aV bM bA bL br ef cx cY FR bN aX Ey cZ bl eO sD bF)
variable {P:Program}
theorem DO {ob l:Lay AO}: ∀ {is:List Nat},alive ob l is=true→ ∀ i∈is, ∀ o,look ob i=some o→ ∃ o',look l i=some o'
 |[],_,i,hi,_,_=>by cases hi
 |j::is,h,i,hi,o,ho=>by
  simp only [alive] at h;rcases List.mem_cons.1 hi with rfl|hi
  ·rw [ho] at h
   dsimp only at h;split at h
   ·rename_i o' h'; exact ⟨o',h'⟩
   ·cases h
  ·split at h
   ·exact DO h i hi o ho
   ·split at h
    ·exact DO h i hi o ho
    ·cases h
noncomputable def n6 (s:St) (f:cZ):Rec:=⟨f.i,fY s f.looks,wr f.o.op⟩
structure Ua (P:Program) (call:bf) (all:List Oper) (nt base:Nat) (f:cZ) (s s2 sb:St) (v:AV) (go:Bool):Prop where
 guard:uZ all s.tm f.o.guard=some go
 off:go=false→v= .pT []∧s2.ob=s.ob
 on:go=true→ ∃ iY,(∀ t,look iY t=look s.tm t)∧cr P (PL {s with tm:=iY} f.looks (fY s f.looks)) (base+f.i) K1 call f.o.op=some (v,sb)∧
  (wr f.o.op=false→Off (base+f.i) (PL {s with tm:=iY} f.looks (fY s f.looks)) sb)∧(∀ i∈fY s f.looks, ∀ o,look sb.ob i=some o→ ∃ o',look s.ob i=some o')∧ ∀ i,look s2.ob i=if i∈wb (base+f.i) (n6 s f) then look sb.ob i else look s.ob i
 lt: ∀ d,f.o.dst=some d→d<nt
 tm: ∀ t,look s2.tm t=if f.o.dst=some t then some v else look s.tm t
 Dp:cR s.tm s2.tm
 Si:cR s.ob s2.ob
 next:s2.next=s.next
theorem HZ {s s':St} (h: ∀ t,look s'.tm t=look s.tm t): ∀ l:List Nat,fY s' l=fY s l
 |[]=>rfl
 |t::l=>by simp only [fY,h,HZ h l]
theorem Ub {R:Type} {r:R} {nt:Nat} {dst:Option Nat} {v:AV} {s:St} {K:St→Option R} (e:M8 nt dst v s K=some r): ∃ dc,K {s with tm:=dc}=some r∧cR s.tm dc∧(∀ d,dst=some d→d<nt)∧ ∀ t,look dc t=if dst=some t then some v else look s.tm t:=by
 unfold M8 at e;split at e
 ·exact ⟨s.tm,e, .refl _,(fun d h=>by cases h),fun t=>by rw [if_neg (by simp)]⟩
 ·rename_i d
  split at e
  ·rename_i tm h1 h2
   obtain ⟨p1,p2⟩:=bX h2;refine ⟨tm,e,p1,(fun d' h=>by cases h; exact cY h1),fun t=> ?_⟩;rw [p2];by_cases h:d=t
   ·subst h; simp
   ·simp [h]
  ·cases e
theorem zm {Gv:gQ} {call:bf} (hC:cV P Gv true call) {all:List Oper} {nt base:Nat} {R:Type} {r:R} {K:St→Option R}: ∀ (l:List cZ) (k:Nat) (rs:List Rec) (s:St),(∀ j f,l[j]? =some f→f.i=k+j)→yE P call all nt base l rs s K=some r→
  ∃ (st sb:Nat→St) (v:Nat→AV) (go:Nat→Bool),st k=s∧K (st (k+l.length))=some r∧(∀ j f,l[j]? =some f→Ua P call all nt base f (st (k+j)) (st (k+j+1)) (sb (k+j)) (v (k+j)) (go (k+j)))∧
   (∀ j f,l[j]? =some f→go (k+j)=true→ ∀ g∈rs,qQ base g (n6 (st (k+j)) f)=true→f.mask.testBit g.i=true)∧
   ∀ j1 j2 f1 f2,j1<j2→l[j1]? =some f1→l[j2]? =some f2→go (k+j1)=true→go (k+j2)=true→qQ base (n6 (st (k+j1)) f1) (n6 (st (k+j2)) f2)=true→f2.mask.testBit f1.i=true
 |[],k,rs,s,_,e=>⟨fun _=>s,fun _=>s,fun _=> .pT [],fun _=>false,rfl,e,fun j f h=>by simp at h,fun j f h=>by simp at h,fun j1 j2 f1 f2 _ h=>by simp at h⟩
 |f::l,k,rs,s,hi,e=>by
  have hfi:f.i=k:=by simpa using hi 0 f rfl
  have hl: ∀ j g,l[j]? =some g→g.i=k+1+j:=fun j g h=>by rw [hi (j+1) g (by simpa using h)]; omega
  simp only [yE] at e;obtain ⟨go0,iY,e1,e2,e3,e4⟩:=Sk e;have glue: ∀ (s2 sb0:St) (v0:AV) (EB:List Rec),yE P call all nt base l EB s2 K=some r→Ua P call all nt base f s s2 sb0 v0 go0→(go0=true→ ∀ g∈rs,qQ base g (n6 s f)=true→f.mask.testBit g.i=true)→(∀ g∈rs,g∈EB)→(go0=true→n6 s f∈EB)→
    ∃ (st sb:Nat→St) (v:Nat→AV) (go:Nat→Bool),st k=s∧K (st (k+(f::l).length))=some r∧(∀ j g,(f::l)[j]? =some g→Ua P call all nt base g (st (k+j)) (st (k+j+1)) (sb (k+j)) (v (k+j)) (go (k+j)))∧
    (∀ j g,(f::l)[j]? =some g→go (k+j)=true→ ∀ q∈rs,qQ base q (n6 (st (k+j)) g)=true→g.mask.testBit q.i=true)∧
    ∀ j1 j2 f1 f2,j1<j2→(f::l)[j1]? =some f1→(f::l)[j2]? =some f2→go (k+j1)=true→go (k+j2)=true→qQ base (n6 (st (k+j1)) f1) (n6 (st (k+j2)) f2)=true→f2.mask.testBit f1.i=true:=by
   intro s2 sb0 v0 EB h1 h2 h3 h4 h5;obtain ⟨st,sb,v,go,a1,a2,a3,a4,a5⟩:=zm hC l (k+1) EB s2 hl h1;refine ⟨fun j=>if j=k then s else st j,fun j=>if j=k then sb0 else sb j,fun j=>if j=k then v0 else v j,fun j=>if j=k then go0 else go j,by simp, ?_, ?_, ?_, ?_⟩
   ·show K (if k+(f::l).length=k then s else st (k+(f::l).length))=some r
    rw [if_neg (by simp), ←a2]
    congr 2
    simp; omega
   ·intro j g hj
    cases j with
    |zero=>
     simp at hj; subst hj;simp only [Nat.add_zero,if_true];rw [if_neg (by omega),a1];exact h2
    |succ j=>
     simp at hj;have:=a3 j g hj;simp only [show k+(j+1)=k+1+j by omega];rw [if_neg (by omega),if_neg (by omega),if_neg (by omega),if_neg (by omega),if_neg (by omega)];exact this
   ·intro j g hj hg q hq hc
    cases j with
    |zero=>
     simp at hj; subst hj;simp at hg hc;exact h3 hg q hq hc
    |succ j=>
     simp at hj;simp only [show k+(j+1)=k+1+j by omega] at hg hc;rw [if_neg (by omega)] at hg hc;exact a4 j g hj hg q (h4 q hq) hc
   ·intro j1 j2 f1 f2 hlt pP hj2 hg1 hg2 hc
    cases j2 with
    |zero=>omega
    |succ j2=>
     simp at hj2;simp only [show k+(j2+1)=k+1+j2 by omega] at hg2 hc;rw [if_neg (by omega)] at hg2;rw [if_neg (by omega: ¬ k+1+j2=k)] at hc;cases j1 with
     |zero=>
      simp at pP; subst pP;simp at hg1 hc;exact a4 j2 f2 hj2 hg2 _ (h5 hg1) hc
     |succ j1=>
      simp at pP;simp only [show k+(j1+1)=k+1+j1 by omega] at hg1 hc;rw [if_neg (by omega)] at hg1 hc;exact a5 j1 j2 f1 f2 (by omega) pP hj2 hg1 hg2 hc
  have hft:fY {s with tm:=iY} f.looks=fY s f.looks:=HZ (s:=s) e4 _;cases go0 with
  |true=>
   dsimp only at e2;rw [hft] at e2;split at e2
   ·rename_i hw
    obtain ⟨v0,sb0,p1,p2,p3⟩:=Sl hC e2;dsimp only at p2;split at p2
    ·rename_i ob qY hal
     obtain ⟨q1,q2⟩:=HY qY;obtain ⟨nu,d1,d2,d3,d4⟩:=Ub p2;refine glue {s with tm:=nu,ob:=ob} sb0 v0 _ d1 ⟨e1,(fun h=>by cases h),fun _=>⟨iY,e4,p1,(fun h=>p3 (by rw [h]; rfl)),DO hal,q2⟩,d3,(fun t=>by rw [d4]; show (if _ then _ else look iY t)=_; rw [e4]),e3.trans d2,q1,rfl⟩ (fun _=>DN hw) (fun g hg=>List.mem_cons_of_mem _ hg) (fun _=> ?_);exact List.mem_cons_self ..
    ·cases p2
   ·cases e2
  |false=>
   dsimp only at e2;obtain ⟨nu,d1,d2,d3,d4⟩:=Ub e2;exact glue {s with tm:=nu} s (.pT []) rs d1 ⟨e1,(fun _=>⟨rfl,rfl⟩),(fun h=>by cases h),d3,(fun t=>by rw [d4]; show (if _ then _ else look iY t)=_; rw [e4]),e3.trans d2, .refl _,rfl⟩ (fun h=>by cases h) (fun g hg=>hg) (fun h=>by cases h)
end Go.Sy
namespace Go.Sy
open Go.Sim (Tr aV bM bA bL br ef cx cY FR bN aX Ey cZ bl eO th bQ eY ez sD bF cH eZ j5 dJ WG Bs wU bV)
variable {P:Program}
structure oY (P:Program) (call:bf) (ops:Array Oper) (nt base:Nat) (st sb:Nat→St) (v:Nat→AV) (go:Nat→Bool):Prop where
 all:eO (bl P ops.toList) (bl P ops.toList)=true
 one:Vd ops.toList=true
 aes:base+ops.size≤(st 0).next
 step: ∀ j f,(bl P ops.toList)[j]? =some f→Ua P call ops.toList nt base f (st j) (st (j+1)) (sb j) (v j) (go j)
 waits: ∀ j1 j2 f1 f2,j1<j2→(bl P ops.toList)[j1]? =some f1→(bl P ops.toList)[j2]? =some f2→go j1=true→go j2=true→qQ base (n6 (st j1) f1) (n6 (st j2) f2)=true→f2.mask.testBit f1.i=true
def Wr (P:Program) (ops:Array Oper) (base:Nat) (st:Nat→St) (go:Nat→Bool) (j i:Nat):Prop:= ∃ f,(bl P ops.toList)[j]? =some f∧go j=true∧i∈wb (base+f.i) (n6 (st j) f)
structure n7 (P:Program) (ops:Array Oper) (nt base:Nat) (st:Nat→St) (go:Nat→Bool) (m0:Mp) (Z0:Nat→Prop) (w0:World) (a0:Act) (L:Array Bool) (m:Mp) (Z:Nat→Prop) (a:Act) (w:World) (F:Nat→Option AO):Prop where
 rel:yY P m Z F w
 size:L.size=ops.size
 closed:sD ops.toList (fun i=>L.getD i false)
 wV:a.tmps.size=nt
 tmps: ∀ t v,look (st ops.size).tm t=some v→(∀ f∈bl P ops.toList,f.o.dst=some t→L.getD f.i false=true)→ ∃ v',a.tmps[t]? =some v'∧bD P m w Z v v'
 ob: ∀ i, ∃ p,p≤ops.size∧F i=look (st p).ob i∧(∀ j,j<p→Wr P ops base st go j i→L.getD j false=true)∧ ∀ j,p≤j→Wr P ops base st go j i→L.getD j false=false
 fresh: ∀ j,base+ops.size≤j→m j=none
 own: ∀ j,j<ops.size→L.getD j false=false→m (base+j)=none
 ext:Ext m0 m
 dF: ∀ b,Z0 b→Z b
 keep:fH Z0 w0 w
 defers:a.defers=a0.defers
 Ak:iq m0 m Z0 Z w0 w
 low:Jz base m0 m
section
variable {call:bf} {ops:Array Oper} {nt base:Nat} {st sb:Nat→St} {v:Nat→AV} {go:Nat→Bool} {m0:Mp} {Z0:Nat→Prop} {w0:World} {a0:Act} {L:Array Bool} {m:Mp} {Z:Nat→Prop} {a:Act} {w:World} {F:Nat→Option AO}
theorem rq {f:cZ} (hf:f∈bl P ops.toList):f.i<ops.size:=by
 obtain ⟨_,h,_⟩:=bQ hf;have:=(List.getElem?_eq_some_iff.1 h).1;simpa using this
theorem yI {j:Nat} {f:cZ} (h:(bl P ops.toList)[j]? =some f):f∈bl P ops.toList∧f.i=j:=by
 refine ⟨List.mem_iff_getElem?.2 ⟨j,h⟩, ?_⟩;rw [eY] at h;cases ho:ops.toList[j]? with
 |none=>rw [ho] at h; cases h
 |some o=>rw [ho] at h; cases h; rfl
theorem tH {j:Nat} (h:j<ops.size): ∃ f,(bl P ops.toList)[j]? =some f:=by
 rw [eY];have:ops.toList[j]? =some ops[j]:=by simp [h]
 rw [this]; exact ⟨_,rfl⟩
theorem oY.aau (p:oY P call ops nt base st sb v go) {f:cZ} (hf:f∈bl P ops.toList) {q:Nat} (hq:f.mask.testBit q=true):q<f.i:=by
 obtain ⟨_,h1,_,h2,_⟩:=bQ hf;rw [h2] at hq;have lt: ∀ i o,ops.toList[i]? =some o→ ∀ q∈bF o.after.toList,q<i:=by
  intro i o ho q hq;have hg:=eY (P:=P) ops.toList i;rw [ho] at hg;have hok:=ez p.all _ (List.mem_iff_getElem?.2 ⟨i,hg⟩);simp only [th,Bool.and_eq_true] at hok;exact eZ hok.1 q hq
 have:=j5 (P:=P) p.all (L:=fun i=>decide (i<f.i)) (fun i o ho hl q hq=>by
  have:=lt i o ho q hq;simp at hl ⊢; omega) (f.i+1) f.i f.o (Nat.lt_succ_self _) h1 (fun q hq=>by
  have:=lt f.i f.o h1 q hq;simpa using this) q hq
 simpa using this
theorem Nh: ∀ {l:List Oper},Vd l=true→ ∀ (i j:Nat) (o o':Oper) (d:Nat),i<j→l[i]? =some o→l[j]? =some o'→o.dst=some d→o'.dst≠some d
 |[],_,i,j,o,o',d,_,hi,_,_=>by simp at hi
 |q::l,h,i,j,o,o',d,hlt,hi,hj,hd=>by
  simp only [Vd] at h;cases j with
  |zero=>omega
  |succ j=>
   simp at hj;cases i with
   |zero=>
    simp at hi; subst hi;rw [hd] at h;dsimp only at h;split at h
    ·rename_i hall
     have:=List.all_eq_true.1 hall o' (List.mem_of_getElem? hj);intro he;rw [he] at this;simp at this
    ·cases h
   |succ i=>
    simp at hi;split at h
    ·exact Nh h i j o o' d (by omega) hi hj hd
    ·split at h
     ·exact Nh h i j o o' d (by omega) hi hj hd
     ·cases h
theorem oY.next (p:oY P call ops nt base st sb v go): ∀ j,j≤ops.size→base+ops.size≤(st j).next
 |0,_=>p.aes
 |j+1,h=>by
  obtain ⟨f,hf⟩:=tH (P:=P) (ops:=ops) (j:=j) (by omega);rw [(p.step j f hf).next]
  exact p.next j (by omega)
theorem oY.Gr (p:oY P call ops nt base st sb v go) {t:Nat}: ∀ (d k:Nat),k+d=ops.size→(∀ j f,k≤j→(bl P ops.toList)[j]? =some f→f.o.dst≠some t)→look (st ops.size).tm t=look (st k).tm t
 |0,k,h,_=>by rw [← h]; rfl
 |d+1,k,h,hn=>by
  obtain ⟨f,hf⟩:=tH (P:=P) (ops:=ops) (j:=k) (by omega);rw [oY.Gr p d (k+1) (by omega) (fun j f hj=>hn j f (by omega)),(p.step k f hf).tm,if_neg (hn k f (Nat.le_refl _) hf)]
theorem oY.aav (p:oY P call ops nt base st sb v go) {f:cZ} (hf:f∈bl P ops.toList) {t:Nat} (ht:t∈f.looks):look (st ops.size).tm t=look (st f.i).tm t:=by
 have hlt:=rq hf;refine p.Gr (ops.size - f.i) f.i (by omega) fun j g hj hg hd=> ?_
 obtain ⟨hgm,hgi⟩:=yI hg;have hok:=ez p.all f hf;simp only [th,Bool.and_eq_true] at hok;have:=p.aau hf (dJ hok.2 g hgm t hd ht);omega
theorem oY.acK (p:oY P call ops nt base st sb v go) {f:cZ} (hf:f∈bl P ops.toList) {d:Nat} (hd:f.o.dst=some d):look (st ops.size).tm d=some (v f.i):=by
 have hlt:=rq hf;obtain ⟨h0,h1,_⟩:=bQ hf;rw [p.Gr (ops.size - (f.i+1)) (f.i+1) (by omega) fun j g hj hg hdg=> ?_,(p.step f.i f h0).tm,if_pos hd];obtain ⟨hgm,hgi⟩:=yI hg;obtain ⟨_,h2,_⟩:=bQ hgm;exact Nh p.one f.i g.i f.o g.o d (by omega) h1 h2 hd hdg
theorem oY.Gs (p:oY P call ops nt base st sb v go) {i:Nat}: ∀ (d k:Nat),k+d≤ops.size→(∀ j,k≤j→j<k+d→ ¬ Wr P ops base st go j i)→look (st (k+d)).ob i=look (st k).ob i
 |0,k,_,_=>rfl
 |d+1,k,h,hn=>by
  obtain ⟨f,hf⟩:=tH (P:=P) (ops:=ops) (j:=k+d) (by omega);rw [← oY.Gs p d k (by omega) fun j h1 h2=>hn j h1 (by omega)];have hs:=p.step (k+d) f hf;show look (st (k+d+1)).ob i=_
  cases hg:go (k+d) with
  |false=>rw [(hs.off hg).2]
  |true=>
   obtain ⟨iY,_,_,_,_,h3⟩:=hs.on hg;rw [h3,if_neg];intro hw;exact hn (k+d) (by omega) (by omega) ⟨f,hf,hg,hw⟩
theorem Ni {fr i:Nat} {f:Rec}:i∈wb fr f↔i=fr∨(f.w=true∧i∈f.gP):=by
 unfold wb;split
 ·rename_i h; simp [h]
 ·rename_i h; simp [h]
theorem n7.mask (p:oY P call ops nt base st sb v go) (I:n7 P ops nt base st go m0 Z0 w0 a0 L m Z a w F) {f:cZ} (hf:f∈bl P ops.toList) (hp: ∀ q∈bF f.o.after.toList,L.getD q false=true): ∀ q,f.mask.testBit q=true→L.getD q false=true:=by
 intro q hb;obtain ⟨_,h1,_,h2,_⟩:=bQ hf;rw [h2] at hb;exact j5 p.all I.closed (f.i+1) f.i f.o (Nat.lt_succ_self _) h1 hp q hb
theorem n7.Uc (p:oY P call ops nt base st sb v go) (I:n7 P ops nt base st go m0 Z0 w0 a0 L m Z a w F) {f:cZ} (hf:f∈bl P ops.toList) (hun:L.getD f.i false=false) (hp: ∀ q∈bF f.o.after.toList,L.getD q false=true) (qI:go f.i=true)
  {i:Nat} (hi:i∈fY (st f.i) f.looks∨i=base+f.i) {j:Nat} (hw:Wr P ops base st go j i):(j<f.i→L.getD j false=true)∧(f.i<j→L.getD j false=false):=by
 obtain ⟨g,hg,OM,hgw⟩:=hw;obtain ⟨hgm,hgi⟩:=yI hg;obtain ⟨Ya,_⟩:=bQ hf;rw [Ni] at hgw;constructor
 ·intro hlt
  refine hgi ▸ I.mask p hf hp _ (p.waits j f.i g f hlt hg Ya OM qI (Li.2 ?_));rcases hi with hi|rfl
  ·rcases hgw with rfl|⟨h1,h2⟩
   ·exact .inr (.inl hi)
   ·exact .inl ⟨.inl h1,i,h2,hi⟩
  ·rcases hgw with h|⟨h1,h2⟩
   ·omega
   ·exact .inr (.inr h2)
 ·intro hlt
  cases hl:L.getD j false with
  |false=>rfl
  |true=>
   exfalso;have Yb:=p.waits f.i j f g hlt Ya hg qI OM (Li.2 (by
    rcases hi with hi|rfl
    ·rcases hgw with rfl|⟨h1,h2⟩
     ·exact .inr (.inr hi)
     ·exact .inl ⟨.inr h1,i,hi,h2⟩
    ·rcases hgw with h|⟨h1,h2⟩
     ·omega
     ·exact .inr (.inl h2)))
   obtain ⟨_,g1,_⟩:=bQ hgm;have:=I.mask p hgm (fun q hq=>I.closed g.i g.o g1 (by rw [hgi]; exact hl) q hq) _ Yb;rw [hun] at this; cases this
theorem n7.gP (p:oY P call ops nt base st sb v go) (I:n7 P ops nt base st go m0 Z0 w0 a0 L m Z a w F) {f:cZ} (hf:f∈bl P ops.toList) (hun:L.getD f.i false=false) (hp: ∀ q∈bF f.o.after.toList,L.getD q false=true) (qI:go f.i=true)
  {i:Nat} (hi:i∈fY (st f.i) f.looks∨i=base+f.i):F i=look (st f.i).ob i:=by
 obtain ⟨q,h1,h2,h3,h4⟩:=I.ob i;have hlt:=rq hf;rw [h2];rcases Nat.le_total q f.i with h|h
 ·have:=p.Gs (i:=i) (f.i - q) q (by omega) fun j a1 a2 hw=>by
   have b1:=(I.Uc p hf hun hp qI hi hw).1 (by omega);rw [h4 j a1 hw] at b1; cases b1
  rw [show q+(f.i - q)=f.i by omega] at this;exact this.symm
 ·have:=p.Gs (i:=i) (q - f.i) f.i (by omega) fun j a1 a2 hw=>by
   have b1:=h3 j (by omega) hw;rcases Nat.lt_or_eq_of_le a1 with h|h
   ·rw [(I.Uc p hf hun hp qI hi hw).2 h] at b1; cases b1
   ·rw [← h,hun] at b1; cases b1
  rw [show f.i+(q - f.i)=q by omega] at this;exact this
end
end Go.Sy
namespace Go.Sy
open Go.Sim (Tr aV bM bA bL br ef cx cY FR bN aX Ey cZ bl eO th bQ eY ez sD bF cH eZ j5 dJ WG Bs wU bV)
variable {P:Program}
section
variable {call:bf} {ops:Array Oper} {nt base:Nat} {st sb:Nat→St} {v:Nat→AV} {go:Nat→Bool} {m0:Mp} {Z0:Nat→Prop} {w0:World} {a0:Act} {L:Array Bool} {m:Mp} {Z:Nat→Prop} {a:Act} {w:World} {F:Nat→Option AO}
theorem n7.XF (p:oY P call ops nt base st sb v go) (I:n7 P ops nt base st go m0 Z0 w0 a0 L m Z a w F) {f:cZ} (hf:f∈bl P ops.toList) (hp: ∀ q∈bF f.o.after.toList,L.getD q false=true) {tm:Lay AV} (h: ∀ t x,look tm t=some x→t∈f.looks∧look (st f.i).tm t=some x):bU P m w Z nt tm a.tmps:=by
 refine ⟨I.wV,fun t x ht=> ?_⟩;obtain ⟨h1,h2⟩:=h t x ht;refine I.tmps t x (by rw [p.aav hf h1]; exact h2) fun g hg hd=> ?_
 have hok:=ez p.all f hf;simp only [th,Bool.and_eq_true] at hok;exact I.mask p hf hp _ (dJ hok.2 g hg t hd h1)
theorem n7.wW (p:oY P call ops nt base st sb v go) (I:n7 P ops nt base st go m0 Z0 w0 a0 L m Z a w F) {f:cZ} (hf:f∈bl P ops.toList) (hi:f.i<L.size) {m':Mp} {Z':Nat→Prop} {w':World} (he:Ext m m') (hw: ∀ b,Z b→w'.heap[b]? =w.heap[b]?) (hz: ∀ b,Z b→Z' b) {u:Value} (hv:bD P m' w' Z' (v f.i) u):
  (a.put f.o.dst u).tmps.size=nt∧ ∀ t x,look (st ops.size).tm t=some x→(∀ g∈bl P ops.toList,g.o.dst=some t→(L.setIfInBounds f.i true).getD g.i false=true)→ ∃ x',(a.put f.o.dst u).tmps[t]? =some x'∧bD P m' w' Z' x x':=by
 obtain ⟨Ya,_⟩:=bQ hf;have old: ∀ t x,f.o.dst≠some t→look (st ops.size).tm t=some x→(∀ g∈bl P ops.toList,g.o.dst=some t→(L.setIfInBounds f.i true).getD g.i false=true)→ ∃ x',a.tmps[t]? =some x'∧bD P m' w' Z' x x':=by
  intro t x hne hx hw2;obtain ⟨x',h1,h2⟩:=I.tmps t x hx fun g hg hgd=>by
   rcases (bV hi).1 (hw2 g hg hgd) with e|e
   ·exfalso
    obtain ⟨g1,_⟩:=bQ hg;rw [e,Ya] at g1;cases g1;exact hne hgd
   ·exact e
  exact ⟨x',h1,j7 he hw hz _ _ h2⟩
 cases G7:f.o.dst with
 |none=>exact ⟨I.wV,fun t x hx hw2=>old t x (by rw [G7]; simp) hx hw2⟩
 |some d=>
  refine ⟨by simp [Act.put,I.wV],fun t x hx hw2=> ?_⟩;by_cases e:d=t
  ·subst e
   rw [p.acK hf G7] at hx;cases hx;have hl:=(p.step f.i f Ya).lt d G7;exact ⟨u,by simp [Act.put,I.wV,hl],hv⟩
  ·obtain ⟨x',h1,h2⟩:=old t x (by rw [G7]; exact fun hh=>e (Option.some.inj hh)) hx hw2
   exact ⟨x',by simp [Act.put,Array.getElem?_setIfInBounds,e,h1],h2⟩
theorem n7.qe (I:n7 P ops nt base st go m0 Z0 w0 a0 L m Z a w F) {f:cZ} (hf:f∈bl P ops.toList) (hi:f.i<L.size) (hp: ∀ q∈bF f.o.after.toList,L.getD q false=true):sD ops.toList (fun i=>(L.setIfInBounds f.i true).getD i false):=by
 intro i o ho hl q hq;refine (bV hi).2 (.inr ?_);rcases (bV hi).1 hl with e|e
 ·subst e
  obtain ⟨_,h1,_⟩:=bQ hf;rw [h1] at ho;cases ho;exact hp q hq
 ·exact I.closed i o ho e q hq
theorem n7.skip (p:oY P call ops nt base st sb v go) (I:n7 P ops nt base st go m0 Z0 w0 a0 L m Z a w F) {f:cZ} (hf:f∈bl P ops.toList) (hi:f.i<L.size) (hp: ∀ q∈bF f.o.after.toList,L.getD q false=true) (qI:go f.i=false):
  n7 P ops nt base st go m0 Z0 w0 a0 (L.setIfInBounds f.i true) m Z (a.put f.o.dst undef) w F:=by
 obtain ⟨Ya,_⟩:=bQ hf;have hv:bD P m w Z (v f.i) undef:=by rw [((p.step f.i f Ya).off qI).1]; exact ⟨[],rfl,trivial⟩
 obtain ⟨t1,t2⟩:=I.wW p hf hi (.refl m) (fun _ _=>rfl) (fun _ h=>h) hv;refine ⟨I.rel,by simp [I.size],I.qe hf hi hp,t1,t2,fun i=> ?_,I.fresh,fun j hj hl=>I.own j hj ?_,I.ext,I.dF,I.keep,put_defers.trans I.defers,I.Ak,I.low⟩
 ·obtain ⟨q,h1,h2,h3,h4⟩:=I.ob i
  refine ⟨q,h1,h2,fun j hj hw=>(bV hi).2 (.inr (h3 j hj hw)),fun j hj hw=> ?_⟩;rw [Go.getD_set_ne false,h4 j hj hw];intro e;obtain ⟨_,_,OM,_⟩:=hw;rw [← e,qI] at OM; cases OM
 ·cases hb:L.getD j false with
  |false=>rfl
  |true=>rw [(bV hi).2 (.inr hb)] at hl; cases hl
theorem n7.next (p:oY P call ops nt base st sb v go) (I:n7 P ops nt base st go m0 Z0 w0 a0 L m Z a w F) {f:cZ} (hf:f∈bl P ops.toList) (hi:f.i<L.size) (hun:L.getD f.i false=false) (hp: ∀ q∈bF f.o.after.toList,L.getD q false=true) (qI:go f.i=true) {iY:Lay AV}
  (hoff:wr f.o.op=false→Off (base+f.i) (PL {st f.i with tm:=iY} f.looks (fY (st f.i) f.looks)) (sb f.i)) (hal: ∀ i∈fY (st f.i) f.looks, ∀ o,look (sb f.i).ob i=some o→ ∃ o',look (st f.i).ob i=some o')
  (qY: ∀ i,look (st (f.i+1)).ob i=if i∈wb (base+f.i) (n6 (st f.i) f) then look (sb f.i).ob i else look (st f.i).ob i)
  {m':Mp} {Z':Nat→Prop} {w':World} {u:Value} (Od:Mv m m' Z Z' w w' (base+f.i) (PL {st f.i with tm:=iY} f.looks (fY (st f.i) f.looks)).ob) (hrel:Rel P m' Z' (sb f.i).ob w') (hv:bD P m' w' Z' (v f.i) u):
  ∃ F',n7 P ops nt base st go m0 Z0 w0 a0 (L.setIfInBounds f.i true) m' Z' (a.put f.o.dst u) w' F':=by
 obtain ⟨Ya,_⟩:=bQ hf;have hlt:=rq hf;obtain ⟨t1,t2⟩:=I.wW p hf hi Od.ext Od.keep.heap Od.dF hv;generalize H6:fY (st f.i) f.looks=gP at*;have hsub: ∀ i o,look (PL {st f.i with tm:=iY} f.looks gP).ob i=some o→i∈gP∧F i=some o:=by
  intro i o h;have h:look [bK (st f.i).ob gP .e] i=some o:=h;rw [tG] at h;split at h
  ·rename_i hin; exact ⟨hin,by rw [I.gP p hf hun hp qI (.inl (by rw [H6]; exact hin))]; exact h⟩
  ·cases h
 have hfr:m (base+f.i)=none:=I.own f.i hlt hun;have new: ∀ i o,(i∈gP∨i=base+f.i)→(if i∈wb (base+f.i) (n6 (st f.i) f) then look (sb f.i).ob i else F i)=some o→look (sb f.i).ob i=some o:=by
  intro i o hin h;split at h
  ·exact h
  ·rename_i hnw
   rw [Ni] at hnw;have hne:i≠base+f.i:=fun e=>hnw (.inl e)
   have hif:i∈gP:=hin.resolve_right hne;have hwr:wr f.o.op=false:=by
    cases hw:wr f.o.op with
    |false=>rfl
    |true=>exact absurd (.inr ⟨hw,by show i∈fY (st f.i) f.looks; rw [H6]; exact hif⟩) hnw
   rw [hoff hwr i hne];show look [bK (st f.i).ob gP .e] i=some o
   rw [tG,if_pos hif, ←I.gP p hf hun hp qI (.inl (by rw [H6]; exact hif))];exact h
 have old: ∀ i o, ¬ (i∈gP∨i=base+f.i)→(if i∈wb (base+f.i) (n6 (st f.i) f) then look (sb f.i).ob i else F i)=some o→F i=some o∧m' i=m i:=by
  intro i o hin h;rw [if_neg] at h
  ·exact ⟨h,Od.off i fun e=>hin (.inr e)⟩
  ·rw [Ni]
   rintro (e|⟨_,e⟩)
   ·exact hin (.inr e)
   ·exact hin (.inl (by rw [← H6]; exact e))
 have far: ∀ i o q b, ¬ (i∈gP∨i=base+f.i)→F i=some o→m i=some q→af q=some b→apart m (PL {st f.i with tm:=iY} f.looks gP).ob b:=by
  intro i o q b hin h hq hb i' o' q' h' ZA hb';obtain ⟨h1,h2⟩:=hsub i' o' h';obtain rfl:=I.rel.inj i i' o o' q q' b h h2 hq ZA hb hb';exact hin (.inl h1)
 have abh: ∀ i j o o' q q' b,(i∈gP∨i=base+f.i)→ ¬ (j∈gP∨j=base+f.i)→look (sb f.i).ob i=some o→F j=some o'→m' i=some q→m j=some q'→af q=some b→af q'=some b→False:=by
  intro i j o o' q q' b hin hjn h1 h2 h3 h4 h5 h6;have hj:=(I.rel.obj j o' h2).eC h4 h6;by_cases acL:i=base+f.i
  ·subst acL
   rcases Od.place q b h3 h5 with h|h|⟨i1,o1,q1,e1,e2,e3⟩
   ·rw [hfr] at h; cases h
   ·omega
   ·exact far j o' q' b hjn h2 h4 h6 i1 o1 q1 e1 e2 e3
  ·have hif:=hin.resolve_right acL
   obtain ⟨o1,ho1⟩:=hal i hif o h1;rw [← I.gP p hf hun hp qI (.inl (by rw [H6]; exact hif))] at ho1;rw [Od.off i acL] at h3;obtain rfl:=I.rel.inj i j o1 o' q q' b ho1 h2 h3 h4 h5 h6;exact hjn (.inl hif)
 refine ⟨fun i=>if i∈wb (base+f.i) (n6 (st f.i) f) then look (sb f.i).ob i else F i,⟨hrel.zb,fun i o h=> ?_,fun i j o o' q q' b h1 h2 h3 h4 h5 h6=> ?_⟩,by simp [I.size],I.qe hf hi hp,t1,t2,fun i=> ?_,fun j hj=> ?_,fun j hj hl=> ?_,I.ext.trans Od.ext,fun b hb=>Od.dF b (I.dF b hb),I.keep.trans Od.keep I.dF,put_defers.trans I.defers,I.Ak.trans I.keep.size Od.Ak,fun j hj=>(Od.off j (by omega)).trans (I.low j hj)⟩
 ·by_cases hin:i∈gP∨i=base+f.i
  ·exact hrel.obj i o (new i o hin h)
  ·obtain ⟨h1,h2⟩:=old i o hin h
   refine (I.rel.obj i o h1).mono Od.ext Od.keep.heap Od.dF fun q b hq hb=> ?_
   have zV:=(I.rel.obj i o h1).eC hq hb;have hap:=far i o q b hin h1 hq hb;refine ⟨Od.frame b zV.1 hap,fun _ hz=> ?_⟩;rcases Od.aem b hz with h|h|⟨i1,o1,q1,e1,e2,e3⟩
   ·exact zV.2 h
   ·omega
   ·exact hap i1 o1 q1 e1 e2 e3
 ·by_cases hin:i∈gP∨i=base+f.i
  ·by_cases hjn:j∈gP∨j=base+f.i
   ·exact hrel.inj i j o o' q q' b (new i o hin h1) (new j o' hjn h2) h3 h4 h5 h6
   ·obtain ⟨k1,k2⟩:=old j o' hjn h2
    rw [k2] at h4;exact (abh i j o o' q q' b hin hjn (new i o hin h1) k1 h3 h4 h5 h6).elim
  ·obtain ⟨k1,k2⟩:=old i o hin h1
   rw [k2] at h3;by_cases hjn:j∈gP∨j=base+f.i
   ·exact (abh j i o' o q' q b hjn hin (new j o' hjn h2) k1 h4 h3 h6 h5).elim
   ·obtain ⟨k3,k4⟩:=old j o' hjn h2
    rw [k4] at h4;exact I.rel.inj i j o o' q q' b k1 k3 h3 h4 h5 h6
 ·by_cases hw:i∈wb (base+f.i) (n6 (st f.i) f)
  ·have hin:i∈fY (st f.i) f.looks∨i=base+f.i:=by
    rcases Ni.1 hw with h|⟨_,h⟩
    ·exact .inr h
    ·exact .inl h
   refine ⟨f.i+1,by omega,by rw [if_pos hw,qY,if_pos hw],fun j hj hwj=> ?_,fun j hj hwj=> ?_⟩
   ·rcases Nat.lt_or_eq_of_le (Nat.le_of_lt_succ hj) with h|h
    ·exact (bV hi).2 (.inr ((I.Uc p hf hun hp qI hin hwj).1 h))
    ·exact (bV hi).2 (.inl h)
   ·rw [Go.getD_set_ne false (by omega)]
    exact (I.Uc p hf hun hp qI hin hwj).2 (by omega)
  ·obtain ⟨q,h1,h2,h3,h4⟩:=I.ob i
   refine ⟨q,h1,by rw [if_neg hw]; exact h2,fun j hj hwj=>(bV hi).2 (.inr (h3 j hj hwj)),fun j hj hwj=> ?_⟩;rw [Go.getD_set_ne false,h4 j hj hwj];intro e;obtain ⟨g,hg,_,hgw⟩:=hwj;rw [← e,Ya] at hg;cases hg;rw [← e] at hgw;exact hw hgw
 ·rw [Od.off j (by omega)]
  exact I.fresh j hj
 ·have hne:j≠f.i:=fun e=>by rw [e,(bV hi).2 (.inl rfl)] at hl; cases hl
  rw [Od.off _ (by omega)];refine I.own j hj ?_;rw [Go.getD_set_ne false (Ne.symm hne)] at hl;exact hl
end
end Go.Sy
namespace Go.Sy
open Go.Sim (Tr aV bM bA bL br ef cx cY FR bN aX Ey cZ bl eO th bQ eY ez sD bF cH eZ j5 dJ WG Bs wU bV)
variable {P:Program}
section
variable {call:bf} {ops:Array Oper} {nt base:Nat} {st sb:Nat→St} {v:Nat→AV} {go:Nat→Bool} {m0:Mp} {Z0:Nat→Prop} {w0:World} {a0:Act}
theorem n7.ready {L:Array Bool} {m:Mp} {Z:Nat→Prop} {a:Act} {w:World} {F:Nat→Option AO} (I:n7 P ops nt base st go m0 Z0 w0 a0 L m Z a w F) {i:Nat} (hi:i∈Region.ready .any ops L):
  ∃ f,f∈bl P ops.toList∧f.i=i∧ops[i]? =some f.o∧i<L.size∧L.getD f.i false=false∧ ∀ q∈bF f.o.after.toList,L.getD q false=true:=by
 obtain ⟨h1,o,ho,h2⟩:=mem_ready.1 hi;have hlt:i<ops.size:=(Array.getElem?_eq_some_iff.1 ho).1;have hl:ops.toList[i]? =some o:=by simpa using ho
 have hg:=eY (P:=P) ops.toList i;rw [hl] at hg;refine ⟨_,List.mem_iff_getElem?.2 ⟨i,hg⟩,rfl,ho,by rw [I.size]; exact hlt, ?_, ?_⟩
 ·have:i<L.size:=by rw [I.size]; exact hlt
  simp [this] at h1 ⊢; exact h1
 ·intro q hq
  obtain ⟨e,he,hb,rfl⟩:=cH.1 hq;exact h2 e (by simpa using he) hb
theorem n7.done (p:oY P call ops nt base st sb v go) {L:Array Bool} {m:Mp} {Z:Nat→Prop} {a:Act} {w:World} {F:Nat→Option AO} (I:n7 P ops nt base st go m0 Z0 w0 a0 L m Z a w F) (hr:Region.ready .any ops L=[]): ∀ n i,i<n→i<L.size→L.getD i false=true:=by
 intro n;induction n with
 |zero=>intro i h; omega
 |succ n ih=>
  intro i hn hi;cases hl:L.getD i false with
  |true=>rfl
  |false=>
   exfalso;have hi2:i<ops.size:=by rw [← I.size]; exact hi
   have:i∈Region.ready .any ops L:=by
    refine mem_ready.2 ⟨by simp [hi] at hl ⊢; exact hl,ops[i],by simp [hi2],fun e he hb=> ?_⟩;have hg:=eY (P:=P) ops.toList i;have hl:ops.toList[i]? =some ops[i]:=by simp [hi2]
    rw [hl] at hg;have hok:=ez p.all _ (List.mem_iff_getElem?.2 ⟨i,hg⟩);simp only [th,Bool.and_eq_true] at hok;have hlt:=eZ hok.1 e.on (cH.2 ⟨e,by simpa using he,hb,rfl⟩);have hlt':e.on<i:=hlt;exact ih e.on (by omega) (by omega)
   rw [hr] at this;cases this
theorem n7.run {fo:Option Nat} (hN:aX P) {Gv:gQ} (lg:j9 Gv) (hg0:Gv Z0 w0) (hC:cV P Gv true call) (p:oY P call ops nt base st sb v go) {Q:Exit→Act→World→Prop}
  (hq: ∀ m' Z' a' w',Rel P m' Z' (st ops.size).ob w'→bU P m' w' Z' nt (st ops.size).tm a'.tmps→(∀ j,base+ops.size≤j→m' j=none)→Ext m0 m'→(∀ b,Z0 b→Z' b)→fH Z0 w0 w'→a'.defers=a0.defers→iq m0 m' Z0 Z' w0 w'→Jz base m0 m'→Q .normal a' w'):
  ∀ (fuel:Nat) (L:Array Bool) (m:Mp) (Z:Nat→Prop) (a:Act) (w:World) (F:Nat→Option AO),n7 P ops nt base st go m0 Z0 w0 a0 L m Z a w F→WG L≤fuel→wpAnyIn (FR fo) 0 P .any ops Q fuel L a w:=by
 have fin: ∀ {L:Array Bool} {m:Mp} {Z:Nat→Prop} {a:Act} {w:World} {F:Nat→Option AO},n7 P ops nt base st go m0 Z0 w0 a0 L m Z a w F→(∀ i,i<L.size→L.getD i false=true)→Q .normal a w:=by
  intro L m Z a w F I hl;have hlA: ∀ j,j<ops.size→L.getD j false=true:=fun j hj=>hl j (by rw [I.size]; exact hj)
  have hF: ∀ i,F i=look (st ops.size).ob i:=by
   intro i;obtain ⟨q,h1,h2,h3,h4⟩:=I.ob i;rw [h2];have:=p.Gs (i:=i) (ops.size - q) q (by omega) fun j a1 a2 hw=>by
    have:=h4 j a1 hw;rw [hlA j (by omega)] at this; cases this
   rw [show q+(ops.size - q)=ops.size by omega] at this;exact this.symm
  exact hq m Z a w (I.rel.to fun i o h=>by rw [hF]; exact h) ⟨I.wV,fun t x ht=>I.tmps t x ht fun f hf _=>hlA _ (rq hf)⟩ I.fresh I.ext I.dF I.keep I.defers I.Ak I.low
 intro fuel;induction fuel with
 |zero=>
  intro L m Z a w F I hu;have hl: ∀ i,i<L.size→L.getD i false=true:=fun i hi=>wU (by omega) hi
  refine ⟨?_,fin I hl⟩;cases hr:Region.ready .any ops L with
  |nil=>rfl
  |cons i l=>
   obtain ⟨f,h1,h2,h3,h4,h5,h6⟩:=I.ready (i:=i) (by rw [hr]; exact List.mem_cons_self ..);rw [hl f.i (by rw [h2]; exact h4)] at h5; cases h5
 |succ fuel ih=>
  intro L m Z a w F I hu;refine ⟨fun hr=>fin I fun i hi=>I.done p hr (i+1) i (Nat.lt_succ_self _) hi,fun i hi=> ?_⟩;obtain ⟨f,hf,rfl,ho,hlt,hun,hp⟩:=I.ready hi;have hul:=Bs hlt hun;obtain ⟨Ya,_,_,_,hlk⟩:=bQ hf;have hs:=p.step f.i f Ya;unfold wpOpIn;rw [ho];dsimp only;have hgt:bU P m w Z nt [bK (st f.i).tm f.looks .e] a.tmps:=I.XF p hf hp fun t x ht=>by
   rw [tG] at ht;split at ht
   ·rename_i h; exact ⟨h,ht⟩
   ·cases ht
  have JP:uZ ops.toList [bK (st f.i).tm f.looks .e] f.o.guard=some (go f.i):=by
   rw [P_ (tm:=(st f.i).tm) fun t ht=>by
    rw [tG,if_pos];rw [hlk];exact List.mem_append_right _ ht]
   exact hs.guard
  rw [Ng JP hgt rfl];cases qI:go f.i with
  |false=>
   rw [if_neg (by decide)];refine ⟨fun _ _=>trivial, ?_⟩;exact ih _ _ _ _ _ _ (I.skip p hf hlt hp qI) (by omega)
  |true=>
   rw [if_pos rfl];obtain ⟨iY,h1,h2,h3,h4,h5⟩:=hs.on qI;have H6: ∀ j o,look (PL {st f.i with tm:=iY} f.looks (fY (st f.i) f.looks)).ob j=some o→F j=some o:=by
    intro j o h;have h:look [bK (st f.i).ob (fY (st f.i) f.looks) .e] j=some o:=h;rw [tG] at h;split at h
    ·rename_i hin; rw [I.gP p hf hun hp qI (.inl hin)]; exact h
    ·cases h
   refine acJ hN hC (nt:=nt) h2 (I.rel.to H6) (I.XF p hf hp fun t x ht=> ?_) (I.own f.i (rq hf) hun) (fun j hj=>I.fresh j (Nat.le_trans (p.next f.i (Nat.le_of_lt (rq hf))) hj)) (lg.st hg0 I.dF I.keep) fun m' Z' v' w' k1 k2 k3=> ?_
   ·have ht:look [bK iY f.looks .e] t=some x:=ht
    rw [tG] at ht;split at ht
    ·rename_i h; exact ⟨h,by rw [← h1]; exact ht⟩
    ·cases ht
   ·obtain ⟨F',J⟩:=I.next p hf hlt hun hp qI h3 h4 h5 k1 k2 k3
    exact ih _ _ _ _ _ _ J (by omega)
end
theorem EL {fo:Option Nat} (hN:aX P) {Gv:gQ} (lg:j9 Gv) {call:bf} (hC:cV P Gv true call) {ops:List Oper} {nt base:Nat} {m:Mp} {Z:Nat→Prop} {w:World} {s:St} {a:Act} {R:Type} {r:R} {K:St→Option R} (e:T1 P call nt base ops s K=some r) (h:SR P m Z w nt s a) (hb:base+ops.length≤s.next) (hfr: ∀ j,base≤j→m j=none) (hg:Gv Z w) {Q:Exit→Act→World→Prop}
  (hq: ∀ s' m' Z' a' w',K s'=some r→SR P m' Z' w' nt s' a'→qj m m' Z Z' w w' s s' a a'→Jz base m m'→(∀ j,base+ops.length≤j→j<s.next→m' j=none)→Q .normal a' w'):wpAnyIn (FR fo) 0 P .any ⟨ops⟩ Q ops.length (Array.replicate ops.length false) a w:=by
 unfold T1 at e;split at e
 ·rename_i hall hone
  obtain ⟨ops,rfl⟩: ∃ o:Array Oper,o.toList=ops:=⟨⟨ops⟩,rfl⟩;obtain ⟨st,sb,v,go,h1,h2,h3,_,h5⟩:=zm hC (bl P ops.toList) 0 [] _ (fun j f hf=>by rw [(yI hf).2]; omega) e;have hlen:(bl P ops.toList).length=ops.size:=by
   apply Nat.le_antisymm
   ·rcases Nat.lt_or_ge ops.size (bl P ops.toList).length with hl|hl
    ·exfalso
     have:=List.getElem?_eq_getElem hl;have:=rq (List.mem_of_getElem? this);rw [(yI (List.getElem?_eq_getElem hl)).2] at this;omega
    ·exact hl
   ·rcases Nat.lt_or_ge (bl P ops.toList).length ops.size with hl|hl
    ·obtain ⟨f,hf⟩:=tH (P:=P) hl
     have:=(List.getElem?_eq_some_iff.1 hf).1;omega
    ·exact hl
  simp only [Nat.zero_add] at h2 h3 h5;rw [hlen] at h2;have hsz:ops.toList.length=ops.size:=by simp
  rw [hsz] at hb hq;have p:oY P call ops nt base st sb v go:=⟨hall,hone,by rw [h1]; exact hb,h3,h5⟩;have steps: ∀ n,n≤ops.size→cR s.tm (st n).tm∧cR s.ob (st n).ob∧(st n).next=s.next:=by
   intro n;induction n with
   |zero=>intro _; rw [h1]; exact ⟨.refl _, .refl _,rfl⟩
   |succ n ih=>
    intro hn;obtain ⟨i1,i2,i3⟩:=ih (by omega);obtain ⟨f,hf⟩:=tH (P:=P) (ops:=ops) (j:=n) (by omega);have hs:=h3 n f hf;exact ⟨i1.trans hs.Dp,i2.trans hs.Si,hs.next.trans i3⟩
  rw [hsz];refine n7.run (m0:=m) (Z0:=Z) (w0:=w) (a0:=a) hN lg hg hC p ?_ ops.size (Array.replicate ops.size false) m Z a w (look s.ob) ?_ ?_
  ·intro m' Z' a' w' k1 k2 k3 k4 k5 k6 k7 k8 k9
   obtain ⟨i1,i2,i3⟩:=steps ops.size (Nat.le_refl _);exact hq (st ops.size) m' Z' a' w' h2 ⟨k1,k2,fun j hj=>k3 j (by rw [i3] at hj; omega)⟩ ⟨k4,k5,k6, .of k7,i1,i2,by rw [i3]; omega,fun n0 Z0 hn hf=>k8 n0 Z0 hn hf⟩ k9 (fun j hj _=>k3 j hj)
  ·refine ⟨h.rel.ZD,by simp,fun i o ho hl=> ?_,h.tr.size,fun t x hx hw=> ?_,fun i=>⟨0,Nat.zero_le _,by rw [h1],fun j hj=>by omega,fun j _ _=> ?_⟩,fun j hj=>hfr j (by omega),fun j hj _=>hfr _ (by omega), .refl m,fun _ h=>h, .refl Z _,rfl, .same _ _ fun _=>rfl,fun _ _=>rfl⟩
   ·simp [Array.getElem?_replicate] at hl
    split at hl<;>cases hl
   ·have hno: ∀ j f,0≤j→(bl P ops.toList)[j]? =some f→f.o.dst≠some t:=fun j f _ hf hd=>by
     have:=hw f (yI hf).1 hd;simp [Array.getElem?_replicate] at this;split at this<;>cases this
    rw [p.Gr ops.size 0 (by omega) hno,h1] at hx;exact h.tr.get t x hx
   ·simp [Array.getElem?_replicate]; split<;>rfl
  ·unfold WG
   refine Nat.le_trans List.countP_le_length ?_;simp
 ·cases e
theorem EM {fo:Option Nat} (hN:aX P) {Gv:gQ} (lg:j9 Gv) {I:n5} (hS:BK I) (hH:Has Gv I) {call pq:bf} (hK:eH P fo I call) (hC:cV P Gv true pq) {nt base:Nat} {m:Mp} {Z:Nat→Prop} {w:World} {s:St} {a:Act} {R:Type} {r:R} (h:SR P m Z w nt s a) (hI:I m Z w) (hfr: ∀ j,base≤j→m j=none): ∀ (k:Nat) (ops:List Oper) (K:St→Option R) (Q:Exit→Act→World→Prop),
  PN P call pq nt base k ops s K=some r→base+ops.length≤s.next→
  (∀ s' m' Z' a' w',K s'=some r→SR P m' Z' w' nt s' a'→qj m m' Z Z' w w' s s' a a'→Jz base m m'→(∀ j,base+ops.length≤j→j<s.next→m' j=none)→Q .normal a' w')→wpAnyIn (FR fo) 0 P .any ⟨ops⟩ Q ops.length (Array.replicate ops.length false) a w
 |0,ops,K,Q,e,hb,hq=>EL hN lg hC e h hb hfr (hH hI) hq
 |k+1,ops,K,Q,e,hb,hq=>by
  simp only [PN] at e;split at e
  ·rename_i A z hp
   unfold Sim.XL at hp;split at hp
   ·rename_i z2 wX
    split at hp
    ·rename_i c1 c2 c3
     cases hp;have aco:ops=ops.dropLast++[z]:=by
      obtain ⟨ys,hys⟩:=List.getLast?_eq_some_iff.1 wX;have hys:ops=ys++[z]:=hys;rw [hys,List.dropLast_concat]
     have e:PN P call pq nt base k ops.dropLast s (fun s1=>Vc P call ops nt (base+ops.dropLast.length) z s1 K)=some r:=e;have c1:Sim.w8 ops.dropLast.length (bF z.after.toList)=true:=c1;have c2:Sim.sF 0 ops=true:=c2;have c3:Sim.tv ops.dropLast.length ops.dropLast=true:=c3;generalize ops.dropLast=A at*;subst aco;have hz:=Sim.uL c1;have hbl:=Sim.Ae c2;have hba: ∀ i o,A[i]? =some o→ ∀ p∈bF o.after.toList,p<i:=fun i o ho p hp=>by
      have:=hbl i o (by rw [List.getElem?_append_left (List.getElem?_eq_some_iff.1 ho).1]; exact ho) p hp;omega
     have hzb: ∀ p∈bF z.after.toList,p<A.length:=fun p hp=>by
      have:=hbl A.length z (by simp) p hp;omega
     have hg:=Sim.oW c3;have hl:(A++[z]).length=A.length+1:=by simp
     have Dy:Array.replicate (A.length+1) false=(Array.replicate A.length false).push false:=by
      apply Array.ext';simp [List.replicate_succ']
     rw [hl,Dy];rw [hl] at hb hq;refine Sim.any_push (K:=wpOpIn (FR fo) 0 P ⟨A++[z]⟩ Q A.length (Q .normal)) hz hba hg hzb (fun a w hk=>hk) _ _ _ _ (by simp) ?_;refine EM hN lg hS hH hK hC h hI hfr k A _ _ e (by omega) ?_;intro s1 m1 Z1 a1 w1 e1 e2 e3 e4 e5;show wpOpIn (FR fo) 0 P ⟨A++[z]⟩ Q A.length (Q .normal) a1 w1
     refine Ap (all:=⟨A++[z]⟩) hN hK (by simp) e1 e2 (hS hI e3.ext e3.dF e3.keep) (by have:=e3.next; omega) (e5 _ (Nat.le_refl _) (by omega)) ?_
     intro s2 m2 Z2 a2 w2 y1 y2 y3 y4;refine hq s2 m2 Z2 a2 w2 y1 y2 (e3.trans y3) (fun j hj=>(y4 j (by have:=e3.next; omega) (by omega)).trans (e4 j hj)) (fun j x1 x2=> ?_)
     rw [y4 j (by have:=e3.next; omega) (by omega)]
     exact e5 j (by omega) x2
    ·cases hp
   ·cases hp
  ·exact EL hN lg hC e h hb hfr (hH hI) hq
theorem Qa {fo:Option Nat} (hN:aX P) (hM:P.follows .mixedOrders=true) {Gv:gQ} (lg:j9 Gv) {I:n5} (hS:BK I) (hH:Has Gv I) {call pq:bf} (hK:eH P fo I call) (hC:cV P Gv true pq) {ops:Array Oper} {nt id:Nat} {m:Mp} {Z:Nat→Prop} {w:World} {s:St} {a:Act} {R:Type} {r:R} {K:St→Option R} (e:X2 P call pq nt ops.toList s K=some r) (h:SR P m Z w nt s a) (hI:I m Z w) {Q:Exit→Act→World→Prop}
  (hq: ∀ s' m' Z' a' w',K s'=some r→SR P m' Z' w' nt s' a'→qj m m' Z Z' w w' s s' a a'→Jz s.next m m'→Q .normal a' w'):(Code.region id ops true).wpIn (FR fo) 0 P Q a w:=by
 unfold X2 at e;rw [j6] at e;refine wpIn_region_any hM ?_;have hk:fH Z w {w with drawn:=w.drawn+1}:= .drew Z w;have hs1:SR P m Z {w with drawn:=w.drawn+1} nt {s with next:=s.next+ops.toList.length} a:=⟨h.rel.drew,h.tr.mono (.refl m) (fun _ _=>rfl) (fun _ h=>h),fun j hj=>h.fresh j (by have:s.next+ops.toList.length≤j:=hj; omega)⟩
 have:=EM (fo:=fo) (base:=s.next) hN lg hS hH hK hC hs1 (hS hI (.refl m) (fun _ h=>h) hk) h.fresh 12 ops.toList K Q e (Nat.le_refl _) fun s' m' Z' a' w' k0 k1 k2 k3 _=>by
  refine hq s' m' Z' a' w' k0 k1 ⟨k2.ext,k2.dF,hk.trans k2.keep (fun _ h=>h),k2.defers.from hk.size,k2.Dp,k2.Si, ?_,fun n0 Z0 hn hf=>k2.Ak n0 Z0 hn hf⟩ k3;have:=k2.next
  have h3:s.next+ops.toList.length≤s'.next:=this
  omega
 simpa using this
theorem xp {mask:Nat}: ∀ {l:List Nat},BD mask l=true↔ ∀ q∈l,mask.testBit q=true
 |[]=>by simp [BD]
 |q::l=>by
  simp only [BD];split
  ·rename_i h; rw [xp (l:=l)]; simp [h]
  ·rename_i h; simp [h]
theorem u5 {mask:Nat}: ∀ {l:List Oper} {k i:Nat} {o:Oper},(i,o)∈sJ mask k l↔ ∃ j,i=k+j∧l[j]? =some o∧mask.testBit i=false∧ ∀ q∈bF o.after.toList,mask.testBit q=true
 |[],k,i,o=>by simp [sJ]
 |x::l,k,i,o=>by
  have ih:=u5 (mask:=mask) (l:=l) (k:=k+1) (i:=i) (o:=o);have step:(∃ j,i=k+j∧(x::l)[j]? =some o∧mask.testBit i=false∧ ∀ q∈bF o.after.toList,mask.testBit q=true)↔(i=k∧x=o∧mask.testBit i=false∧ ∀ q∈bF o.after.toList,mask.testBit q=true)∨ ∃ j,i=k+1+j∧l[j]? =some o∧mask.testBit i=false∧ ∀ q∈bF o.after.toList,mask.testBit q=true:=by
   constructor
   ·rintro ⟨j,h1,h2,h3⟩
    cases j with
    |zero=>simp at h2; exact .inl ⟨by omega,h2,h3⟩
    |succ j=>simp at h2; exact .inr ⟨j,by omega,h2,h3⟩
   ·rintro (⟨h1,h2,h3⟩|⟨j,h1,h2,h3⟩)
    ·exact ⟨0,by omega,by simp [h2],h3⟩
    ·exact ⟨j+1,by omega,by simpa using h2,h3⟩
  rw [step, ←ih];simp only [sJ];split
  ·rename_i hb
   constructor
   ·exact .inr
   ·rintro (⟨rfl,_,h,_⟩|h)
    ·rw [hb] at h; cases h
    ·exact h
  ·rename_i hb
   split
   ·rename_i ha
    rw [List.mem_cons];constructor
    ·rintro (h|h)
     ·cases h; exact .inl ⟨rfl,rfl,hb,xp.1 ha⟩
     ·exact .inr h
    ·rintro (⟨rfl,rfl,_⟩|h)
     ·exact .inl rfl
     ·exact .inr h
   ·rename_i ha
    constructor
    ·exact .inr
    ·rintro (⟨rfl,rfl,_,h⟩|h)
     ·rw [xp.2 h] at ha; cases ha
     ·exact h
theorem Sm {R:Type} {x y:Option R} {r:R} (h:eI x y=some r):x=some r∧y=some r:=by
 unfold eI at h;split at h
 ·rename_i e; exact ⟨h,e ▸ h⟩
 ·cases h
theorem EN {α R:Type} {f:α→Option R} {r:R}: ∀ {l:List α} {x:α},Sa f x l=some r→ ∀ y∈x::l,f y=some r
 |[],x,h,y,hy=>by
  obtain rfl:=List.mem_singleton.1 hy;exact h
 |z::l,x,h,y,hy=>by
  obtain ⟨h1,h2⟩:=Sm h;rcases List.mem_cons.1 hy with rfl|hy
  ·exact h1
  ·exact EN h2 y hy
theorem testBit_or {mask i j:Nat}:(mask ||| (1 <<< i)).testBit j=(mask.testBit j||decide (i=j)):=by
 rw [Nat.testBit_or,Nat.one_shiftLeft,Nat.testBit_two_pow]
theorem Nj {fo:Option Nat} (hN:aX P) {I:n5} (hS:BK I) {call:bf} (hK:eH P fo I call) {ops:Array Oper} {nt base:Nat} {R:Type} {r:R} {K:St→Option R} {Q:Exit→Act→World→Prop}: ∀ (n mask:Nat) (s:St) (m:Mp) (Z:Nat→Prop) (w:World) (a:Act) (L:Array Bool),
  HK P call ops.toList nt base n mask s K=some r→L.size=ops.size→(∀ i,i<ops.size→L.getD i false=mask.testBit i)→(∀ i,ops.size≤i→mask.testBit i=false)→SR P m Z w nt s a→I m Z w→base+ops.size≤s.next→(∀ i,i<ops.size→mask.testBit i=false→m (base+i)=none)→
  (∀ s' m' Z' a' w',K s'=some r→SR P m' Z' w' nt s' a'→qj m m' Z Z' w w' s s' a a'→Jz base m m'→Q .normal a' w')→wpAnyIn (FR fo) 0 P .any ops Q n L a w:=by
 have rdy: ∀ {mask:Nat} {L:Array Bool},L.size=ops.size→(∀ i,i<ops.size→L.getD i false=mask.testBit i)→(∀ i,ops.size≤i→mask.testBit i=false)→ ∀ {i:Nat},i∈Region.ready .any ops L→ ∃ o,(i,o)∈sJ mask 0 ops.toList∧ops[i]? =some o∧i<ops.size:=by
  intro mask L hL hm hm2 i hi;obtain ⟨h1,o,ho,h2⟩:=mem_ready.1 hi;have hlt:i<ops.size:=(Array.getElem?_eq_some_iff.1 ho).1;refine ⟨o,u5.2 ⟨i,by omega,by simpa using ho, ?_,fun q hq=> ?_⟩,ho,hlt⟩
  ·rw [← hm i hlt]
   have:i<L.size:=by omega
   simp [this] at h1 ⊢; exact h1
  ·obtain ⟨e,he,hb,rfl⟩:=cH.1 hq
   have h3:=h2 e (by simpa using he) hb;by_cases HN:e.on<ops.size
   ·rw [← hm _ HN]; exact h3
   ·have: ¬ e.on<L.size:=by omega
    simp [this] at h3
 intro n;induction n with
 |zero=>
  intro mask s m Z w a L e hL hm hm2 hs hI hb hfr hq;simp only [HK] at e;split at e
  ·rename_i hr
   refine ⟨?_,hq s m Z a w e hs (.refl ..) (fun _ _=>rfl)⟩;cases hx:Region.ready .any ops L with
   |nil=>rfl
   |cons i l=>
    obtain ⟨o,h1,_⟩:=rdy hL hm hm2 (i:=i) (by rw [hx]; exact List.mem_cons_self ..);rw [hr] at h1; cases h1
  ·cases e
 |succ n ih=>
  intro mask s m Z w a L e hL hm hm2 hs hI hb hfr hq;simp only [HK] at e;split at e
  ·rename_i hr
   refine ⟨fun _=>hq s m Z a w e hs (.refl ..) (fun _ _=>rfl),fun i hi=> ?_⟩;obtain ⟨o,h1,_⟩:=rdy hL hm hm2 hi;rw [hr] at h1; cases h1
  ·rename_i x l hr
   refine ⟨fun hx=> ?_,fun i hi=> ?_⟩
   ·exfalso
    obtain ⟨i,o⟩:=x;obtain ⟨j,h1,h2,h3,h4⟩:=u5.1 (show (i,o)∈sJ mask 0 ops.toList by rw [hr]; exact List.mem_cons_self ..);obtain rfl:i=j:=by omega
    have ho:ops[i]? =some o:=by simpa using h2
    have hlt:i<ops.size:=(Array.getElem?_eq_some_iff.1 ho).1;have:i∈Region.ready .any ops L:=by
     refine mem_ready.2 ⟨?_,o,ho,fun e he hbd=> ?_⟩
     ·have h5:=hm i hlt
      rw [h3] at h5;have:i<L.size:=by omega
      simp [this] at h5 ⊢; exact h5
     ·have h5:=h4 e.on (cH.2 ⟨e,by simpa using he,hbd,rfl⟩)
      by_cases HN:e.on<ops.size
      ·rw [hm _ HN]; exact h5
      ·rw [hm2 _ (by omega)] at h5; cases h5
    rw [hx] at this; cases this
   ·obtain ⟨o,h1,ho,hlt⟩:=rdy hL hm hm2 hi
    have e1:=EN e (i,o) (by rw [← hr]; exact h1);obtain ⟨j,g1,g2,g3,g4⟩:=u5.1 h1;refine Ap hN hK ho e1 hs hI (by show base+i<s.next; omega) (hfr i hlt g3) ?_
    intro s1 m1 Z1 a1 w1 y1 y2 y3 y4;have Yb: ∀ j,(mask ||| (1 <<< i)).testBit j=(mask.testBit j||decide (i=j)):=fun j=>testBit_or
    refine ih _ s1 m1 Z1 w1 a1 (L.setIfInBounds i true) y1 (by simp [hL]) (fun j hj=> ?_) (fun j hj=> ?_) y2 (hS hI y3.ext y3.dF y3.keep) (by have:=y3.next; omega) (fun j hj hbj=> ?_) ?_
    ·rw [Yb]
     by_cases e:i=j
     ·subst e; simp [hL,hlt]
     ·rw [Go.getD_set_ne false e,hm j hj]; simp [e]
    ·rw [Yb,hm2 j hj]
     have:i≠j:=by omega
     simp [this]
    ·rw [Yb] at hbj
     simp only [Bool.or_eq_false_iff,decide_eq_false_iff_not] at hbj;rw [y4 _ (by omega) (by omega)];exact hfr j hj hbj.1
    ·intro s2 m2 Z2 a2 w2 z1 z2 z3 z4
     exact hq s2 m2 Z2 a2 w2 z1 z2 (y3.trans z3) (fun j hj=>(z4 j hj).trans (y4 j (by omega) (by omega)))
theorem Sn {fo:Option Nat} (hN:aX P) (hM:P.follows .mixedOrders=true) {I:n5} (hS:BK I) {call:bf} (hK:eH P fo I call) {ops:Array Oper} {nt id:Nat} {m:Mp} {Z:Nat→Prop} {w:World} {s:St} {a:Act} {R:Type} {r:R} {K:St→Option R} (e:acw P call nt ops.toList s K=some r) (h:SR P m Z w nt s a) (hI:I m Z w) {Q:Exit→Act→World→Prop}
  (hq: ∀ s' m' Z' a' w',K s'=some r→SR P m' Z' w' nt s' a'→qj m m' Z Z' w w' s s' a a'→Jz s.next m m'→Q .normal a' w'):(Code.region id ops true).wpIn (FR fo) 0 P Q a w:=by
 unfold acw at e;rw [j6] at e;refine wpIn_region_any hM ?_;have hk:fH Z w {w with drawn:=w.drawn+1}:= .drew Z w;have hs1:SR P m Z {w with drawn:=w.drawn+1} nt {s with next:=s.next+ops.toList.length} a:=⟨h.rel.drew,h.tr.mono (.refl m) (fun _ _=>rfl) (fun _ h=>h),fun j hj=>h.fresh j (by have:s.next+ops.toList.length≤j:=hj; omega)⟩
 have hsz:ops.toList.length=ops.size:=by simp
 have:=Nj (fo:=fo) (Q:=Q) hN hS hK ops.toList.length 0 _ m Z {w with drawn:=w.drawn+1} a (Array.replicate ops.size false) e (by simp) (fun i hi=>by simp [Array.getElem?_replicate]; split<;>rfl) (fun i hi=>by simp) hs1 (hS hI (.refl m) (fun _ h=>h) hk) (by show s.next+ops.size≤s.next+ops.toList.length; omega) (fun i _ _=>h.fresh _ (by omega)) fun s' m' Z' a' w' k0 k1 k2 k3=>by
  refine hq s' m' Z' a' w' k0 k1 ⟨k2.ext,k2.dF,hk.trans k2.keep (fun _ h=>h),k2.defers.from hk.size,k2.Dp,k2.Si, ?_,fun n0 Z0 hn hf=>k2.Ak n0 Z0 hn hf⟩ k3;have:=k2.next
  have h3:s.next+ops.toList.length≤s'.next:=this
  omega
 rw [hsz] at this;exact this
end Go.Sy
namespace Go.Sy
open Go.Sim (Tr aV bM bA bL br ef cx cY)
variable {P:Program}
mutual
theorem Ud {m:Mp} {w:World} {Z:Nat→Prop}: ∀ (v:AV) (u:Value),bD P m w Z v u→ ∀ i∈fF v, ∃ p,m i=some p
 | .own i,u,h,j,hj=>by
  simp only [fF,List.mem_singleton] at hj; subst hj;obtain ⟨p,h1,_⟩:=h; exact ⟨_,h1⟩
 | .ptr i off,u,h,j,hj=>by
  simp only [fF,List.mem_singleton] at hj; subst hj;obtain ⟨b,h1,_⟩:=h; exact ⟨_,h1⟩
 | .vM i,u,h,j,hj=>by
  simp only [fF,List.mem_singleton] at hj; subst hj;obtain ⟨b,rc,h1,_⟩:=h; exact ⟨_,h1⟩
 | .nZ i e k off,u,h,j,hj=>by
  simp only [fF,List.mem_singleton] at hj; subst hj;obtain ⟨b,o,n,c,h1,_⟩:=h; exact ⟨_,h1⟩
 | .agg l wh,u,h,j,hj=>by
  obtain ⟨vs,_,h2,_⟩:=h; exact xq l vs h2 j hj
 | .pT l,u,h,j,hj=>by
  obtain ⟨vs,_,h2⟩:=h; exact xq l vs h2 j hj
 | .fn f c,u,h,j,hj=>by
  obtain ⟨vs,_,h2⟩:=h; exact xq c vs h2 j hj
 | .int _ _,_,_,_,hj| .bool _,_,_,_,hj| .str _,_,_,_,hj| .list _ _,_,_,_,hj| .sG _ _ _ _,_,_,_,hj| .wA _,_,_,_,hj| .gp _ _,_,_,_,hj=>by simp [fF] at hj
theorem xq {m:Mp} {w:World} {Z:Nat→Prop}: ∀ (l:List AV) (vs:List Value),bu P m w Z l vs→ ∀ i∈fF.tD l, ∃ p,m i=some p
 |[],_,_,j,hj=>by simp [fF.tD] at hj
 |a::l,[],h,_,_=>h.elim
 |a::l,v::vs,h,j,hj=>by
  simp only [fF.tD,List.mem_append] at hj;rcases hj with hj|hj
  ·exact Ud a v h.1 j hj
  ·exact xq l vs h.2 j hj
end
mutual
theorem H7 {m m':Mp} {w:World} {Z:Nat→Prop}: ∀ (v:AV) (u:Value),(∀ i∈fF v,m' i=m i)→bD P m w Z v u→bD P m' w Z v u
 | .own i,u,hm,h=>by
  obtain ⟨p,h1,h2⟩:=h; exact ⟨p,by rw [hm i (by simp [fF])]; exact h1,h2⟩
 | .ptr i off,u,hm,h=>by
  obtain ⟨b,h1,h2⟩:=h; exact ⟨b,by rw [hm i (by simp [fF])]; exact h1,h2⟩
 | .vM i,u,hm,h=>by
  obtain ⟨b,rc,h1,h2⟩:=h; exact ⟨b,rc,by rw [hm i (by simp [fF])]; exact h1,h2⟩
 | .nZ i e k off,u,hm,h=>by
  obtain ⟨b,o,n,c,h1,h2⟩:=h; exact ⟨b,o,n,c,by rw [hm i (by simp [fF])]; exact h1,h2⟩
 | .agg l wh,u,hm,h=>by
  obtain ⟨vs,h1,h2,h3⟩:=h; exact ⟨vs,h1,pW l vs hm h2,h3⟩
 | .pT l,u,hm,h=>by
  obtain ⟨vs,h1,h2⟩:=h; exact ⟨vs,h1,pW l vs hm h2⟩
 | .fn f c,u,hm,h=>by
  obtain ⟨vs,h1,h2⟩:=h; exact ⟨vs,h1,pW c vs hm h2⟩
 | .int _ _,_,_,h| .bool _,_,_,h| .str _,_,_,h| .list _ _,_,_,h| .sG _ _ _ _,_,_,h| .wA _,_,_,h| .gp _ _,_,_,h=>h
theorem pW {m m':Mp} {w:World} {Z:Nat→Prop}: ∀ (l:List AV) (vs:List Value),(∀ i∈fF.tD l,m' i=m i)→bu P m w Z l vs→bu P m' w Z l vs
 |[],[],_,_=>trivial
 |a::l,v::vs,hm,h=>⟨H7 a v (fun i hi=>hm i (by simp only [fF.tD,List.mem_append]; exact .inl hi)) h.1,pW l vs (fun i hi=>hm i (by simp only [fF.tD,List.mem_append]; exact .inr hi)) h.2⟩
 |[],_::_,_,h=>h.elim
 |_::_,[],_,h=>h.elim
end
mutual
theorem EO {m:Mp} {w:World} {Z:Nat→Prop}: ∀ (v v':AV) (u:Value),Bz v v'=true→bD P m w Z v u→bD P m w Z v' u
 | .ptr i o, .ptr j q,u,h,g=>by
  simp only [Bz] at h;split at h
  ·rename_i h1
   obtain rfl:=br h1;obtain rfl:=br h;exact g
  ·cases h
 | .fn f c, .fn k d,u,h,g=>by
  simp only [Bz] at h;split at h
  ·rename_i h1
   obtain rfl:=br h1;obtain ⟨vs,h2,h3⟩:=g;exact ⟨vs,h2,EP c d vs h h3⟩
  ·cases h
 | .wA a, .wA b,u,h,g=>by
  obtain ⟨rfl,g2,g3⟩:=g;have:u=b:=by
   have h:XU u b=true:=h;unfold XU at h;split at h
   ·rfl
   ·rfl
   ·rfl
   ·cases h
  subst this;exact ⟨rfl,g2,g3⟩
 | .pT a, .pT b,u,h,g=>by
  cases a with
  |nil=>cases b with
   |nil=>exact g
   |cons _ _=>cases h
  |cons _ _=>cases h
 | .int _ _,_,u,h,_| .bool _,_,u,h,_| .str _,_,u,h,_| .list _ _,_,u,h,_| .own _,_,u,h,_| .sG _ _ _ _,_,u,h,_| .nZ _ _ _ _,_,u,h,_| .agg _ _,_,u,h,_| .gp _ _,_,u,h,_=>by cases h
 | .ptr _ _, .int _ _,u,h,_| .ptr _ _, .bool _,u,h,_| .ptr _ _, .str _,u,h,_| .ptr _ _, .list _ _,u,h,_| .ptr _ _, .own _,u,h,_| .ptr _ _, .sG _ _ _ _,u,h,_| .ptr _ _, .nZ _ _ _ _,u,h,_| .ptr _ _, .agg _ _,u,h,_| .ptr _ _, .pT _,u,h,_| .ptr _ _, .fn _ _,u,h,_| .ptr _ _, .wA _,u,h,_| .ptr _ _, .vM _,u,h,_| .ptr _ _, .gp _ _,u,h,_=>by cases h
 | .fn _ _, .int _ _,u,h,_| .fn _ _, .bool _,u,h,_| .fn _ _, .str _,u,h,_| .fn _ _, .list _ _,u,h,_| .fn _ _, .own _,u,h,_| .fn _ _, .sG _ _ _ _,u,h,_| .fn _ _, .nZ _ _ _ _,u,h,_| .fn _ _, .agg _ _,u,h,_| .fn _ _, .pT _,u,h,_| .fn _ _, .ptr _ _,u,h,_| .fn _ _, .wA _,u,h,_| .fn _ _, .vM _,u,h,_| .fn _ _, .gp _ _,u,h,_=>by cases h
 | .wA _, .int _ _,u,h,_| .wA _, .bool _,u,h,_| .wA _, .str _,u,h,_| .wA _, .list _ _,u,h,_| .wA _, .own _,u,h,_| .wA _, .sG _ _ _ _,u,h,_| .wA _, .nZ _ _ _ _,u,h,_| .wA _, .agg _ _,u,h,_| .wA _, .pT _,u,h,_| .wA _, .ptr _ _,u,h,_| .wA _, .fn _ _,u,h,_| .wA _, .vM _,u,h,_| .wA _, .gp _ _,u,h,_=>by cases h
 | .pT _, .int _ _,u,h,_| .pT _, .bool _,u,h,_| .pT _, .str _,u,h,_| .pT _, .list _ _,u,h,_| .pT _, .own _,u,h,_| .pT _, .sG _ _ _ _,u,h,_| .pT _, .nZ _ _ _ _,u,h,_| .pT _, .agg _ _,u,h,_| .pT _, .wA _,u,h,_| .pT _, .ptr _ _,u,h,_| .pT _, .fn _ _,u,h,_| .pT _, .vM _,u,h,_| .pT _, .gp _ _,u,h,_=>by cases h
theorem EP {m:Mp} {w:World} {Z:Nat→Prop}: ∀ (l l':List AV) (vs:List Value),Bz.K7 l l'=true→bu P m w Z l vs→bu P m w Z l' vs
 |[],[],_,_,g=>g
 |a::l,b::r,[],_,g=>g.elim
 |a::l,b::r,v::vs,h,g=>by
  simp only [Bz.K7] at h;split at h
  ·rename_i h1; exact ⟨EO a b v h1 g.1,EP l r vs h g.2⟩
  ·cases h
 |[],_::_,_,h,_=>by simp [Bz.K7] at h
 |_::_,[],_,h,_=>by simp [Bz.K7] at h
end
theorem yY.freeze {m:Mp} {Z:Nat→Prop} {F F':Nat→Option AO} {w:World} (r:yY P m Z F w) {ids:List Nat} (dW: ∀ i∈ids, ∃ o,F i=some o) (hF: ∀ j,F' j=if j∈ids then none else F j):yY P m (Zo m ids Z) F' w where
 zb:=fun b hb=>by
  rcases hb with hb|⟨i,hi,o,n,c,hm⟩
  ·exact r.zb b hb
  ·obtain ⟨q,hq⟩:=dW i hi
   exact ((r.obj i q hq).eC hm rfl).1
 obj:=fun i o hi=>by
  rw [hF] at hi;split at hi
  ·cases hi
  ·rename_i hni
   refine (r.obj i o hi).mono (.refl m) (fun _ _=>rfl) (fun b h=> .inl h) fun p b hp hb=>⟨rfl,fun hz Na=> ?_⟩
   rcases Na with h|⟨j,hj,o',n,c,hm⟩
   ·exact hz h
   ·obtain ⟨q,hq⟩:=dW j hj
    have:=r.inj i j o q p _ b hi hq hp hm hb rfl;subst this;exact hni hj
 inj:=fun i j o o' p q b hi hj=>by
  rw [hF] at hi hj;split at hi
  ·cases hi
  ·split at hj
   ·cases hj
   ·exact r.inj i j o o' p q b hi hj
def isVar:AO→Bool
 | .box _ _=>true
 |_=>false
theorem gZ.under {m m':Mp} {Z:Nat→Prop} {w:World} {i n:Nat} {o:AO} (h:gZ P m w Z i o) (ho:isVar o=false) (hm:m' n=m i):gZ P m' w Z n o:=by
 cases o with
 |box _ _=>cases ho
 |row e l=>obtain ⟨a,c,h1,h2⟩:=h; exact ⟨a,c,hm.trans h1,h2⟩
 |mp t l=>obtain ⟨b,k,v,h1,h2⟩:=h; exact ⟨b,k,v,hm.trans h1,h2⟩
theorem yY.rename {m:Mp} {Z:Nat→Prop} {F F':Nat→Option AO} {w:World} (r:yY P m Z F w) {i n:Nat} {x:AO} (hx:isVar x=false) (hi:F i=some x) (hn:m n=none) {p:Pl} (hp:m i=some p) (hF: ∀ j,F' j=if n=j then some x else if i=j then none else F j):yY P (m.up n p) Z F' w where
 zb:=r.zb
 obj:=fun j o hj=>by
  rw [hF] at hj;split at hj
  ·rename_i h; cases hj; subst h
   exact (r.obj i _ hi).under hx (by rw [Mp.bg,hp])
  ·split at hj
   ·cases hj
   ·exact (r.obj j o hj).mono (.up hn p) (fun _ _=>rfl) (fun _ h=>h) fun q b _ _=>⟨rfl,fun h=>h⟩
 inj:=fun j k o o' q q' b hj hk hq ZA hb hb'=>by
  rw [hF] at hj hk;have key: ∀ j o q,(if n=j then some x else if i=j then none else F j)=some o→(m.up n p) j=some q→(n=j∧q=p)∨(n≠j∧i≠j∧F j=some o∧m j=some q):=by
   intro j o q h1 h2;by_cases h:n=j
   ·subst h; rw [Mp.bg] at h2; exact .inl ⟨rfl,(Option.some.inj h2).symm⟩
   ·rw [if_neg h] at h1
    rw [Mp.fR m p (Ne.symm h)] at h2;split at h1
    ·cases h1
    ·rename_i h3; exact .inr ⟨h,h3,h1,h2⟩
  rcases key j o q hj hq with ⟨rfl,rfl⟩|⟨a1,a2,a3,a4⟩
  ·rcases key k o' q' hk ZA with ⟨rfl,rfl⟩|⟨b1,b2,b3,b4⟩
   ·rfl
   ·exact absurd (r.inj i k _ _ q q' b hi b3 hp b4 hb hb') b2
  ·rcases key k o' q' hk ZA with ⟨rfl,rfl⟩|⟨b1,b2,b3,b4⟩
   ·exact absurd (r.inj i j _ _ q' q b hi a3 hp a4 hb' hb) a2
   ·exact r.inj j k o o' q q' b a3 b3 a4 b4 hb hb'
theorem yY.acM {m:Mp} {Z:Nat→Prop} {F F':Nat→Option AO} {w:World} (r:yY P m Z F w) {n:Nat} {e:TypeId} (hn:m n=none) (hF: ∀ j,F' j=if n=j then some (.row e []) else F j):yY P (m.up n (.row none 0 0)) Z F' w where
 zb:=r.zb
 obj:=fun j o hj=>by
  rw [hF] at hj;split at hj
  ·rename_i h; cases hj; subst h
   exact ⟨none,0,Mp.bg .., .inl ⟨rfl,rfl,rfl⟩⟩
  ·exact (r.obj j o hj).mono (.up hn _) (fun _ _=>rfl) (fun _ h=>h) fun q b _ _=>⟨rfl,fun h=>h⟩
 inj:=fun j k o o' q q' b hj hk hq ZA hb hb'=>by
  rw [hF] at hj hk;have key: ∀ j o q,(if n=j then some (.row e []) else F j)=some o→(m.up n (.row none 0 0)) j=some q→af q=some b→F j=some o∧m j=some q:=by
   intro j o q h1 h2 h3;by_cases h:n=j
   ·subst h; rw [Mp.bg] at h2; cases h2; cases h3
   ·rw [if_neg h] at h1
    rw [Mp.fR m _ (Ne.symm h)] at h2;exact ⟨h1,h2⟩
  obtain ⟨a1,a2⟩:=key j o q hj hq hb;obtain ⟨b1,b2⟩:=key k o' q' hk ZA hb';exact r.inj j k o o' q q' b a1 b1 a2 b2 hb hb'
end Go.Sy
namespace Go.Sy
open Go.Sim (Tr aV bM bA bL br ef cx cY)
variable {P:Program}
theorem yJ {ρ p q:List PV} {k:Nat} (h: ∀ j,j<(p++q).length→nth ρ (k+j)=nth (p++q) j):(∀ j,j<p.length→nth ρ (k+j)=nth p j)∧ ∀ j,j<q.length→nth ρ (k+p.length+j)=nth q j:=by
 constructor
 ·intro j hj
  rw [h j (by simp; omega)];simp [nth,List.getElem?_append_left hj]
 ·intro j hj
  rw [Nat.add_assoc,h (p.length+j) (by simp; omega)];simp [nth,List.getElem?_append_right]
structure Mid (P:Program) (m0:Mp) (Z0:Nat→Prop) (ZE:Lay AO) (w:World) (N:Nat) (m:Mp) (Z:Nat→Prop) (F:Nat→Option AO) (gone:List Nat) (n:Nat):Prop where
 rel:yY P m Z F w
 ext:Ext m0 m
 dF: ∀ b,Z0 b→Z b
 same: ∀ i,i<N→i∉gone→F i=look ZE i
 fresh: ∀ j,n≤j→m j=none
 top:N≤n
theorem Zo.mono {m m':Mp} {ids:List Nat} {Z Z':Nat→Prop} (he:Ext m m') (hz: ∀ b,Z b→Z' b) {b:Nat} (h:Zo m ids Z b):Zo m' ids Z' b:=by
 rcases h with h|⟨i,hi,o,n,c,hm⟩
 ·exact .inl (hz b h)
 ·exact .inr ⟨i,hi,o,n,c,he _ _ hm⟩
def FH (m m':Mp) (Z Z':Nat→Prop):Prop:= ∀ n0 Z0,Fen n0 Z0 m Z→Fen n0 Z0 m' Z'
theorem FH.trans {a b c:Mp} {Z Z1 Z2:Nat→Prop} (h:FH a b Z Z1) (g:FH b c Z1 Z2):FH a c Z Z2:=fun n0 Z0 hf=>g n0 Z0 (h n0 Z0 hf)
theorem FH.freeze (m:Mp) (ids:List Nat) (Z:Nat→Prop):FH m m Z (Zo m ids Z):=fun n0 Z0 hf=>⟨hf.1,fun b hb=>by
 rcases hb with hb|⟨i,_,o,n,c,hm⟩
 ·exact hf.2 b hb
 ·exact .inr (hf.1 i _ b hm rfl)⟩
theorem FH.up {m:Mp} {Z:Nat→Prop} {n:Nat} {p:Pl} (h: ∀ b,af p=some b→ ∃ i,m i=some p):FH m (m.up n p) Z Z:=fun n0 Z0 hf=>⟨fun i q b hi hb=>by
 unfold Mp.up at hi;split at hi
 ·cases hi
  obtain ⟨j,hj⟩:=h b hb;exact hf.1 j p b hj hb
 ·exact hf.1 i q b hi hb,hf.2⟩
theorem Yc {m0 m:Mp} {Z0 Z:Nat→Prop} {s:St} {w:World} {N n n' k k':Nat} {F:Nat→Option AO} {gone o:List Nat} {h:uP} {v v':AV} {u:Value} {p ρ:List PV} {objs:List (Nat×AO)} (r0:Rel P m0 Z0 s.ob w) (dW: ∀ i q,look s.ob i=some q→i<N) (M:Mid P m0 Z0 s.ob w N m Z F gone n)
  (hv:bD P m0 w Z0 v u) (e:tC P s h v=some (p,o)) (b:sI P h ρ k n=some (v',k',n',objs)) (hρ: ∀ j,j<p.length→nth ρ (k+j)=nth p j) (hno: ∀ i∈o,i∉gone):
  k'=k+p.length∧ ∃ m' Z' F',Mid P m0 Z0 s.ob w N m' Z' F' (gone++o) n'∧Ext m m'∧(∀ b,Z b→Z' b)∧bD P m' w Z' v' u∧(∀ i x,(i,x)∈objs→n≤i∧i<n'∧F' i=some x)∧(∀ i,i<n→i∉o→F' i=F i)∧(∀ i∈o,F' i=none)∧(∀ i,n≤i→i<n'→ ∃ x,(i,x)∈objs)∧n≤n'∧(∀ i∈o,i<N)∧FH m m' Z Z'∧Jz n m m':=by
 cases h with
 |val t=>
  simp only [tC] at e;split at e
  ·rename_i q hq
   cases e;simp only [sI] at b;split at b
   ·rename_i x hx
    cases b;obtain ⟨g1,g2⟩:=jO r0 hv hq;have hlv: ∀ i∈lH P t v, ∃ y,F i=some y:=fun i hi=>by
     obtain ⟨y,hy⟩:=g2 i hi;exact ⟨y,by rw [M.same i (dW i y hy) (hno i hi)]; exact hy⟩
    have hr:=M.rel.freeze (F':=fun j=>if j∈lH P t v then none else F j) hlv (fun j=>rfl);have HN:nth ρ k=q:=by have:=hρ 0 (by simp); simpa [nth] using this
    rw [HN] at hx;refine ⟨rfl,m,Zo m (lH P t v) Z,_,⟨hr,M.ext,fun b hb=> .inl (M.dF b hb),fun i hi hg=> ?_,M.fresh,M.top⟩, .refl m,fun b hb=> .inl hb,jN (g1.mono (fun _ _=>rfl) fun b hb=>hb.mono M.ext M.dF) hx,fun i x h=>by simp at h,fun i _ hi=>if_neg hi,fun i hi=>if_pos hi,(fun i h1 h2=>by omega),Nat.le_refl _,(fun i hi=>by obtain ⟨y,hy⟩:=g2 i hi; exact dW i y hy), .freeze _ _ _,fun _ _=>rfl⟩;rw [List.mem_append] at hg;show (if i∈lH P t v then none else F i)=_
    rw [if_neg (fun h=>hg (.inr h))];exact M.same i hi (fun h=>hg (.inl h))
   ·cases b
  ·cases e
 |own el=>
  simp only [sI,Option.some.injEq,Prod.mk.injEq] at b;obtain ⟨rfl,rfl,rfl,rfl⟩:=b;have hn:m n=none:=M.fresh n (Nat.le_refl _);simp only [tC] at e;split at e
  ·rename_i i
   split at e
   ·rename_i e' l hrow
    split at e
    ·rename_i hb
     obtain rfl:=br hb;cases e;have hl:(nth ρ k).toList=l:=by have:=hρ 0 (by simp); rw [Nat.add_zero] at this; rw [this]; rfl
     rw [hl];have hlk:=dD hrow;have hFi:F i=some (.row el l):=by rw [M.same i (dW i _ hlk) (hno i (List.mem_singleton.2 rfl))]; exact hlk
     obtain ⟨pl,h1,h2⟩:=hv;have hm:=M.ext _ _ h1;have hne:n≠i:=fun e=>by rw [e,hm] at hn; cases hn
     have hr:=M.rel.rename (F':=fun j=>if n=j then some (.row el l) else if i=j then none else F j) rfl hFi hn hm (fun j=>rfl);refine ⟨rfl,_,Z,_,⟨hr,M.ext.trans (.up hn _),M.dF,fun j hj hg=> ?_,fun j hj=> ?_,by have:=M.top; omega⟩, .up hn _,fun _ h=>h,⟨pl,Mp.bg ..,h2⟩,fun j x hx=> ?_,fun j hj hjo=> ?_,fun j hj=> ?_,fun j h3 h4=>(by obtain rfl:j=n:=(by omega); exact ⟨_,List.mem_singleton.2 rfl⟩),by omega,(fun j hj=>by rw [List.mem_singleton.1 hj]; exact dW i _ hlk),(.up fun _ _=>⟨i,hm⟩),fun j hj=>Mp.fR m _ (by omega)⟩
     ·simp only [List.mem_append,List.mem_singleton,not_or] at hg
      have:=M.top;show (if n=j then _ else if i=j then none else F j)=_
      rw [if_neg (by omega),if_neg (fun e=>hg.2 e.symm)];exact M.same j hj hg.1
     ·rw [Mp.fR m _ (by omega)]; exact M.fresh j (by omega)
     ·simp only [List.mem_singleton,Prod.mk.injEq] at hx
      obtain ⟨rfl,rfl⟩:=hx;exact ⟨Nat.le_refl _,by omega,if_pos rfl⟩
     ·simp only [List.mem_singleton] at hjo
      show (if n=j then _ else if i=j then none else F j)=_
      rw [if_neg (by omega),if_neg (fun e=>hjo e.symm)]
     ·simp only [List.mem_singleton] at hj
      subst hj;show (if n=j then _ else if j=j then none else F j)=_
      rw [if_neg hne,if_pos rfl]
    ·cases e
   ·cases e
  ·cases e
   have hl:(nth ρ k).toList=[]:=by have:=hρ 0 (by simp); rw [Nat.add_zero] at this; rw [this]; rfl
   rw [hl];obtain ⟨rfl,_⟩:=hv;have hr:=M.rel.acM (e:=el) (F':=fun j=>if n=j then some (.row el []) else F j) hn (fun j=>rfl);refine ⟨rfl,_,Z,_,⟨hr,M.ext.trans (.up hn _),M.dF,fun j hj hg=> ?_,fun j hj=> ?_,by have:=M.top; omega⟩, .up hn _,fun _ h=>h,⟨_,Mp.bg ..,rfl⟩,fun j x hx=> ?_,fun j hj hjo=> ?_,fun j hj=>by simp at hj,fun j h3 h4=>(by obtain rfl:j=n:=(by omega); exact ⟨_,List.mem_singleton.2 rfl⟩),by omega,(fun j hj=>by simp at hj),(.up fun b hb=>by cases hb),fun j hj=>Mp.fR m _ (by omega)⟩
   ·have:=M.top
    show (if n=j then _ else F j)=_
    rw [if_neg (by omega)];exact M.same j hj (by simpa using hg)
   ·rw [Mp.fR m _ (by omega)]; exact M.fresh j (by omega)
   ·simp only [List.mem_singleton,Prod.mk.injEq] at hx
    obtain ⟨rfl,rfl⟩:=hx;exact ⟨Nat.le_refl _,by omega,if_pos rfl⟩
   ·show (if n=j then _ else F j)=_
    rw [if_neg (by omega)]
  ·cases e
 |M5 el=>
  simp only [sI,Option.some.injEq,Prod.mk.injEq] at b;obtain ⟨rfl,rfl,rfl,rfl⟩:=b;have hn:m n=none:=M.fresh n (Nat.le_refl _);simp only [tC] at e;split at e
  ·rename_i i
   split at e
   ·rename_i e' l hrow
    split at e
    ·rename_i hb
     obtain rfl:=br hb;cases e;have hl:(nth ρ k).toList=l:=by have:=hρ 0 (by simp); rw [Nat.add_zero] at this; rw [this]; rfl
     rw [hl];have hlk:=Aj hrow;have hFi:F i=some (.mp el l):=by rw [M.same i (dW i _ hlk) (hno i (List.mem_singleton.2 rfl))]; exact hlk
     obtain ⟨pl,h1,h2⟩:=hv;have hm:=M.ext _ _ h1;have hne:n≠i:=fun e=>by rw [e,hm] at hn; cases hn
     have hr:=M.rel.rename (F':=fun j=>if n=j then some (.mp el l) else if i=j then none else F j) rfl hFi hn hm (fun j=>rfl);refine ⟨rfl,_,Z,_,⟨hr,M.ext.trans (.up hn _),M.dF,fun j hj hg=> ?_,fun j hj=> ?_,by have:=M.top; omega⟩, .up hn _,fun _ h=>h,⟨pl,Mp.bg ..,h2⟩,fun j x hx=> ?_,fun j hj hjo=> ?_,fun j hj=> ?_,fun j h3 h4=>(by obtain rfl:j=n:=(by omega); exact ⟨_,List.mem_singleton.2 rfl⟩),by omega,(fun j hj=>by rw [List.mem_singleton.1 hj]; exact dW i _ hlk),(.up fun _ _=>⟨i,hm⟩),fun j hj=>Mp.fR m _ (by omega)⟩
     ·simp only [List.mem_append,List.mem_singleton,not_or] at hg
      have:=M.top;show (if n=j then _ else if i=j then none else F j)=_
      rw [if_neg (by omega),if_neg (fun e=>hg.2 e.symm)];exact M.same j hj hg.1
     ·rw [Mp.fR m _ (by omega)]; exact M.fresh j (by omega)
     ·simp only [List.mem_singleton,Prod.mk.injEq] at hx
      obtain ⟨rfl,rfl⟩:=hx;exact ⟨Nat.le_refl _,by omega,if_pos rfl⟩
     ·simp only [List.mem_singleton] at hjo
      show (if n=j then _ else if i=j then none else F j)=_
      rw [if_neg (by omega),if_neg (fun e=>hjo e.symm)]
     ·simp only [List.mem_singleton] at hj
      subst hj;show (if n=j then _ else if j=j then none else F j)=_
      rw [if_neg hne,if_pos rfl]
    ·cases e
   ·cases e
  ·cases e
 |same x=>
  simp only [sI,Option.some.injEq,Prod.mk.injEq] at b;obtain ⟨rfl,rfl,rfl,rfl⟩:=b;simp only [tC] at e;split at e
  ·rename_i hs
   cases e;refine ⟨rfl,m,Z,F,⟨M.rel,M.ext,M.dF,fun i hi hg=>M.same i hi (by simpa using hg),M.fresh,M.top⟩, .refl m,fun _ h=>h,j7 M.ext (fun _ _=>rfl) M.dF _ _ (EO v _ u hs hv),fun i x h=>by simp at h,fun i _ _=>rfl,(fun i hi=>by simp at hi),(fun i h1 h2=>by omega),Nat.le_refl _,(fun i hi=>by simp at hi),(fun _ _ h=>h),fun _ _=>rfl⟩
  ·cases e
structure Out (P:Program) (m0:Mp) (Z0:Nat→Prop) (ZE:Lay AO) (w:World) (N:Nat) (gone o:List Nat) (n n':Nat) (objs:List (Nat×AO)) (m:Mp) (Z:Nat→Prop) (F:Nat→Option AO) (m':Mp) (Z':Nat→Prop) (F':Nat→Option AO):Prop where
 mid:Mid P m0 Z0 ZE w N m' Z' F' (gone++o) n'
 ext:Ext m m'
 dF: ∀ b,Z b→Z' b
 made: ∀ i x,(i,x)∈objs→n≤i∧i<n'∧F' i=some x
 off: ∀ i,i<n→i∉o→F' i=F i
 dead: ∀ i∈o,F' i=none
 cov: ∀ i,n≤i→i<n'→ ∃ x,(i,x)∈objs
 le:n≤n'
 low: ∀ i∈o,i<N
 Ak:FH m m' Z Z'
 aaw:Jz n m m'
theorem Out.trans {m0:Mp} {Z0:Nat→Prop} {ZE:Lay AO} {w:World} {N:Nat} {gone o o2:List Nat} {n n' n2:Nat} {objs ru:List (Nat×AO)} {m m' m2:Mp} {Z Z' Z2:Nat→Prop} {F F' F2:Nat→Option AO}
  (h:Out P m0 Z0 ZE w N gone o n n' objs m Z F m' Z' F') (g:Out P m0 Z0 ZE w N (gone++o) o2 n' n2 ru m' Z' F' m2 Z2 F2) (hd: ∀ i∈o2,i∉o) (ht:N≤n):Out P m0 Z0 ZE w N gone (o++o2) n n2 (objs++ru) m Z F m2 Z2 F2 where
 mid:=by have:=g.mid; rw [List.append_assoc] at this; exact this
 ext:=h.ext.trans g.ext
 dF:=fun b hb=>g.dF b (h.dF b hb)
 made:=fun i x hx=>by
  rcases List.mem_append.1 hx with hx|hx
  ·obtain ⟨a,b,c⟩:=h.made i x hx
   have:=g.le;refine ⟨a,by omega, ?_⟩;rw [g.off i b fun hi=>by have:=g.low i hi; omega];exact c
  ·obtain ⟨a,b,c⟩:=g.made i x hx
   have:=h.le;exact ⟨by omega,b,c⟩
 off:=fun i hi ho=>by
  rw [List.mem_append,not_or] at ho;have:=h.le;rw [g.off i (by omega) ho.2,h.off i hi ho.1]
 dead:=fun i hi=>by
  rcases List.mem_append.1 hi with hi|hi
  ·have:=h.low i hi
   have:=h.le;rw [g.off i (by omega) fun h2=>hd i h2 hi];exact h.dead i hi
  ·exact g.dead i hi
 cov:=fun i h1 h2=>by
  by_cases hi:i<n'
  ·obtain ⟨x,hx⟩:=h.cov i h1 hi; exact ⟨x,List.mem_append_left _ hx⟩
  ·obtain ⟨x,hx⟩:=g.cov i (by omega) h2; exact ⟨x,List.mem_append_right _ hx⟩
 le:=Nat.le_trans h.le g.le
 low:=fun i hi=>(List.mem_append.1 hi).elim (h.low i) (g.low i)
 Ak:=h.Ak.trans g.Ak
 aaw:=h.aaw.trans h.le g.aaw
theorem Out.none {m0:Mp} {Z0:Nat→Prop} {ZE:Lay AO} {w:World} {N:Nat} {gone:List Nat} {n:Nat} {m:Mp} {Z:Nat→Prop} {F:Nat→Option AO} (M:Mid P m0 Z0 ZE w N m Z F gone n):Out P m0 Z0 ZE w N gone [] n n [] m Z F m Z F:=
 ⟨(by rw [List.append_nil]; exact M), .refl m,fun _ h=>h,(fun i x h=>by cases h),fun _ _ _=>rfl,(fun i h=>by cases h),(fun i _ _=>by omega),Nat.le_refl _,(fun i h=>by cases h),(fun _ _ h=>h),fun _ _=>rfl⟩
theorem Qb {m0 m:Mp} {Z0 Z:Nat→Prop} {s:St} {w:World} {N n n' k k':Nat} {F:Nat→Option AO} {gone o:List Nat} {h:uP} {v v':AV} {u:Value} {p ρ:List PV} {objs:List (Nat×AO)} (r0:Rel P m0 Z0 s.ob w) (dW: ∀ i q,look s.ob i=some q→i<N) (M:Mid P m0 Z0 s.ob w N m Z F gone n)
  (hv:bD P m0 w Z0 v u) (e:tC P s h v=some (p,o)) (b:sI P h ρ k n=some (v',k',n',objs)) (hρ: ∀ j,j<p.length→nth ρ (k+j)=nth p j) (hno: ∀ i∈o,i∉gone):
  k'=k+p.length∧ ∃ m' Z' F',Out P m0 Z0 s.ob w N gone o n n' objs m Z F m' Z' F'∧bD P m' w Z' v' u:=by
 obtain ⟨h1,m',Z',F',a1,a2,a3,a4,a5,a6,a7,a8,a9,yK,zn,P2⟩:=Yc r0 dW M hv e b hρ hno;exact ⟨h1,m',Z',F',⟨a1,a2,a3,a5,a6,a7,a8,a9,yK,zn,P2⟩,a4⟩
theorem Lj {m0:Mp} {Z0:Nat→Prop} {s:St} {w:World} {N:Nat} {ρ:List PV} (r0:Rel P m0 Z0 s.ob w) (dW: ∀ i q,look s.ob i=some q→i<N): ∀ (hs:List uP) (vs:List AV) (us:List Value) {m:Mp} {Z:Nat→Prop} {n n' k k':Nat} {F:Nat→Option AO} {gone o:List Nat} {vs':List AV} {p:List PV} {objs:List (Nat×AO)},
  Mid P m0 Z0 s.ob w N m Z F gone n→bu P m0 w Z0 vs us→vP P s hs vs=some (p,o)→FD P hs ρ k n=some (vs',k',n',objs)→(∀ j,j<p.length→nth ρ (k+j)=nth p j)→(∀ i∈o,i∉gone)→o.Nodup→
  k'=k+p.length∧ ∃ m' Z' F',Out P m0 Z0 s.ob w N gone o n n' objs m Z F m' Z' F'∧bu P m' w Z' vs' us
 |[],[],us,m,Z,n,n',k,k',F,gone,o,vs',p,objs,M,hv,e,b,hρ,hno,hnd=>by
  simp only [vP,Option.some.injEq,Prod.mk.injEq] at e;simp only [FD,Option.some.injEq,Prod.mk.injEq] at b;obtain ⟨rfl,rfl⟩:=e;obtain ⟨rfl,rfl,rfl,rfl⟩:=b;cases us with
  |nil=>exact ⟨rfl,m,Z,F, .none M,trivial⟩
  |cons _ _=>exact hv.elim
 |h::hs,v::vs,us,m,Z,n,n',k,k',F,gone,o,vs',p,objs,M,hv,e,b,hρ,hno,hnd=>by
  simp only [vP] at e;split at e
  ·rename_i p1 o1 p2 o2 e1 e2
   cases e;simp only [FD] at b;split at b
   ·rename_i v1 k1 n1 BE b1
    split at b
    ·rename_i l2 k2 n2 Vs b2
     cases b;cases us with
     |nil=>exact hv.elim
     |cons u us=>
      obtain ⟨q1,q2⟩:=yJ hρ;obtain ⟨d1,d2,d3⟩:=List.nodup_append.1 hnd;obtain ⟨rfl,m1,Z1,F1,O1,g1⟩:=Qb r0 dW M hv.1 e1 b1 q1 (fun i hi=>hno i (List.mem_append_left _ hi));obtain ⟨g2,m2,Z2,F2,O2,g3⟩:=Lj r0 dW hs vs us O1.mid hv.2 e2 b2 q2 (fun i hi hg=>by
       rcases List.mem_append.1 hg with hg|hg
       ·exact hno i (List.mem_append_right _ hi) hg
       ·exact d3 i hg i hi rfl) d2
      exact ⟨by rw [g2]; simp; omega,m2,Z2,F2,O1.trans O2 (fun i hi hg=>d3 i hg i hi rfl) M.top,j7 O2.ext (fun _ _=>rfl) O2.dF _ _ g1,g3⟩
    ·cases b
   ·cases b
  ·cases e
 |[],_::_,_,_,_,_,_,_,_,_,_,_,_,_,_,_,_,e,_,_,_,_=>by simp [vP] at e
 |_::_,[],_,_,_,_,_,_,_,_,_,_,_,_,_,_,_,e,_,_,_,_=>by simp [vP] at e
theorem H8 {m0:Mp} {Z0:Nat→Prop} {s:St} {w:World} {N nt:Nat} {a:Array Value} {ρ:List PV} (r0:Rel P m0 Z0 s.ob w) (rt:bU P m0 w Z0 nt s.tm a) (dW: ∀ i q,look s.ob i=some q→i<N): ∀ (S:List (Nat×uP)) {m:Mp} {Z:Nat→Prop} {n n' k k':Nat} {F:Nat→Option AO} {gone o:List Nat} {T T':Tr (Option AV)} {p:List PV} {objs:List (Nat×AO)},
  Mid P m0 Z0 s.ob w N m Z F gone n→EH P s S=some (p,o)→FE P S ρ k n T=some (T',k',n',objs)→(∀ j,j<p.length→nth ρ (k+j)=nth p j)→(∀ i∈o,i∉gone)→o.Nodup→
  (∀ t v,T.get t=some (some v)→ ∃ u,a[t]? =some u∧bD P m w Z v u)→
  k'=k+p.length∧ ∃ m' Z' F',Out P m0 Z0 s.ob w N gone o n n' objs m Z F m' Z' F'∧(∀ t v,T'.get t=some (some v)→ ∃ u,a[t]? =some u∧bD P m' w Z' v u)∧ ∀ t,(t∈S.map (·.1)→T'.get t≠none)∧(t∉S.map (·.1)→T'.get t=T.get t)
 |[],m,Z,n,n',k,k',F,gone,o,T,T',p,objs,M,e,b,hρ,hno,hnd,hT=>by
  simp only [EH,Option.some.injEq,Prod.mk.injEq] at e;simp only [FE,Option.some.injEq,Prod.mk.injEq] at b;obtain ⟨rfl,rfl⟩:=e;obtain ⟨rfl,rfl,rfl,rfl⟩:=b;exact ⟨rfl,m,Z,F, .none M,hT,fun t=>⟨fun h=>by simp at h,fun _=>rfl⟩⟩
 |(t0,h)::S,m,Z,n,n',k,k',F,gone,o,T,T',p,objs,M,e,b,hρ,hno,hnd,hT=>by
  simp only [EH] at e;split at e
  ·rename_i v Yd
   split at e
   ·rename_i p1 o1 p2 o2 e1 e2
    cases e;simp only [FE] at b;split at b
    ·rename_i v1 k1 n1 BE b1
     split at b
     ·rename_i T2 k2 n2 Vs b2
      cases b;obtain ⟨u,hu1,hu2⟩:=rt.get t0 v Yd;obtain ⟨q1,q2⟩:=yJ hρ;obtain ⟨d1,d2,d3⟩:=List.nodup_append.1 hnd;obtain ⟨rfl,m1,Z1,F1,O1,g1⟩:=Qb r0 dW M hu2 e1 b1 q1 (fun i hi=>hno i (List.mem_append_left _ hi));obtain ⟨g2,m2,Z2,F2,O2,g3,g4⟩:=H8 r0 rt dW S O1.mid e2 b2 q2 (fun i hi hg=>by
       rcases List.mem_append.1 hg with hg|hg
       ·exact hno i (List.mem_append_right _ hi) hg
       ·exact d3 i hg i hi rfl) d2 (fun t x ht=>by
       rw [Tr.bn] at ht;by_cases h:t0=t
       ·rw [if_pos h] at ht
        simp only [Option.some.injEq] at ht;subst ht; subst h;exact ⟨u,hu1,g1⟩
       ·rw [if_neg h] at ht
        obtain ⟨u',h1,h2⟩:=hT t x ht;exact ⟨u',h1,j7 O1.ext (fun _ _=>rfl) O1.dF _ _ h2⟩)
      refine ⟨by rw [g2]; simp; omega,m2,Z2,F2,O1.trans O2 (fun i hi hg=>d3 i hg i hi rfl) M.top,g3,fun t=>⟨fun ht=> ?_,fun ht=> ?_⟩⟩
      ·by_cases h:t∈S.map (·.1)
       ·exact (g4 t).1 h
       ·rw [(g4 t).2 h,Tr.bn]
        simp only [List.map_cons,List.mem_cons] at ht;rw [if_pos (ht.resolve_right h).symm];simp
      ·simp only [List.map_cons,List.mem_cons,not_or] at ht
       rw [(g4 t).2 ht.2,Tr.bn,if_neg (fun h=>ht.1 h.symm)]
     ·cases b
    ·cases b
   ·cases e
  ·cases e
end Go.Sy
namespace Go.Sy
open Go.Sim (Tr aV bM bA bL br ef cx cY)
variable {P:Program}
mutual
theorem BU {m:Mp} {w:World} {Z:Nat→Prop}: ∀ (v:AV) (u:Value),bD P m w Z v u→ ∀ i∈cW v, ∃ p,m i=some p∧p.HL=true
 | .own i,u,h,j,hj=>by
  simp only [cW,List.mem_singleton] at hj; subst hj;obtain ⟨p,h1,h2⟩:=h;refine ⟨p,h1, ?_⟩;cases p with
  |row _ _ _=>rfl
  |mp _=>rfl
  |box _=>exact h2.elim
  |lp _ _=>exact h2.elim
 | .agg l wh,u,h,j,hj=>by
  obtain ⟨vs,_,h2,_⟩:=h; exact DP l vs h2 j hj
 | .pT l,u,h,j,hj=>by
  obtain ⟨vs,_,h2⟩:=h; exact DP l vs h2 j hj
 | .fn _ _,_,_,_,hj| .ptr _ _,_,_,_,hj| .nZ _ _ _ _,_,_,_,hj| .int _ _,_,_,_,hj| .bool _,_,_,_,hj| .str _,_,_,_,hj| .list _ _,_,_,_,hj| .sG _ _ _ _,_,_,_,hj| .wA _,_,_,_,hj| .vM _,_,_,_,hj| .gp _ _,_,_,_,hj=>by simp [cW] at hj
theorem DP {m:Mp} {w:World} {Z:Nat→Prop}: ∀ (l:List AV) (vs:List Value),bu P m w Z l vs→ ∀ i∈cW.mG l, ∃ p,m i=some p∧p.HL=true
 |[],_,_,j,hj=>by simp [cW.mG] at hj
 |a::l,[],h,_,_=>h.elim
 |a::l,v::vs,h,j,hj=>by
  simp only [cW.mG,List.mem_append] at hj;rcases hj with hj|hj
  ·exact BU a v h.1 j hj
  ·exact DP l vs h.2 j hj
end
theorem Vt {t:TypeId} {v:AV} {i:Nat} (h:i∈lH P t v):i∈cW v:=by
 unfold lH at h;split at h
 ·split at h
  ·simp at h
  ·exact h
 ·exact h
theorem Ll {m:Mp} {w:World} {Z:Nat→Prop} {s:St} {h:uP} {v:AV} {u:Value} {p:List PV} {o:List Nat} (hv:bD P m w Z v u) (e:tC P s h v=some (p,o)): ∀ i∈o, ∃ p,m i=some p∧p.HL=true:=by
 intro i hi;cases h with
 |val t=>
  simp only [tC] at e;split at e
  ·cases e; exact BU v u hv i (Vt hi)
  ·cases e
 |own el=>
  simp only [tC] at e;split at e
  ·split at e
   ·split at e
    ·cases e; exact BU _ u hv i hi
    ·cases e
   ·cases e
  ·cases e; simp at hi
  ·cases e
 |M5 el=>
  simp only [tC] at e;split at e
  ·split at e
   ·split at e
    ·cases e; exact BU _ u hv i hi
    ·cases e
   ·cases e
  ·cases e
 |same x=>
  simp only [tC] at e;split at e
  ·cases e; simp at hi
  ·cases e
theorem Lm {m:Mp} {w:World} {Z:Nat→Prop} {s:St}: ∀ {hs:List uP} {vs:List AV} {us:List Value} {p:List PV} {o:List Nat},bu P m w Z vs us→vP P s hs vs=some (p,o)→ ∀ i∈o, ∃ p,m i=some p∧p.HL=true
 |[],[],us,p,o,hv,e,i,hi=>by simp only [vP,Option.some.injEq,Prod.mk.injEq] at e; rw [← e.2] at hi; simp at hi
 |h::hs,v::vs,us,p,o,hv,e,i,hi=>by
  simp only [vP] at e;split at e
  ·rename_i p1 o1 p2 o2 e1 e2
   cases e;cases us with
   |nil=>exact hv.elim
   |cons u us=>
    rcases List.mem_append.1 hi with hi|hi
    ·exact Ll hv.1 e1 i hi
    ·exact Lm hv.2 e2 i hi
  ·cases e
 |[],_::_,_,_,_,_,e,_,_=>by simp [vP] at e
 |_::_,[],_,_,_,_,e,_,_=>by simp [vP] at e
def iW (B:List (Nat×List uP)):List Nat:=B.map (·.1)
def Ye (P:Program) (m0:Mp) (w:World) (m':Mp) (Z':Nat→Prop) (i:Nat) (vs:List AV):Prop:=
 (∃ b cc ty fz,m0 i=some (.box b)∧w.heap[b]? =some (.cells cc ty fz)∧bu P m' w Z' vs cc.toList)∨ ∃ b rc q us,m0 i=some (.lp b rc)∧bu P m' w Z' vs us∧K_ rc us=some q∧w.heap[b]? =some (.loop q)
theorem Ye.mono {m0:Mp} {w:World} {m m':Mp} {Z Z':Nat→Prop} {i:Nat} {vs:List AV} (h:Ye P m0 w m Z i vs) (he:Ext m m') (hz: ∀ b,Z b→Z' b):Ye P m0 w m' Z' i vs:=by
 rcases h with ⟨b,cc,ty,fz,h1,h2,h3⟩|⟨b,rc,q,us,h1,h2,h3,h4⟩
 ·exact .inl ⟨b,cc,ty,fz,h1,h2,d_ he (fun _ _=>rfl) hz _ _ h3⟩
 ·exact .inr ⟨b,rc,q,us,h1,d_ he (fun _ _=>rfl) hz _ _ h2,h3,h4⟩
theorem H9 {m0:Mp} {Z0:Nat→Prop} {s:St} {w:World} {N:Nat} {ρ:List PV} (r0:Rel P m0 Z0 s.ob w) (dW: ∀ i q,look s.ob i=some q→i<N): ∀ (B:List (Nat×List uP)) {m:Mp} {Z:Nat→Prop} {n n' k k':Nat} {F:Nat→Option AO} {gone o:List Nat} {p:List PV} {objs:List (Nat×AO)},
  Mid P m0 Z0 s.ob w N m Z F gone n→PI P s B=some (p,o)→FF P B ρ k n=some (k',n',objs)→(∀ j,j<p.length→nth ρ (k+j)=nth p j)→(∀ i∈o,i∉gone)→o.Nodup→
  ∃ m' Z' F' rows,Out P m0 Z0 s.ob w N gone o n n' rows m Z F m' Z' F'∧(∀ i∈o, ∃ p,m0 i=some p∧p.HL=true)∧(∀ i x,(i,x)∈objs→(i,x)∈rows∨(i∈iW B∧ ∃ vs,x= .box vs none∧Ye P m0 w m' Z' i vs))∧
   (∀ i∈iW B, ∃ vs wh,look s.ob i=some (.box vs wh)∧ ∃ x,(i,x)∈objs)∧ ∀ i x,(i,x)∈rows→(i,x)∈objs
 |[],m,Z,n,n',k,k',F,gone,o,p,objs,M,e,b,hρ,hno,hnd=>by
  simp only [PI,Option.some.injEq,Prod.mk.injEq] at e;simp only [FF,Option.some.injEq,Prod.mk.injEq] at b;obtain ⟨rfl,rfl⟩:=e;obtain ⟨rfl,rfl,rfl⟩:=b;exact ⟨m,Z,F,[], .none M,(fun i h=>by cases h),(fun i x h=>by cases h),(fun i h=>by simp [iW] at h),(fun i x h=>by cases h)⟩
 |(i0,hs)::B,m,Z,n,n',k,k',F,gone,o,p,objs,M,e,b,hρ,hno,hnd=>by
  simp only [PI] at e;split at e
  ·rename_i vs wh acN
   split at e
   ·rename_i p1 o1 p2 o2 e1 e2
    cases e;simp only [FF] at b;split at b
    ·rename_i l1 k1 n1 BE b1
     split at b
     ·rename_i k2 n2 Vs b2
      cases b;have hlk:=gq acN;obtain ⟨us,h5,aet⟩: ∃ us,bu P m0 w Z0 vs us∧ ∀ m' Z' l',bu P m' w Z' l' us→Ye P m0 w m' Z' i0 l':=by
       rcases r0.obj i0 _ hlk with ⟨bb,h1,h2,cc,ty,fz,h3,h4,h5,h6⟩|⟨bb,rc,q,us,h1,h2,h3,h5,h4,h6⟩
       ·exact ⟨_,h5,fun m' Z' l' h=> .inl ⟨bb,cc,ty,fz,h1,h3,h⟩⟩
       ·exact ⟨us,h5,fun m' Z' l' h=> .inr ⟨bb,rc,q,us,h1,h,h4,h6⟩⟩
      obtain ⟨q1,q2⟩:=yJ hρ;obtain ⟨d1,d2,d3⟩:=List.nodup_append.1 hnd;obtain ⟨rfl,m1,Z1,F1,O1,g1⟩:=Lj r0 dW hs vs us M h5 e1 b1 q1 (fun i hi=>hno i (List.mem_append_left _ hi)) d1;obtain ⟨m2,Z2,F2,rows,O2,g2,g3,g4,g5⟩:=H9 r0 dW B O1.mid e2 b2 q2 (fun i hi hg=>by
       rcases List.mem_append.1 hg with hg|hg
       ·exact hno i (List.mem_append_right _ hi) hg
       ·exact d3 i hg i hi rfl) d2
      refine ⟨m2,Z2,F2,BE++rows,O1.trans O2 (fun i hi hg=>d3 i hg i hi rfl) M.top,fun i hi=> ?_,fun i x hx=> ?_,fun i hi=> ?_,fun i x hx=> ?_⟩
      ·rcases List.mem_append.1 hi with hi|hi
       ·exact Lm h5 e1 i hi
       ·exact g2 i hi
      ·rcases List.mem_cons.1 hx with hx|hx
       ·cases hx
        exact .inr ⟨by simp [iW],l1,rfl,(aet _ _ _ g1).mono O2.ext O2.dF⟩
       ·rcases List.mem_append.1 hx with hx|hx
        ·exact .inl (List.mem_append_left _ hx)
        ·rcases g3 i x hx with h|⟨h,h'⟩
         ·exact .inl (List.mem_append_right _ h)
         ·exact .inr ⟨by simp only [iW,List.map_cons,List.mem_cons]; exact .inr h,h'⟩
      ·simp only [iW,List.map_cons,List.mem_cons] at hi
       rcases hi with rfl|hi
       ·exact ⟨vs,wh,hlk,_,List.mem_cons_self ..⟩
       ·obtain ⟨vs2,wh2,y1,x,y2⟩:=g4 i hi
        exact ⟨vs2,wh2,y1,x,List.mem_cons_of_mem _ (List.mem_append_right _ y2)⟩
      ·rcases List.mem_append.1 hx with hx|hx
       ·exact List.mem_cons_of_mem _ (List.mem_append_left _ hx)
       ·exact List.mem_cons_of_mem _ (List.mem_append_right _ (g5 i x hx))
     ·cases b
    ·cases b
   ·cases e
  ·cases e
end Go.Sy
namespace Go.Sy
open Go.Sim (Tr aV bM bA bL br ef cx cY)
variable {P:Program}
theorem H_ {t:TypeId} {p:PV} {v:AV} (e:Ag P t p=some v):fF v=[]:=by
 unfold Ag at e;split at e<;>first|(cases e; rfl)|(cases e)
theorem ER {p:PV}: ∀ {ts:List TypeId} {j:Nat} {l:List AV},qU P p ts j=some l→fF.tD l=[]
 |[],j,l,e=>by simp only [qU,Option.some.injEq] at e; subst e; rfl
 |t::ts,j,l,e=>by
  simp only [qU] at e;split at e
  ·rename_i v r h1 h2
   cases e;simp only [fF.tD,H_ h1,ER h2,List.append_nil]
  ·cases e
theorem Sp {t e:TypeId} {p:PV} {off:Nat} {v:AV} (h:sH P t e p off=some v):fF v=[]:=by
 unfold sH at h;split at h
 ·split at h
  ·split at h
   ·rename_i l hl; cases h; exact ER hl
   ·cases h
  ·cases h
 ·split at h
  ·exact H_ h
  ·cases h
 ·cases h
theorem Yf {t:TypeId} {p:PV} {v:AV} (h:PF P t p=some v):fF v=[]:=by
 unfold PF at h;split at h
 ·exact Sp h
 ·cases h
theorem Ia {n:Nat}: ∀ {l:List Nat},sF n l=true→ ∀ i∈l,i<n
 |[],_,i,hi=>by cases hi
 |j::l,h,i,hi=>by
  simp only [sF] at h;split at h
  ·rename_i h1
   rcases List.mem_cons.1 hi with rfl|hi
   ·exact cY h1
   ·exact Ia h i hi
  ·cases h
def sh (B N i:Nat):Nat:=if i<B then i else i - B+N
def ShV (B N:Nat) (v' v2:AV):Prop:=(v'=v2∧ ∀ i∈fF v',i<B)∨ ∃ i,B≤i∧v'= .own i∧v2= .own (sh B N i)
def aax (B N:Nat):List AV→List AV→Prop
 |[],[]=>True
 |v::l,u::r=>ShV B N v u∧aax B N l r
 |_,_=>False
def ShO (B N:Nat):AO→AO→Prop
 | .row e l, .row e' l'=>e=e'∧l=l'
 | .mp e l, .mp e' l'=>e=e'∧l=l'
 | .box vs wh, .box us wh'=>aax B N vs us∧wh=none∧wh'=none
 |_,_=>False
def Vu (B N:Nat):List (Nat×AO)→List (Nat×AO)→Prop
 |[],[]=>True
 |x::l,y::r=>(y.1=sh B N x.1∧ShO B N x.2 y.2)∧Vu B N l r
 |_,_=>False
theorem Vu.append {B N:Nat}: ∀ {a b c d:List (Nat×AO)},Vu B N a b→Vu B N c d→Vu B N (a++c) (b++d)
 |[],[],_,_,_,h=>h
 |_::_,_::_,_,_,h,g=>⟨h.1,Vu.append h.2 g⟩
 |[],_::_,_,_,h,_=>h.elim
 |_::_,[],_,_,h,_=>h.elim
theorem Ue {B N:Nat} {h:uP} {ρ:List PV} {k nb k' JY:Nat} {v':AV} {objs:List (Nat×AO)} (hB:B≤nb) (ho:XV B h=true) (e:sI P h ρ k nb=some (v',k',JY,objs)):
  nb≤JY∧ ∃ v2 ru,sI P h ρ k (sh B N nb)=some (v2,k',sh B N JY,ru)∧ShV B N v' v2∧Vu B N objs ru:=by
 cases h with
 |val t=>
  simp only [sI] at e ⊢;split at e
  ·rename_i v hv
   simp only [Option.some.injEq,Prod.mk.injEq] at e;obtain ⟨rfl,rfl,rfl,rfl⟩:=e
   try rw [hv]
   exact ⟨Nat.le_refl _,_,[],rfl, .inl ⟨rfl,fun i hi=>by rw [Yf hv] at hi; cases hi⟩,trivial⟩
  ·cases e
 |own el=>
  simp only [sI,Option.some.injEq,Prod.mk.injEq] at e;obtain ⟨rfl,rfl,rfl,rfl⟩:=e;refine ⟨by omega, .own (sh B N nb),[(sh B N nb, .row el (nth ρ k).toList)], ?_, .inr ⟨nb,hB,rfl,rfl⟩,⟨rfl,rfl,rfl⟩,trivial⟩;simp only [sI]
  congr 4
  unfold sh;rw [if_neg (by omega),if_neg (by omega)];omega
 |M5 el=>
  simp only [sI,Option.some.injEq,Prod.mk.injEq] at e;obtain ⟨rfl,rfl,rfl,rfl⟩:=e;refine ⟨by omega, .own (sh B N nb),[(sh B N nb, .mp el (nth ρ k).toList)], ?_, .inr ⟨nb,hB,rfl,rfl⟩,⟨rfl,rfl,rfl⟩,trivial⟩;simp only [sI]
  congr 4
  unfold sh;rw [if_neg (by omega),if_neg (by omega)];omega
 |same u=>
  simp only [sI,Option.some.injEq,Prod.mk.injEq] at e;obtain ⟨rfl,rfl,rfl,rfl⟩:=e;exact ⟨Nat.le_refl _,u,[],rfl, .inl ⟨rfl,Ia ho⟩,trivial⟩
theorem Uf {B N:Nat} {ρ:List PV}: ∀ {hs:List uP} {k nb k' JY:Nat} {vs:List AV} {objs:List (Nat×AO)},B≤nb→M6 B hs=true→FD P hs ρ k nb=some (vs,k',JY,objs)→
  nb≤JY∧ ∃ vs2 ru,FD P hs ρ k (sh B N nb)=some (vs2,k',sh B N JY,ru)∧aax B N vs vs2∧Vu B N objs ru
 |[],k,nb,k',JY,vs,objs,hB,ho,e=>by
  simp only [FD,Option.some.injEq,Prod.mk.injEq] at e;obtain ⟨rfl,rfl,rfl,rfl⟩:=e;exact ⟨Nat.le_refl _,[],[],rfl,trivial,trivial⟩
 |h::hs,k,nb,k',JY,vs,objs,hB,ho,e=>by
  simp only [M6] at ho;split at ho
  ·rename_i h1
   simp only [FD] at e ⊢;split at e
   ·rename_i v1 k1 n1 o1 e1
    split at e
    ·rename_i l2 k2 n2 o2 e2
     cases e;obtain ⟨a1,v2,BE,a2,a3,a4⟩:=Ue (N:=N) hB h1 e1;obtain ⟨b1,vs2,Vs,b2,b3,b4⟩:=Uf (N:=N) (by omega) ho e2;refine ⟨by omega,v2::vs2,BE++Vs, ?_,⟨a3,b3⟩,a4.append b4⟩;rw [a2];dsimp only;rw [b2]
    ·cases e
   ·cases e
  ·cases ho
def ShT (B N:Nat) (T T2:Tr (Option AV)):Prop:= ∀ t,(T.get t=none↔T2.get t=none)∧(∀ v,T.get t=some (some v)→ ∃ v2,T2.get t=some (some v2)∧ShV B N v v2)
theorem Ug {B N:Nat} {ρ:List PV}: ∀ {S:List (Nat×uP)} {k nb k' JY:Nat} {T T2 T':Tr (Option AV)} {objs:List (Nat×AO)},B≤nb→Gp B S=true→ShT B N T T2→FE P S ρ k nb T=some (T',k',JY,objs)→
  nb≤JY∧ ∃ T2' ru,FE P S ρ k (sh B N nb) T2=some (T2',k',sh B N JY,ru)∧ShT B N T' T2'∧Vu B N objs ru
 |[],k,nb,k',JY,T,T2,T',objs,hB,ho,hT,e=>by
  simp only [FE,Option.some.injEq,Prod.mk.injEq] at e;obtain ⟨rfl,rfl,rfl,rfl⟩:=e;exact ⟨Nat.le_refl _,T2,[],rfl,hT,trivial⟩
 |(t,h)::S,k,nb,k',JY,T,T2,T',objs,hB,ho,hT,e=>by
  simp only [Gp] at ho;split at ho
  ·rename_i h1
   simp only [FE] at e ⊢;split at e
   ·rename_i v1 k1 n1 o1 e1
    split at e
    ·rename_i T3 k2 n2 o2 e2
     cases e;obtain ⟨a1,v2,BE,a2,a3,a4⟩:=Ue (N:=N) hB h1 e1;have hT1:ShT B N (T.set t (some v1)) (T2.set t (some v2)):=fun x=>by
      rw [Tr.bn,Tr.bn];by_cases e:t=x
      ·subst e
       simp only [if_true];refine ⟨by simp,fun v hv=> ?_⟩;simp only [Option.some.injEq] at hv;subst hv;exact ⟨v2,rfl,a3⟩
      ·rw [if_neg e,if_neg e]; exact hT x
     obtain ⟨b1,T4,Vs,b2,b3,b4⟩:=Ug (N:=N) (by omega) ho hT1 e2;refine ⟨by omega,T4,BE++Vs, ?_,b3,a4.append b4⟩;rw [a2];dsimp only;rw [b2]
    ·cases e
   ·cases e
  ·cases ho
theorem Uh {B N:Nat} {ρ:List PV}: ∀ {S:List (Nat×List uP)} {k nb k' JY:Nat} {objs:List (Nat×AO)},B≤nb→yD B S=true→FF P S ρ k nb=some (k',JY,objs)→
  nb≤JY∧ ∃ ru,FF P S ρ k (sh B N nb)=some (k',sh B N JY,ru)∧Vu B N objs ru
 |[],k,nb,k',JY,objs,hB,ho,e=>by
  simp only [FF,Option.some.injEq,Prod.mk.injEq] at e;obtain ⟨rfl,rfl,rfl⟩:=e;exact ⟨Nat.le_refl _,[],rfl,trivial⟩
 |(i,hs)::S,k,nb,k',JY,objs,hB,ho,e=>by
  simp only [yD] at ho;split at ho
  ·rename_i h1 h2
   simp only [FF] at e ⊢;split at e
   ·rename_i l1 k1 n1 o1 e1
    split at e
    ·rename_i k2 n2 o2 e2
     cases e;obtain ⟨a1,vs2,BE,a2,a3,a4⟩:=Uf (N:=N) hB h2 e1;obtain ⟨b1,Vs,b2,b3⟩:=Uh (N:=N) (by omega) ho e2;refine ⟨by omega,(i, .box vs2 none)::(BE++Vs), ?_,⟨?_,a3,rfl,rfl⟩,a4.append b3⟩
     ·rw [a2]
      dsimp only;rw [b2]
     ·show i=sh B N i
      unfold sh;rw [if_pos (cY h1)]
    ·cases e
   ·cases e
  ·cases ho
theorem Ui {B N:Nat} {m mf:Mp} {w:World} {Z:Nat→Prop} {v' v2:AV} {u:Value} (h:ShV B N v' v2) (hv:bD P m w Z v2 u) (hlo: ∀ i,i<B→mf i=m i) (hhi: ∀ i,B≤i→ ∀ p,m (sh B N i)=some p→mf i=some p):bD P mf w Z v' u:=by
 rcases h with ⟨rfl,h⟩|⟨i,h1,rfl,rfl⟩
 ·exact H7 v' u (fun i hi=>hlo i (h i hi)) hv
 ·obtain ⟨p,h2,h3⟩:=hv
  exact ⟨p,hhi i h1 _ h2,h3⟩
theorem xu {B N:Nat} {m mf:Mp} {w:World} {Z:Nat→Prop} (hlo: ∀ i,i<B→mf i=m i) (hhi: ∀ i,B≤i→ ∀ p,m (sh B N i)=some p→mf i=some p): ∀ {l l2:List AV} {us:List Value},aax B N l l2→bu P m w Z l2 us→bu P mf w Z l us
 |[],[],[],_,_=>trivial
 |v::l,v2::l2,u::us,h,hv=>⟨Ui h.1 hv.1 hlo hhi,xu hlo hhi h.2 hv.2⟩
 |[],[],_::_,_,hv=>hv.elim
 |_::_,_::_,[],_,hv=>hv.elim
 |[],_::_,_,h,_=>h.elim
 |_::_,[],_,h,_=>h.elim
end Go.Sy
namespace Go.Sy
open Go.Sim (Tr aV bM bA bL br ef cx cY)
variable {P:Program}
theorem iw {α:Type}: ∀ (l:List Nat) (T:Tr (Option α)) (i:Nat),(eG l T).get i=if i∈l then some none else T.get i
 |[],T,i=>by simp [eG]
 |j::l,T,i=>by
  simp only [eG,iw l,Tr.bn,List.mem_cons];by_cases h:i∈l
  ·simp [h]
  ·by_cases e:j=i
   ·subst e; simp [h]
   ·simp [h,e,Ne.symm e]
theorem Aq: ∀ (l:List (Nat×AO)) (T:Tr (Option AO)) (i:Nat),((Ah l T).get i=T.get i∧ ∀ x,(i,x)∉l)∨ ∃ x,(i,x)∈l∧(Ah l T).get i=some (some x)
 |[],T,i=> .inl ⟨rfl,fun x h=>by cases h⟩
 |(j,y)::l,T,i=>by
  simp only [Ah];rcases Aq l (T.set j (some y)) i with ⟨h1,h2⟩|⟨x,h1,h2⟩
  ·rw [Tr.bn] at h1
   by_cases e:j=i
   ·subst e
    rw [if_pos rfl] at h1;exact .inr ⟨y,List.mem_cons_self ..,h1⟩
   ·rw [if_neg e] at h1
    refine .inl ⟨h1,fun x hx=> ?_⟩;rcases List.mem_cons.1 hx with h|h
    ·cases h; exact e rfl
    ·exact h2 x h
  ·exact .inr ⟨x,List.mem_cons_of_mem _ h1,h2⟩
theorem Qc {ob:Lay AO}: ∀ {l:List Nat},dead ob l=true→ ∀ i∈l,look ob i=none
 |[],_,i,hi=>by cases hi
 |j::l,h,i,hi=>by
  simp only [dead] at h;split at h
  ·rename_i h1
   rcases List.mem_cons.1 hi with rfl|hi
   ·exact h1
   ·exact Qc h i hi
  ·cases h
theorem Qd: ∀ {l:List Nat},nodup l=true→l.Nodup
 |[],_=>List.nodup_nil
 |i::l,h=>by
  simp only [nodup] at h;split at h
  ·cases h
  ·rename_i h1
   exact List.nodup_cons.2 ⟨by simpa using h1,Qd h⟩
theorem Uj {B N:Nat}: ∀ {l l2:List (Nat×AO)},Vu B N l l2→ ∀ i x,(i,x)∈l→ ∃ y,(sh B N i,y)∈l2∧ShO B N x y
 |[],[],_,i,x,h=>by cases h
 |p::l,q::l2,h,i,x,hx=>by
  rcases List.mem_cons.1 hx with e|hx
  ·subst e
   refine ⟨q.2, ?_,h.1.2⟩;have:=h.1.1;rw [← this];exact List.mem_cons_self ..
  ·obtain ⟨y,h1,h2⟩:=Uj h.2 i x hx
   exact ⟨y,List.mem_cons_of_mem _ h1,h2⟩
 |[],_::_,h,_,_,_=>h.elim
 |_::_,[],h,_,_,_=>h.elim
theorem Uk {B N:Nat}: ∀ {l l2:List (Nat×AO)},Vu B N l l2→ ∀ j y,(j,y)∈l2→ ∃ i x,j=sh B N i∧(i,x)∈l
 |[],[],_,j,y,h=>by cases h
 |p::l,q::l2,h,j,y,hy=>by
  rcases List.mem_cons.1 hy with e|hy
  ·subst e
   exact ⟨p.1,p.2,h.1.1,List.mem_cons_self ..⟩
  ·obtain ⟨i,x,h1,h2⟩:=Uk h.2 j y hy
   exact ⟨i,x,h1,List.mem_cons_of_mem _ h2⟩
 |[],_::_,h,_,_,_=>h.elim
 |_::_,[],h,_,_,_=>h.elim
theorem Ln {m:Mp} {w:World} {Z:Nat→Prop} {s:St} {nt:Nat} {a:Array Value} (rt:bU P m w Z nt s.tm a): ∀ {S:List (Nat×uP)} {p:List PV} {o:List Nat},EH P s S=some (p,o)→ ∀ i∈o, ∃ p,m i=some p∧p.HL=true
 |[],p,o,e,i,hi=>by simp only [EH,Option.some.injEq,Prod.mk.injEq] at e; rw [← e.2] at hi; cases hi
 |(t,h)::S,p,o,e,i,hi=>by
  simp only [EH] at e;split at e
  ·rename_i v hv
   split at e
   ·rename_i p1 o1 p2 o2 e1 e2
    cases e;obtain ⟨u,_,hu⟩:=rt.get t v hv;rcases List.mem_append.1 hi with hi|hi
    ·exact Ll hu e1 i hi
    ·exact Ln rt e2 i hi
   ·cases e
  ·cases e
theorem ES {n:Nat}: ∀ {S:List (Nat×List uP)},yD n S=true→ ∀ i∈iW S,i<n
 |[],_,i,hi=>by simp [iW] at hi
 |(j,hs)::S,h,i,hi=>by
  simp only [yD] at h;split at h
  ·rename_i h1 h2
   simp only [iW,List.map_cons,List.mem_cons] at hi;rcases hi with rfl|hi
   ·exact cY h1
   ·exact ES h i hi
  ·cases h
theorem Yg {B N i:Nat} (h:i<B):sh B N i=i:=if_pos h
theorem Qe {B N i:Nat} (h: ¬ i<B):sh B N i=i - B+N:=if_neg h
theorem SR.low {m:Mp} {Z:Nat→Prop} {w:World} {nt:Nat} {s:St} {a:Act} (h:SR P m Z w nt s a) {i:Nat} {o:AO} (hi:look s.ob i=some o):i<s.next:=by
 obtain ⟨p,hp⟩:=(h.rel.obj i o hi).at;rcases Nat.lt_or_ge i s.next with h1|h1
 ·exact h1
 ·rw [h.fresh i h1] at hp; cases hp
theorem SR.ids {m:Mp} {Z:Nat→Prop} {w:World} {nt:Nat} {s:St} {a:Act} (h:SR P m Z w nt s a) {v:AV} {u:Value} (hv:bD P m w Z v u): ∀ i∈fF v,i<s.next:=fun i hi=>by
 obtain ⟨p,hp⟩:=Ud v u hv i hi;rcases Nat.lt_or_ge i s.next with h1|h1
 ·exact h1
 ·rw [h.fresh i h1] at hp; cases hp
theorem SR.aeu {m:Mp} {Z:Nat→Prop} {w:World} {nt:Nat} {s:St} {a:Act} (h:SR P m Z w nt s a) {v:List AV} {u:List Value} (hv:bu P m w Z v u): ∀ i∈fF.tD v,i<s.next:=fun i hi=>by
 obtain ⟨p,hp⟩:=xq v u hv i hi;rcases Nat.lt_or_ge i s.next with h1|h1
 ·exact h1
 ·rw [h.fresh i h1] at hp; cases hp
theorem rebuild {m0 m2:Mp} {Z0 Z2:Nat→Prop} {w0 w:World} {nt:Nat} {s0 s2 s3:St} {a0 a:Act} {S:Spec} {ρ:List PV} {o:List Nat} (h0:SR P m0 Z0 w0 nt s0 a0) (h2:SR P m2 Z2 w nt s2 a) (he:Ext m0 m2) (hn:s0.next≤s2.next)
  (hA1: ∀ t v,look s0.tm t=some v→t∉S.slots.map (·.1)→t∉S.cw→look s2.tm t=some v) (hA2: ∀ i x,look s0.ob i=some x→i∉iW S.boxes→look s2.ob i=some x)
  (hf:flat P s2 S=some (ρ,o)) (hd:dead s0.ob o=true) (hb:build P s0 S ρ=some s3):
  ∃ mf Zf,SR P mf Zf w nt s3 a∧Ext m0 mf∧(∀ b,Z2 b→Zf b)∧FH m2 mf Z2 Zf∧Jz s0.next m2 mf:=by
 unfold flat at hf;split at hf
 ·rename_i p oS q oB eS eB
  split at hf
  ·rename_i hnd
   simp only [Option.some.injEq,Prod.mk.injEq] at hf;obtain ⟨rfl,rfl⟩:=hf;obtain ⟨d1,d2,d3⟩:=List.nodup_append.1 (Qd hnd);unfold build at hb;split at hb
   ·rename_i f1 f2 f3 f4 f5
    rw [j6] at hb;split at hb
    ·rename_i T k n os bS
     split at hb
     ·rename_i k2 n2 ob bB
      simp only [Option.some.injEq] at hb;subst hb;generalize hB:s0.next=B at*
      generalize hN:s2.next=N at*
      have hT0:ShT B N (eG S.cw (.e:Tr (Option AV))) (eG S.cw .e):=fun t=>⟨Iff.rfl,fun v hv=>by
       rw [iw] at hv;split at hv
       ·cases hv
       ·cases hv⟩
      obtain ⟨l1,T2,os2,b1,b2,b3⟩:=Ug (N:=N) (Nat.le_refl B) f4 hT0 bS;obtain ⟨l2,Vs,b4,b5⟩:=Uh (N:=N) (show B≤n by omega) f5 bB;have hBB:sh B N B=N:=by rw [Qe (by omega)]; omega
      rw [hBB] at b1;have dW: ∀ i x,look s2.ob i=some x→i<N:=fun i x hi=>by rw [← hN]; exact h2.low hi
      have M0:Mid P m2 Z2 s2.ob w N m2 Z2 (look s2.ob) [] N:=⟨h2.rel.ZD, .refl m2,fun _ h=>h,fun _ _ _=>rfl,fun j hj=>h2.fresh j (by omega),Nat.le_refl _⟩;obtain ⟨q1,q2⟩:=yJ (ρ:=p++q) (p:=p) (q:=q) (k:=0) (fun j _=>by rw [Nat.zero_add]);obtain ⟨kk,m3,Z3,F3,O1,hT,hTk⟩:=H8 h2.rel h2.tr dW S.slots M0 eS b1 q1 (fun i _ h=>by cases h) d1 (fun t v hv=>by
       rw [iw] at hv;split at hv
       ·cases hv
       ·cases hv)
      subst kk;obtain ⟨m4,Z4,F4,rows,O2,r1,r2,r3,r4⟩:=H9 h2.rel dW S.boxes O1.mid eB b4 q2 (fun i hi hg=>by
       rw [List.nil_append] at hg;exact d3 i hg i hi rfl) d2
      have O:=O1.trans O2 (fun i hi hg=>d3 i hg i hi rfl) (Nat.le_refl N);have aev: ∀ i,i<B→i<N:=fun i hi=>by omega
      have key: ∀ mf:Mp,mf=(fun i=>if i<n2 then m4 (sh B N i) else none)→ ∃ mf Zf,SR P mf Zf w nt ⟨T::s0.tm,Ah (os++ob) .e::s0.ob,n2⟩ a∧Ext m0 mf∧(∀ b,Z2 b→Zf b)∧FH m2 mf Z2 Zf∧Jz B m2 mf:=by
       intro mf hmf;have hlo: ∀ i,i<B→mf i=m4 i:=fun i hi=>by rw [hmf]; show (if i<n2 then _ else _)=_; rw [if_pos (by omega),Yg hi]
       have hhi: ∀ i,B≤i→ ∀ pl,m4 (sh B N i)=some pl→mf i=some pl:=fun i hi pl hp=>by
        rw [hmf]; show (if i<n2 then _ else _)=_;rw [if_pos]
        ·exact hp
        ·rcases Nat.lt_or_ge i n2 with h|h
         ·exact h
         ·rw [O2.mid.fresh] at hp
          ·cases hp
          ·rw [Qe (by omega),Qe (by omega)]; omega
       have hall:Vu B N (os++ob) (os2++Vs):=b3.append b5;have obj: ∀ i x,look (Ah (os++ob) .e::s0.ob) i=some x→(∃ y,F4 (sh B N i)=some y)∧mf i=m4 (sh B N i)∧gZ P mf w Z4 i x:=by
        intro i x hx;rw [cN] at hx;rcases Aq (os++ob) .e i with ⟨g1,g2⟩|⟨y,g1,g2⟩
        ·rw [g1] at hx
         have hx:look s0.ob i=some x:=hx;have hib:i<B:=by rw [← hB]; exact h0.low hx
         have hnb:i∉iW S.boxes:=fun hc=>by
          obtain ⟨vs,wh,_,y,hy⟩:=r3 i hc;obtain ⟨j,x',hj,hx'⟩:=Uk hall i y (List.mem_append_right _ hy);have:j=i:=by
           unfold sh at hj;split at hj<;>omega
          subst this;exact g2 x' hx'
         have hx2:=hA2 i x hx hnb;have hno:i∉oS++oB:=fun hc=>by rw [Qc hd i hc] at hx; cases hx
         have hF:F4 i=some x:=by rw [O.off i (aev i hib) hno]; exact hx2
         rw [Yg hib];refine ⟨⟨x,hF⟩,hlo i hib, ?_⟩;have hO:=O2.mid.rel.obj i x hF;have hO0:=h0.rel.obj i x hx;cases x with
         |row e l=>
          obtain ⟨ad,c,c1,c2⟩:=hO;exact ⟨ad,c,by rw [hlo i hib]; exact c1,c2⟩
         |mp e l=>
          obtain ⟨b,k,v,c1,c2,c3⟩:=hO;exact ⟨b,k,v,by rw [hlo i hib]; exact c1,c2,c3⟩
         |box l wh=>
          obtain ⟨us0,c7⟩: ∃ us0,bu P m0 w0 Z0 l us0:=by
           rcases hO0 with ⟨b',_,_,OE,_,_,_,_,c7,_⟩|⟨_,_,_,us,_,_,_,c7,_⟩<;>exact ⟨_,c7⟩
          rcases hO with ⟨b,c1,c2,cc,ty,fz,c3,c4,c5,c6⟩|⟨b,rc,q,us,c1,c2,c3,c5,c4,c6⟩
          ·exact .inl ⟨b,by rw [hlo i hib]; exact c1,c2,cc,ty,fz,c3,c4,pW l _ (fun j hj=>hlo j (by rw [← hB]; exact h0.aeu c7 j hj)) c5,c6⟩
          ·exact .inr ⟨b,rc,q,us,by rw [hlo i hib]; exact c1,c2,c3,pW l _ (fun j hj=>hlo j (by rw [← hB]; exact h0.aeu c7 j hj)) c5,c4,c6⟩
        ·rw [g2] at hx
         have hx:some y=some x:=hx;cases hx;obtain ⟨z,z1,z2⟩:=Uj hall i x g1;have fin:F4 (sh B N i)=some z→(sh B N i<sh B N n2)→(∃ y,F4 (sh B N i)=some y)∧mf i=m4 (sh B N i)∧gZ P mf w Z4 i x:=by
          intro hF hlt;have Z5:mf i=m4 (sh B N i):=by
           rw [hmf]; show (if i<n2 then _ else _)=_;rw [if_pos];unfold sh at hlt;split at hlt<;>split at hlt<;>omega
          refine ⟨⟨z,hF⟩,Z5, ?_⟩;have hO:=O2.mid.rel.obj _ z hF;cases x with
          |row e l=>
           cases z with
           |row e' l'=>
            obtain ⟨rfl,rfl⟩:=z2;obtain ⟨ad,c,c1,c2⟩:=hO;exact ⟨ad,c,by rw [Z5]; exact c1,c2⟩
           |box _ _=>exact z2.elim
           |mp _ _=>exact z2.elim
          |mp e l=>
           cases z with
           |mp e' l'=>
            obtain ⟨rfl,rfl⟩:=z2;obtain ⟨b,k,v,c1,c2,c3⟩:=hO;exact ⟨b,k,v,by rw [Z5]; exact c1,c2,c3⟩
           |box _ _=>exact z2.elim
           |row _ _=>exact z2.elim
          |box l wh=>
           cases z with
           |row _ _=>exact z2.elim
           |mp _ _=>exact z2.elim
           |box l' wh'=>
            obtain ⟨z3,rfl,rfl⟩:=z2;rcases hO with ⟨b,c1,c2,cc,ty,fz,c3,c4,c5,c6⟩|⟨b,rc,q,us,c1,c2,c3,c5,c4,c6⟩
            ·exact .inl ⟨b,by rw [Z5]; exact c1,c2,cc,ty,fz,c3,c4,xu hlo hhi z3 c5,fun t p e=>by cases e⟩
            ·exact .inr ⟨b,rc,q,us,by rw [Z5]; exact c1,c2,rfl,xu hlo hhi z3 c5,c4,c6⟩
         have hmono:sh B N n≤sh B N n2:=by rw [Qe (by omega),Qe (by omega)]; omega
         rcases List.mem_append.1 z1 with z1|z1
         ·obtain ⟨e1,e2,e3⟩:=O1.made _ _ z1
          refine fin ?_ (by omega);rw [O2.off _ e2 fun hi=>by have:=O2.low _ hi; omega];exact e3
         ·rcases r2 _ _ z1 with h|⟨h,vs,rfl,hW⟩
          ·obtain ⟨e1,e2,e3⟩:=O2.made _ _ h
           exact fin e3 e2
          ·have hlt:=ES f5 _ h
           have hib:i<B:=by
            unfold sh at hlt;split at hlt<;>omega
           rw [Yg hib] at h hW ⊢;obtain ⟨vs0,wh0,f0,_⟩:=r3 i h;have hno:i∉oS++oB:=fun hc=>by
            have hr: ∃ p,m2 i=some p∧p.HL=true:=by
             rcases List.mem_append.1 hc with hc|hc
             ·exact Ln h2.tr eS i hc
             ·exact r1 i hc
            obtain ⟨pl,hr,C6⟩:=hr;rcases hW with ⟨b,_,_,_,e1,_⟩|⟨b,rc,_,_,e1,_⟩<;>(rw [e1] at hr; cases hr; cases C6)
           have hF:F4 i=some (.box vs0 wh0):=by rw [O.off i (aev i hib) hno]; exact f0
           refine ⟨⟨_,hF⟩,hlo i hib, ?_⟩;cases x with
           |row _ _=>exact z2.elim
           |mp _ _=>exact z2.elim
           |box l wh=>
            obtain ⟨z3,rfl,_⟩:=z2;rcases hW with ⟨b,cc,ty,fz,e1,e2,e3⟩|⟨b,rc,q,us,e1,e2,e3,e4⟩
            ·have ZF:=O.ext _ _ e1
             obtain ⟨b',c1,c2,OE,ty',fz',c3,c4,c5,c6⟩:=M_ (O2.mid.rel.obj _ _ hF) ZF;rw [c1] at ZF;cases ZF;rw [c3] at e2;cases e2;exact .inl ⟨_,by rw [hlo i hib]; exact c1,c2,_,_,_,c3,c4,xu hlo hhi z3 e3,fun t p e=>by cases e⟩
            ·have ZF:=O.ext _ _ e1
             rcases O2.mid.rel.obj _ _ hF with ⟨b',c1,_⟩|⟨b',rc',q',us',c1,c2,_⟩
             ·rw [ZF] at c1; cases c1
             ·rw [ZF] at c1
              cases c1;exact .inr ⟨b,rc,q,us,by rw [hlo i hib]; exact ZF,c2,rfl,xu hlo hhi z3 e2,e3,e4⟩
       refine ⟨mf,Z4,⟨⟨O2.mid.rel.zb,fun i x hx=>(obj i x hx).2.2,fun i j x y pp qq b hx hy hp hq e1 e2=> ?_⟩, ?_, ?_⟩, ?_,(fun b hb=>O.dF b hb),(fun n0 Z0 hf=>⟨fun i q b hi hb=> ?_,(O.Ak n0 Z0 hf).2⟩),fun i hi=>(hlo i hi).trans (O.aaw i (by omega))⟩
       ·obtain ⟨⟨x',k1⟩,k2,_⟩:=obj i x hx
        obtain ⟨⟨y',k3⟩,k4,_⟩:=obj j y hy;rw [k2] at hp;rw [k4] at hq;have:=O2.mid.rel.inj _ _ x' y' pp qq b k1 k3 hp hq e1 e2;unfold sh at this;split at this<;>split at this<;>omega
       ·refine ⟨h2.tr.size,fun t v hv=> ?_⟩
        have hv:look (T::s0.tm) t=some v:=hv;rw [cN] at hv;cases hTt:T.get t with
        |some x=>
         rw [hTt] at hv;have hv:x=some v:=hv;subst hv;obtain ⟨v2,g1,g2⟩:=(b2 t).2 v hTt;obtain ⟨u,g3,g4⟩:=hT t v2 g1;exact ⟨u,g3,Ui g2 (j7 O2.ext (fun _ _=>rfl) O2.dF _ _ g4) hlo hhi⟩
        |none=>
         rw [hTt] at hv;have hv:look s0.tm t=some v:=hv;have hT2:T2.get t=none:=((b2 t).1).1 hTt;have hns:t∉S.slots.map (·.1):=fun h=>(hTk t).1 h hT2
         have hnk:t∉S.cw:=fun h=>by
          rw [(hTk t).2 hns,iw,if_pos h] at hT2; cases hT2
         obtain ⟨u,g1,g2⟩:=h2.tr.get t v (hA1 t v hv hns hnk);obtain ⟨u0,_,g3⟩:=h0.tr.get t v hv;exact ⟨u,g1,H7 v u (fun j hj=>hlo j (by rw [← hB]; exact h0.ids g3 j hj)) (j7 O.ext (fun _ _=>rfl) O.dF _ _ g2)⟩
       ·intro j hj
        have hj:n2≤j:=hj;rw [hmf]; show (if j<n2 then _ else _)=_;rw [if_neg (by omega)]
       ·intro i pl hp
        have hib:i<B:=by
         rcases Nat.lt_or_ge i B with h|h
         ·exact h
         ·rw [h0.fresh i (by omega)] at hp; cases hp
        rw [hlo i hib];exact O.ext i pl (he i pl hp)
       ·rw [hmf] at hi
        have hi:(if i<n2 then m4 (sh B N i) else none)=some q:=hi;split at hi
        ·exact (O.Ak n0 Z0 hf).1 _ _ _ hi hb
        ·cases hi
      exact key _ rfl
     ·cases hb
    ·cases hb
   ·cases hb
  ·cases hf
 ·cases hf
end Go.Sy
