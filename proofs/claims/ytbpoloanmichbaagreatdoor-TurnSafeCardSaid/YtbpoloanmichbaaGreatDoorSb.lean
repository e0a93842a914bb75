/-
  Proved here: parts of the evaluator of the model's code on given values: code and closures. Its condition is that the program's functions bear no name that the model singles out.
-/
import Derived.Test.YtbpoloanmichbaaGreatDoorSa
import Derived.Laws.BytesString
import Derived.Laws.Strings
import Derived.Laws.Concat
import Derived.Lib.Builder
import Derived.Lib.UnsafeStr
import Derived.RangeFuncSeq
import Derived.OrdersIn
set_option linter.unusedVariables false
set_option linter.unusedSimpArgs false
namespace Go.Sim
variable {P:Program} {G:Nat→Option (List Value)}
section
variable {m:aa} {F:Nat→Prop} {K:World} {h h':Hp} {w:World} {nt:Nat} {tm:TM} {a:Act} {v:Value}
theorem nV: ∀ (a b:List UInt8),uk a b=(a==b)
 |[],[]=>rfl
 |[],_::_=>rfl
 |_::_,[]=>rfl
 |x::a,y::b=>by
  simp only [uk];by_cases h:x=y
  ·subst h
   have:Nat.beq x.toNat x.toNat=true:=by simp
   rw [this,nV a b]; simp
  ·rw [ef (fun e=>h (UInt8.toNat_inj.1 e))]; simp [h]
theorem uB: ∀ (a b:List UInt8),iF a b=Op.bytesLess a b
 |a,[]=>by cases a<;>rfl
 |[],_::_=>rfl
 |x::a,y::b=>by
  simp only [iF,Op.bytesLess];by_cases h:x.toNat<y.toNat
  ·have:Nat.blt x.toNat y.toNat=true:=Nat.ble_eq_true_of_le (show x.toNat+1≤y.toNat by omega)
   rw [this];have:(x<y):=UInt8.lt_iff_toNat_lt.2 h;simp [this]
  ·have h1:Nat.blt x.toNat y.toNat=false:=by
    cases e:Nat.blt x.toNat y.toNat with
    |false=>rfl
    |true=>exact absurd (cY e) h
   rw [h1];have h2: ¬ (x<y):=fun e=>h (UInt8.lt_iff_toNat_lt.1 e)
   by_cases h3:x=y
   ·subst h3
    have:Nat.beq x.toNat x.toNat=true:=by simp
    rw [this,uB a b]; simp
   ·rw [ef (fun e=>h3 (UInt8.toNat_inj.1 e))]; simp [h2,h3]
theorem gD: ∀ (a b:List UInt8),(Op.bytesLess a b||a==b)= !Op.bytesLess b a
 |[],[]=>rfl
 |[],_::_=>rfl
 |_::_,[]=>rfl
 |x::a,y::b=>by
  simp only [Op.bytesLess];rcases Nat.lt_trichotomy x.toNat y.toNat with h|h|h
  ·have h1:x<y:=UInt8.lt_iff_toNat_lt.2 h
   have h2: ¬ y<x:=fun e=>by have:=UInt8.lt_iff_toNat_lt.1 e; omega
   have h3: ¬ y=x:=fun e=>by subst e; omega
   simp [h1,h2,h3]
  ·obtain rfl:=UInt8.toNat_inj.1 h
   have h1: ¬ x<x:=fun e=>by have:=UInt8.lt_iff_toNat_lt.1 e; omega
   have:=gD a b;simp [h1] at this ⊢;exact this
  ·have h1: ¬ x<y:=fun e=>by have:=UInt8.lt_iff_toNat_lt.1 e; omega
   have h2:y<x:=UInt8.lt_iff_toNat_lt.2 h;have h3: ¬ x=y:=fun e=>by subst e; omega
   simp [h1,h2,h3]
theorem OH (x y:ByteArray):(⟨⟨x.data.toList++y.data.toList⟩⟩:ByteArray)=x++y:=by
 apply ByteArray.ext;simp
theorem OI {op:BinOp} {x y:ByteArray} {v:Value} (e:Ti op x y=some v):bL v=true∧ ∀ w:World,(Op.stringOp op x y).run P w= .ok v w:=by
 unfold Ti at e;have hl:=gD x.data.toList y.data.toList;have C5:=gD y.data.toList x.data.toList;split at e
 ·split at e
  ·rename_i hle
   cases e;have hle:=cx hle;exact ⟨rfl,fun w=>by rw [OH,run_string_add_sum w x y hle]⟩
  ·cases e
 all_goals (first|(cases e; done)|(cases e; refine ⟨rfl,fun w=> ?_⟩; simp only [Op.stringOp,Sem.run_pure,ByteArray.toList_eq,nV,uB,hl,Bool.not_not]))
theorem mF {T:TypeId} {x y:Operand} {u v:Value} {q:Bool} {w:World} (h1:eqGuard .eql T x y u v=pure ()) (h2:eqGuard .neq T x y u v=pure ()) (h3:binOp .eql T u v=do pure (.bool (← Op.equal T u v)))
  (h4:binOp .neq T u v=do pure (.bool (!(← Op.equal T u v)))) (hq:(Op.equalIn (9999+1) T u v).run P w= .ok q w):
  ((do eqGuard .eql T x y u v; binOp .eql T u v):Sem Value).run P w= .ok (.bool q) w∧((do eqGuard .neq T x y u v; binOp .neq T u v):Sem Value).run P w= .ok (.bool (!q)) w:=by
 have ZA:(Op.equal T u v).run P w= .ok q w:=hq;rw [h1,h2,h3,h4];constructor<;>simp [ZA]
theorem Mh {d:TypeDesc} {T:TypeId} {x y:Operand} {u v u' v':Value} {q:Bool} (hT:P.underlying T=some d) (hq:RB d x y u v=some q) (hu:aF m u=some u') (hv:aF m v=some v') (w:World):
  ((do eqGuard .eql T x y u' v'; binOp .eql T u' v'):Sem Value).run P w= .ok (.bool q) w∧((do eqGuard .neq T x y u' v'; binOp .neq T u' v'):Sem Value).run P w= .ok (.bool (!q)) w:=by
 unfold RB at hq;split at hq
 ·split at hq
  ·cases hq
   obtain rfl:_=u':=by simpa [aF] using hu
   obtain rfl:_=v':=by simpa [aF] using hv
   exact mF rfl rfl rfl rfl (by rw [Op.equalIn]; simp [aD hT])
  ·cases hq
   obtain rfl:_=u':=by simpa [aF] using hu
   obtain ⟨b',_,rfl⟩:=cS hv;exact mF rfl rfl rfl rfl (by rw [Op.equalIn]; simp [aD hT])
  ·cases hq
   obtain rfl:_=v':=by simpa [aF] using hv
   obtain ⟨b',_,rfl⟩:=cS hu;exact mF rfl rfl rfl rfl (by rw [Op.equalIn]; simp [aD hT])
  ·cases hq
 ·split at hq
  ·cases hq
   obtain rfl:_=u':=by simpa [aF] using hu
   obtain rfl:_=v':=by simpa [aF] using hv
   exact mF rfl rfl rfl rfl (by rw [Op.equalIn]; simp [aD hT])
  ·cases hq
   obtain rfl:_=u':=by simpa [aF] using hu
   obtain ⟨b',_,rfl⟩:=cq hv;exact mF rfl rfl rfl rfl (by rw [Op.equalIn]; simp [aD hT])
  ·cases hq
   obtain rfl:_=v':=by simpa [aF] using hv
   obtain ⟨b',_,rfl⟩:=cq hu;exact mF rfl rfl rfl rfl (by rw [Op.equalIn]; simp [aD hT])
  ·cases hq
 ·have hmap: ∀ {r:Nat} {z:Value},aF m (.map (some r))=some z→ ∃ r',z= .map (some r'):=by
   intro r z hz;simp only [aF] at hz;cases hb:bk r with
   |old g=>rw [hb] at hz; cases hz
   |new i=>
    rw [hb] at hz;dsimp only at hz;cases hm:m i with
    |none=>rw [hm] at hz; cases hz
    |some b=>rw [hm] at hz; cases hz; exact ⟨_,rfl⟩
  split at hq
  ·cases hq
   obtain rfl:_=u':=by simpa [aF] using hu
   obtain rfl:_=v':=by simpa [aF] using hv
   exact mF rfl rfl rfl rfl (by rw [Op.equalIn]; simp [aD hT])
  ·cases hq
   obtain rfl:_=u':=by simpa [aF] using hu
   obtain ⟨b',rfl⟩:=hmap hv;exact mF rfl rfl rfl rfl (by rw [Op.equalIn]; simp [aD hT])
  ·cases hq
   obtain rfl:_=v':=by simpa [aF] using hv
   obtain ⟨b',rfl⟩:=hmap hu;exact mF rfl rfl rfl rfl (by rw [Op.equalIn]; simp [aD hT])
  ·cases hq
 ·have hfn: ∀ {f:Fn} {a c:Array Value} {z:Value},aF m (.func f a c)=some z→ ∃ f' a' c',z= .func f' a' c':=by
   intro f a c z hz;obtain ⟨a⟩:=a;obtain ⟨c⟩:=c;simp only [aF] at hz;split at hz
   ·cases hz; exact ⟨_,_,_,rfl⟩
   ·cases hz
  split at hq
  ·cases hq
   obtain rfl:_=u':=by simpa [aF] using hu
   obtain rfl:_=v':=by simpa [aF] using hv
   exact mF rfl rfl rfl rfl (by rw [Op.equalIn]; simp [aD hT])
  ·cases hq
   obtain rfl:_=u':=by simpa [aF] using hu
   obtain ⟨_,_,_,rfl⟩:=hfn hv;exact mF rfl rfl rfl rfl (by rw [Op.equalIn]; simp [aD hT])
  ·cases hq
   obtain rfl:_=v':=by simpa [aF] using hv
   obtain ⟨_,_,_,rfl⟩:=hfn hu;exact mF rfl rfl rfl rfl (by rw [Op.equalIn]; simp [aD hT])
  ·cases hq
 ·have hif: ∀ {t:TypeId} {x z:Value},aF m (.iface t x)=some z→ ∃ x',z= .iface t x':=by
   intro t x z hz;simp only [aF] at hz;split at hz
   ·cases hz; exact ⟨_,rfl⟩
   ·cases hz
  split at hq
  ·obtain rfl:_=u':=by simpa [aF] using hu
   obtain rfl:_=v':=by simpa [aF] using hv
   have hc:(wF x=true∨wF y=true)∧q=true:=by
    cases hx:wF x<;>cases hy:wF y<;>rw [hx,hy] at hq<;>simp at hq<;>simp [hq]
   obtain ⟨hc,rfl⟩:=hc;have g: ∀ op,eqGuard op T x y .nilIface .nilIface=pure ():=by
    intro op;rcases hc with hc|hc
    ·cases x<;>simp [wF] at hc
     exact eqGuard_nil_constL ..
    ·cases y<;>simp [wF] at hc
     exact eqGuard_nil_constR ..
   exact mF (g _) (g _) rfl rfl (by rw [Op.equalIn]; simp [aD hT])
  ·cases hq
   obtain rfl:_=u':=by simpa [aF] using hu
   obtain ⟨_,rfl⟩:=hif hv;exact mF rfl rfl rfl rfl (by rw [Op.equalIn]; simp [aD hT])
  ·cases hq
   obtain rfl:_=v':=by simpa [aF] using hv
   obtain ⟨_,rfl⟩:=hif hu;exact mF rfl rfl rfl rfl (by rw [Op.equalIn]; simp [aD hT])
  ·cases hq
 ·cases hq
theorem RN {a b:Addr} (h:L0 a b=true):a=b:=by
 unfold L0 at h;split at h
 ·rename_i s1 s2
  split at h
  ·rename_i c1 c2
   obtain ⟨b1,o1,p1⟩:=a;obtain ⟨b2,o2,p2⟩:=b;simp only at s1 s2 c1 c2;rw [br c1,br c2,s1,s2]
  ·cases h
 ·cases h
theorem Mi {op:BinOp} {T:TypeId} {x y:Operand} {a b:Addr} {z u' v':Value} (e:RC P op T a b=some z) (hu:aF m (.pointer (some a))=some u') (hv:aF m (.pointer (some b))=some v') (w:World):
  bL z=true∧((do eqGuard op T x y u' v'; binOp op T u' v'):Sem Value).run P w= .ok z w:=by
 unfold RC at e;split at e
 ·rename_i el hs hT
  obtain rfl:=RN hs;rw [hu] at hv; cases hv;obtain ⟨a',_,rfl⟩:=cq hu;split at e
  ·rename_i n hn
   have hi: ∃ j,P.info? el=some j:=by
    unfold aV at hn;cases hi:P.info? el with
    |none=>rw [hi] at hn; cases hn
    |some j=>exact ⟨j,rfl⟩
   obtain ⟨j,hj⟩:=hi;have main:=mF (P:=P) (T:=T) (x:=x) (y:=y) (u:= .pointer (some a')) (v:= .pointer (some a')) (q:=true) (w:=w) rfl rfl rfl rfl (by
    rw [Op.equalIn];simp [aD hT,sizeOf,typeInfo,hj,sameAddr])
   split at e
   ·cases e; exact ⟨rfl,main.1⟩
   ·cases e; exact ⟨rfl,main.2⟩
   ·cases e
  ·cases e
 ·cases e
theorem Mj (r:Rel P G m F K h w) {op:BinOp} {T:TypeId} {x y:Operand} {u v u' v' z:Value} (hu:aF m u=some u') (hv:aF m v=some v') (e:Gz P op T x y u v=some z):
  wD P m z w ((do pure (.value (← (do eqGuard op T x y u' v'; binOp op T u' v'))):Sem Next).run P w):=by
 unfold Gz at e;split at e
 ·obtain rfl:=gC hu
  obtain rfl:=gC hv;obtain ⟨h1,h2⟩:=c_ e;refine .aT (v':=z) ?_ (bP m z h2);simp [eqGuard_at_int,cP _ h1 w]
 ·rename_i s1 s2
  obtain rfl:=eX hu;obtain rfl:=eX hv;obtain ⟨h1,h2⟩:=OI (P:=P) e;refine .aT (v':=z) ?_ (bP m z h1);have:binOp op T (.string s1) (.string s2)=Op.stringOp op s1 s2:=by
   cases op<;>first|rfl|(simp [Ti] at e; done)
  simp [eqGuard_at_string,this,h2 w]
 ·obtain rfl:=mN hu
  obtain rfl:=mN hv;obtain ⟨h1,h2⟩:=c_ e;refine .aT (v':=z) ?_ (bP m z h2);simp [eqGuard_at_bool,cP _ h1 w]
 ·split at e
  ·rename_i c1 c2
   obtain rfl:=qL c1 hu;obtain rfl:=qL c2 hv;obtain ⟨h1,h2⟩:=c_ e;exact .aT (v':=z) (cP _ h1 w) (bP m z h2)
  ·cases e
 ·obtain ⟨h1,h2⟩:=Mi e hu hv w
  exact .aT (v':=z) h2 (bP m z h1)
 ·split at e
  ·cases e
  ·rename_i d hT
   split at e
   ·cases e
   ·rename_i q hq
    obtain ⟨h1,h2⟩:=Mh hT hq hu hv w;split at e
    ·cases e; exact .aT (v':= .bool q) h1 (by simp [aF])
    ·cases e; exact .aT (v':= .bool (!q)) h2 (by simp [aF])
    ·cases e
end
end Go.Sim
namespace Go.Sim
variable {P:Program} {G:Nat→Option (List Value)}
section
variable {m:aa} {F:Nat→Prop} {K:World} {h h':Hp} {w:World} {nt:Nat} {tm:TM} {a:Act} {v:Value}
theorem G2 {t:TypeId} {cs cs':List Value} {off:Nat} (e:wH P t cs off=some v) (hc:aO m cs=some cs'): ∃ v',aF m v=some v'∧ ∀ w:World,(part t ⟨cs'⟩ off).run P w= .ok v' w:=by
 unfold wH at e;split at e
 ·rename_i n hq hn
  split at e
  ·rename_i hle
   cases e;refine ⟨.agg ⟨(cs'.drop off).take n⟩,by simp only [aF,GQ n (GP off hc)],fun w=> ?_⟩;simp only [part,Sem.run_bind,cJ hq,Result.andThen_ok,if_true,aW hn,Sem.run_pure]
   congr 2
   apply Array.ext';simp [List.extract_eq_take_drop]
  ·cases e
 ·rename_i hq
  obtain ⟨v',h1,h2⟩:=jW hc _ _ e;refine ⟨v',h1,fun w=> ?_⟩;have:(⟨cs'⟩:Array Value)[off]? =some v':=by simpa using h2
  simp [part,cJ hq,this]
 ·cases e
theorem G3 (r:Rel P G m F K h w) {t:TypeId} {cs:List Value} {x:Value} {fs:Array Field} {f:Nat} {fd:Field} (hx:aF m (.agg ⟨cs⟩)=some x) (ht:P.underlying t=some (.struct fs)) (hf:fs.toList[f]? =some fd)
  (e:wH P fd.type cs fd.offset=some v):wD P m v w ((do pure (.value (← Instr.field t x f)):Sem Next).run P w):=by
 obtain ⟨cs',h1,rfl⟩:=KF hx;obtain ⟨v',h2,h3⟩:=G2 e h1;have hf':fs[f]? =some fd:=by simpa using hf
 exact .aT (v':=v') (by simp [Instr.field,aD ht,hf',asAgg,h3]) h2
theorem OJ (r:Rel P G m F K h w) {t e:TypeId} {n i size:Nat} {cs:List Value} {x y iv:Value} (hx:aF m (.agg ⟨cs⟩)=some x) (hy:aF m iv=some y) (hi:cm iv=some i)
  (ht:P.underlying t=some (.array n e)) (hn:aV P e=some size) (hlt:i<n) (hp:wH P e cs (i*size)=some v):
  wD P m v w ((do pure (.value (← Instr.index t x y)):Sem Next).run P w):=by
 obtain ⟨cs',h1,rfl⟩:=KF hx;obtain ⟨k,rfl⟩:=jH hi;obtain rfl:=gC hy;obtain ⟨v',h2,h3⟩:=G2 hp h1;refine .aT (v':=v') ?_ h2;have h2':(0:Int)≤i∧(i:Int)<n:=⟨by omega,by omega⟩;simp only [Instr.index,asIntOf,Sem.run_bind,Sem.run_pure,Result.andThen_ok,aD ht,if_pos h2',aW hn,Int.toNat_natCast,h3]
theorem G4 (r:Rel P G m F K h w) {t:TypeId} {i:Nat} {s:ByteArray} {b:UInt8} {x y iv:Value} (hx:aF m (.string s)=some x) (hy:aF m iv=some y) (hi:cm iv=some i)
  (ht:P.underlying t=some .string) (hb:s.data.toList[i]? =some b):
  wD P m (.int .u8 b.toNat) w ((do pure (.value (← Instr.index t x y)):Sem Next).run P w):=by
 obtain rfl:=eX hx;obtain ⟨k,rfl⟩:=jH hi;obtain rfl:=gC hy;refine .aT (v':= .int .u8 b.toNat) ?_ (by simp [aF]);have hlt:i<s.size:=by have:=iH hb; simpa using this
 have hg:s[i]? =some b:=by
  rw [ByteArray.getElem?_lt' s i hlt];have:s.data.toList[i]? =some s[i]:=by rw [Array.getElem?_toList,Array.getElem?_eq_getElem hlt]; rfl
  rw [this] at hb;exact hb
 have h0:(0:Int)≤i:=by omega
 simp only [Instr.index,asIntOf,Sem.run_bind,Sem.run_pure,Result.andThen_ok,aD ht,if_pos h0,Int.toNat_natCast,hg]
theorem TA (a b:ByteArray):(a==b)=(a.data.toList==b.data.toList):=by
 obtain ⟨⟨a⟩⟩:=a;obtain ⟨⟨b⟩⟩:=b;show ((⟨a⟩:Array UInt8)==⟨b⟩)=_
 simp
theorem G5 {d:TypeDesc} {k e:Value} {q:Bool} (hk:kindOk (some d) k=true) (hq:eM k e=some q):Instr.sameNow d k e=some q:=by
 unfold eM at hq;split at hq
 ·split at hq
  ·rename_i he
   cases hq;have he:=of_decide_eq_true he;subst he;cases d<;>simp [kindOk] at hk;simp [Instr.sameNow];exact Bool.beq_eq_decide_eq ..
  ·cases hq
 ·cases hq
  cases d<;>simp [kindOk] at hk;rename_i a b;simp only [Instr.sameNow,nV];rw [TA]
 ·cases hq
  cases d<;>simp [kindOk] at hk;rfl
 ·cases hq
theorem G6 {d:TypeDesc} {k:Value} (hk:kindOk (some d) k=true): ∀ {es:List (Value×Value)} {ms:List MapEntry} (i:Nat) {o:Option Value},wM m es ms→um k es=some o→
  (o=none∧Instr.findNow d k ms i=some none)∨ ∃ v v' j,o=some v∧aF m v=some v'∧Instr.findNow d k ms i=some (some (j,v'))
 |[],[],i,o,_,h=>by simp only [um,Option.some.injEq] at h; subst h; exact .inl ⟨rfl,rfl⟩
 |[],_::_,i,o,h,_=>h.elim
 |_::_,[],i,o,h,_=>h.elim
 |(k',v)::es,e::ms,i,o,hr,h=>by
  obtain ⟨h1,h2,h3,h4⟩:=hr;obtain rfl:=qL h2 h1;simp only [um] at h;cases hq:eM k e.key with
  |none=>rw [hq] at h; cases h
  |some q=>
   rw [hq] at h;have hs:=G5 hk hq;cases q with
   |true=>
    cases h;exact .inr ⟨v,e.val,i,rfl,h3,by simp only [Instr.findNow,hs]⟩
   |false=>
    dsimp only at h;have:=G6 hk (i+1) h4 h;simp only [Instr.findNow,hs];exact this
theorem run_checkKey {t:TypeId} {d:TypeDesc} {k:Value} (ht:P.underlying t=some d) (hk:kindOk (some d) k=true) (b:Bool) (w:World):(Instr.checkKey b 10000 t k).run P w= .ok () w:=by
 rw [show (10000:Nat)=9999+1 from rfl,Instr.checkKey];cases d<;>simp [kindOk] at hk<;>cases k<;>simp at hk<;>simp [aD ht]
theorem pR (r:Rel P G m F K h w) {t kt e:TypeId} {rr:Option Nat} {k x y:Value} {ok:Bool} {es:List (Value×Value)} {o:Option Value} {d:TypeDesc} (hx:aF m (.map rr)=some x) (hy:aF m k=some y) (ht:P.underlying t=some (.map kt e)) (Ob:P.underlying kt=some d)
  (sX:mapOf h rr=some es) (hk:kindOk (some d) k=true) (hf:um k es=some o) {z:Value} (hz:o=none→bA P e=some z∧bL z=true)
  (hv:v=(if ok then .tuple ⟨[o.getD z, .bool o.isSome]⟩ else o.getD z)):
  wD P m v w ((do pure (.value (← Instr.lookup t x y ok)):Sem Next).run P w):=by
 have hky:y=k:=by
  have:bL k=true:=by unfold kindOk at hk; split at hk<;>first|rfl|cases hk
  exact qL this hy
 subst hky;have main: ∀ (ms:Array MapEntry),wM m es ms.toList→ ∃ v',aF m v=some v'∧((do
   Instr.checkKey ms.isEmpty 10000 kt y
   let (v,q)←match←Instr.findKey kt y ms.toList with
    |some (_,v)=>pure (v,true)
    |none=>pure (← zeroValue e,false)
   pure (if ok then .tuple #[v, .bool q] else v)):Sem Value).run P w= .ok v' w:=by
  intro ms hr;rcases G6 hk 0 hr hf with ⟨rfl,h1⟩|⟨v1,v1',j,rfl,h2,h1⟩
  ·obtain ⟨hz1,OF⟩:=hz rfl
   have OL:(Instr.findKey kt y ms.toList).run P w= .ok none w:=by simp [Instr.findKey,aD Ob,h1]
   subst hv;refine ⟨if ok then .tuple #[z, .bool false] else z, ?_, ?_⟩
   ·cases ok
    ·simpa using bP m z OF
    ·simp [aF,aO,bP m z OF]
   ·simp [run_checkKey Ob hk,OL,bW hz1]
  ·have OL:(Instr.findKey kt y ms.toList).run P w= .ok (some (j,v1')) w:=by simp [Instr.findKey,aD Ob,h1]
   subst hv;refine ⟨if ok then .tuple #[v1', .bool true] else v1', ?_, ?_⟩
   ·cases ok
    ·simpa using h2
    ·simp [aF,aO,h2]
   ·simp [run_checkKey Ob hk,OL]
 unfold mapOf at sX;cases rr with
 |none=>
  cases sX;obtain rfl:_=x:=by simpa [aF] using hx
  obtain ⟨v',h1,h2⟩:=main #[] trivial;refine .aT (v':=v') ?_ h1;simp only [Instr.lookup,Sem.run_bind,aD ht,Result.andThen_ok,Sem.run_pure];simp only [Sem.run_bind] at h2; exact h2
 |some q=>
  dsimp only at sX;cases hb:bk q with
  |old g=>rw [hb] at sX; cases sX
  |new i=>
   rw [hb] at sX;dsimp only at sX;cases ho:h.bs.get i with
   |none=>rw [ho] at sX; cases sX
   |some ob=>
    rw [ho] at sX;cases ob with
    |dead=>cases sX
    |loop=>cases sX
    |cells _ _ _=>cases sX
    |map es2=>
     cases sX;simp only [aF,hb] at hx;cases h1:m i with
     |none=>rw [h1] at hx; cases hx
     |some b=>
     rw [h1] at hx;obtain ⟨ms,cl,h2,h3,h4⟩:=r.obj i _ ho b h1;have hx':x= .map (some b.af):=(Option.some.inj hx).symm;subst hx';have hg:(getObj b.af).run P w= .ok (.map ms cl) w:=by simp [getObj,Sem.run,h3]
     obtain ⟨v',g1,g2⟩:=main ms h4;refine .aT (v':=v') ?_ g1;simp only [Instr.lookup,Sem.run_bind,aD ht,Result.andThen_ok,Sem.run_pure,hg];simp only [Sem.run_bind] at g2; exact g2
theorem RO (r:Rel P G m F K h w) {t:TypeId} {rr:Option Nat} {k x y:Value} {ok:Bool} (hx:aF m (.map rr)=some x) (hy:aF m k=some y)
  (hk:bL k=true) (sX:mapOf h rr=some []) (e:guarded (bw P (Instr.lookup t (.map none) k ok))=some v):
  wD P m v w ((do pure (.value (← Instr.lookup t x y ok)):Sem Next).run P w):=by
 obtain ⟨e1,e2⟩:=c_ e;obtain rfl:y=k:=qL hk hy;have h0:=cP _ e1 w;have main:(Instr.lookup t x y ok).run P w= .ok v w:=by
  cases rr with
  |none=>
   obtain rfl:_=x:=by simpa [aF] using hx
   exact h0
  |some q=>
   unfold mapOf at sX;dsimp only at sX;cases hb:bk q with
   |old g=>rw [hb] at sX; cases sX
   |new i=>
    rw [hb] at sX;dsimp only at sX;cases ho:h.bs.get i with
    |none=>rw [ho] at sX; cases sX
    |some ob=>
     rw [ho] at sX;cases ob with
     |dead=>cases sX
     |loop=>cases sX
     |cells _ _ _=>cases sX
     |map es2=>
      cases sX;simp only [aF,hb] at hx;cases h1:m i with
      |none=>rw [h1] at hx; cases hx
      |some b=>
      rw [h1] at hx;obtain ⟨ms,cl,h2,h3,h4⟩:=r.obj i _ ho b h1;have hx':x= .map (some b.af):=(Option.some.inj hx).symm;subst hx';have hms:ms= #[]:=by
       obtain ⟨ms⟩:=ms;cases ms with
       |nil=>rfl
       |cons a l=>exact h4.elim
      subst hms;have hg:(getObj b.af).run P w= .ok (.map #[] cl) w:=by simp [getObj,Sem.run,h3]
      rw [← h0];have hh:=h0;simp only [Instr.lookup,Sem.run_bind] at hh ⊢;cases hu:P.underlying t with
      |none=>simp [underlying,hu] at hh
      |some d=>
       rw [aD hu];cases d<;>simp only [Result.andThen_ok,Sem.run_bind,hg,Sem.run_pure]
 exact .aT (v':=v) main (bP m v e2)
theorem KI {d:TypeDesc} {k v v':Value} (hk:kindOk (some d) k=true) (hv:aF m v=some v'): ∀ {es es':List (Value×Value)} {ms:List MapEntry} (i:Nat),wM m es ms→C_ k v es=some es'→
  (Instr.findNow d k ms i=some none∧ ∀ born,wM m es' (ms++[{key:=k,val:=v',born:=born}]))∨
   ∃ j e u,Instr.findNow d k ms i=some (some (i+j,u))∧ms[j]? =some e∧e.key=k∧wM m es' (ms.set j {e with key:=k,val:=v'})
 |[],es',[],i,_,h=>by
  simp only [C_,Option.some.injEq] at h;subst h;refine .inl ⟨rfl,fun born=> ?_⟩;have hn:bL k=true:=by unfold kindOk at hk; split at hk<;>first|rfl|cases hk
  exact ⟨bP m k hn,hn,hv,trivial⟩
 |[],_,_::_,i,h,_=>h.elim
 |_::_,_,[],i,h,_=>h.elim
 |(k',u)::es,es',e::ms,i,hr,h=>by
  obtain ⟨h1,h2,h3,h4⟩:=hr;obtain hke:=qL h2 h1;subst hke;simp only [C_] at h;have hn:bL k=true:=by unfold kindOk at hk; split at hk<;>first|rfl|cases hk
  cases hq:eM k e.key with
  |none=>rw [hq] at h; cases h
  |some q=>
   rw [hq] at h;have hs:=G5 hk hq;cases q with
   |true=>
    cases h;have hek:e.key=k:=by
     unfold eM at hq;split at hq
     ·rename_i ke a kk b hk2
      split at hq
      ·rename_i he
       have he:=of_decide_eq_true he;have hb:decide (a=b)=true:=Option.some.inj hq;have:=of_decide_eq_true hb;rw [hk2,he,this]
      ·cases hq
     ·rename_i a b hk2
      have hb:=Option.some.inj hq;rw [nV] at hb;have:a=b:=by apply ByteArray.ext; exact Array.toList_inj.1 (by simpa using hb)
      rw [hk2,this]
     ·rename_i a b hk2
      have hb:=Option.some.inj hq;rw [hk2]; congr 1; exact (by simpa using hb:a=b).symm
     ·cases hq
    refine .inr ⟨0,e,e.val,by simp only [Instr.findNow,hs,Nat.add_zero],rfl,hek, ?_⟩;exact ⟨bP m k hn,hn,hv,h4⟩
   |false=>
    dsimp only at h;cases hp:C_ k v es with
    |none=>rw [hp] at h; cases h
    |some es2=>
     rw [hp] at h;cases h;rcases KI hk hv (i+1) h4 hp with ⟨g1,g2⟩|⟨j,e2,u2,g1,g2,g3,g4⟩
     ·exact .inl ⟨by simp only [Instr.findNow,hs,g1],fun born=>⟨h1,h2,h3,g2 born⟩⟩
     ·refine .inr ⟨j+1,e2,u2,by simp only [Instr.findNow,hs,g1]; rw [show i+1+j=i+(j+1) by omega],by simpa using g2,g3, ?_⟩
      exact ⟨h1,h2,h3,g4⟩
theorem Rel.W7 (r:Rel P G m F K h w) {i:Nat} {es es':List (Value×Value)} {b:BI} {ms ms':Array MapEntry} {cl Jy:Nat} (hi:h.bs.get i=some (.map es)) (hb:m i=some b) (hF: ¬ F b.af)
  (hh:w.heap[b.af]? =some (.map ms cl)) (he:wM m es' ms'.toList):
  Rel P G m F K {h with bs:=h.bs.set i (.map es')} {w with heap:=w.heap.setIfInBounds b.af (.map ms' Jy)}:=by
 have hlt:=getElem?_lt' hh;have wN: ∀ q,q≠b.af→(w.heap.setIfInBounds b.af (.map ms' Jy))[q]? =w.heap[q]? :=fun q hq=>by rw [Array.getElem?_setIfInBounds,if_neg (fun e=>hq e.symm)]
 refine ⟨r.len,r.os,r.tape,r.output,by simpa using r.size,fun q hq=>⟨(r.fr q hq).1, ?_⟩,r.oC, ?_, ?_⟩
 ·rw [show ({w with heap:=w.heap.setIfInBounds b.af (.map ms' Jy)}:World).heap[q]? =w.heap[q]? from wN q (fun e=>hF (e ▸ hq))]
  exact (r.fr q hq).2
 ·intro j o hj
  rw [Tr.bn] at hj;by_cases e:i=j
  ·rw [if_pos e] at hj; cases hj; subst e
   intro b2 A7;rw [hb] at A7; cases A7;exact ⟨ms',Jy,hF,by simp [hlt],he⟩
  ·rw [if_neg e] at hj
   refine jX (r.obj j o hj) fun hl b2 A7=>wN _ fun eb=> ?_
   exact e (r.inj i j _ o b b2 hi hj trivial hl hb A7 eb.symm)
 ·intro j1 j2 o1 o2 b1 b2 pP hj2 l1 l2
  rw [Tr.bn] at pP hj2;have key: ∀ j o,(if i=j then some (dA.map es') else h.bs.get j)=some o→o.live→ ∃ o',h.bs.get j=some o'∧o'.live:=by
   intro j o ho hl;by_cases e:i=j
   ·subst e; exact ⟨_,hi,trivial⟩
   ·rw [if_neg e] at ho; exact ⟨o,ho,hl⟩
  obtain ⟨o1',h1',l1'⟩:=key _ _ pP l1;obtain ⟨o2',h2',l2'⟩:=key _ _ hj2 l2;exact r.inj j1 j2 o1' o2' b1 b2 h1' h2' l1' l2'
theorem abV (n:Nat) (k:IntKind) (a:Int):Instr.sameBits n (.int k a) (.int k a)=true:=by cases n<;>(show (k==k&&a==a)=true; simp)
theorem UR (n:Nat) (a:ByteArray):Instr.sameBits n (.string a) (.string a)=true:=by cases n<;>(show (a==a)=true; simp [TA])
theorem ZW (n:Nat) (a:Bool):Instr.sameBits n (.bool a) (.bool a)=true:=by cases n<;>(show (a==a)=true; simp)
theorem p0 {d:TypeDesc} {k:Value} (hk:kindOk (some d) k=true) (n:Nat):Instr.sameBits n k k=true:=by
 unfold kindOk at hk;split at hk
 ·exact abV ..
 ·exact UR ..
 ·exact ZW ..
 ·cases hk
theorem Ew (r:Rel P G m F K h w) {t rr:Nat} {k v x y z u:Value} (hx:aF m (.map (some rr))=some x) (hy:aF m k=some y) (hz:aF m v=some z) (e:s6 P t rr k v h=some (u,h')):
  uv P G m F K h h' u ((do Instr.mapUpdate t x y z; pure .skip:Sem Next).run P w):=by
 unfold s6 at e;split at e
 ·rename_i kt el ht
  split at e
  ·rename_i i hk hb
   split at e
   ·rename_i es hi
    split at e
    ·rename_i es' hp
     cases e;cases Ob:P.underlying kt with
     |none=>rw [Ob] at hk; simp [kindOk] at hk
     |some d=>
      rw [Ob] at hk;have hn:bL k=true:=by unfold kindOk at hk; split at hk<;>first|rfl|cases hk
      have hyk:=qL hn hy;subst hyk;simp only [aF,hb] at hx;cases h1:m i with
      |none=>rw [h1] at hx; cases hx
      |some b=>
      rw [h1] at hx;obtain ⟨ms,cl,h2,h3,h4⟩:=r.obj i _ hi b h1;have hx':x= .map (some b.af):=(Option.some.inj hx).symm;subst hx';have hg:(getObj b.af).run P w= .ok (.map ms cl) w:=by simp [getObj,Sem.run,h3]
      have Mk: ∀ ms' Jy,(setObj b.af (.map ms' Jy)).run P w= .ok () {w with heap:=w.heap.setIfInBounds b.af (.map ms' Jy)}:=by intro ms' Jy; simp [setObj,Sem.run,h3]
      rcases KI hk hz 0 h4 hp with ⟨g1,g2⟩|⟨j,en,u2,g1,g2,g3,g4⟩
      ·have OL:(Instr.findKey kt y ms.toList).run P w= .ok none w:=by simp [Instr.findKey,aD Ob,g1]
       refine ⟨m,undef,_,Step.set h1 _,by simp [undef,aF,aO],r.W7 hi h1 h2 h3 (ms':=ms.push {key:=y,val:=z,born:=cl}) (Jy:=cl+1) (by simpa using g2 cl), .inr ⟨cM ?_,rfl⟩⟩;simp [Instr.mapUpdate,aD ht,hg,run_checkKey Ob hk,OL,Mk]
      ·have OL:(Instr.findKey kt y ms.toList).run P w= .ok (some (j,u2)) w:=by simp [Instr.findKey,aD Ob,g1]
       have OM:ms[j]? =some en:=by simpa using g2
       have W8:(Instr.keyThatStays en.key y).run P w= .ok y w:=by rw [g3]; simp [Instr.keyThatStays,p0 hk]
       refine ⟨m,undef,_,Step.set h1 _,by simp [undef,aF,aO],r.W7 hi h1 h2 h3 (ms':=ms.modify j fun e=>{e with key:=y,val:=z}) (Jy:=cl) ?_, .inr ⟨cM ?_,rfl⟩⟩
       ·have:(ms.modify j fun e=>{e with key:=y,val:=z}).toList=ms.toList.set j {en with key:=y,val:=z}:=by
         apply List.ext_getElem?;intro q;rw [Array.getElem?_toList,Array.getElem?_modify,List.getElem?_set,Array.getElem?_toList];by_cases hq:j=q
         ·subst hq
          have:=getElem?_lt' OM;have hge:ms[j]=en:=by rw [Array.getElem?_eq_getElem this] at OM; exact Option.some.inj OM
          simp [OM,this,hge]
         ·simp [hq]
        rw [this]; exact g4
       ·simp [Instr.mapUpdate,aD ht,hg,run_checkKey Ob hk,OL,Mk,OM,W8]
    ·cases e
   ·cases e
  ·cases e
 ·cases e
theorem p_ {s:Sem Value} (hs:s.run P w= .ok (.map (some w.heap.size)) (w.alloc (.map #[] 0))):
  ZT P m F h {next:=h.next+1,bs:=h.bs.set h.next (.map [])} (.map (some (2*h.next))) w ((do pure (.value (← s)):Sem Next).run P w):=by
 refine ⟨_,_,⟨_,_,rfl,rfl,fun m' he hm=> ?_,fun m' he hm hF=> ?_⟩,aU hs⟩
 ·simp only [aF,Mf,hm]
 ·intro b hb
  rw [hm] at hb; cases hb;refine ⟨#[],0,hF, ?_,trivial⟩;show (w.heap.push _)[w.heap.size]? =_
  simp
end
end Go.Sim
namespace Go.Sim
variable {P:Program} {G:Nat→Option (List Value)}
section
variable {m:aa} {F:Nat→Prop} {K:World} {h h':Hp} {w:World} {nt:Nat} {tm:TM} {a:Act} {v:Value}
theorem sA: ∀ {l:List Value} {bs:List UInt8},bytesOf l=some bs→ ∃ ns:List Int,l=ns.map (Value.int .u8)∧bs=ns.map (fun n=>UInt8.ofNat n.toNat)
 |[],bs,h=>by simp only [bytesOf,Option.some.injEq] at h; subst h; exact ⟨[],rfl,rfl⟩
 |x::l,bs,h=>by
  unfold bytesOf at h;split at h
  ·cases ‹_::_=[]›
  ·rename_i n l2 he
   cases he;split at h
   ·rename_i r hr
    cases h;obtain ⟨ns,h1,h2⟩:=sA hr;exact ⟨(n:Int)::ns,by simp [h1],by simp [h2]⟩
   ·cases h
  ·cases h
theorem foldl_push (ns:List Int): ∀ s:ByteArray,(ns.foldl (fun r n=>r.push (UInt8.ofNat n.toNat)) s).data.toList=s.data.toList++ns.map (fun n=>UInt8.ofNat n.toNat):=by
 induction ns with
 |nil=>intro s; simp
 |cons n ns ih=>intro s; simp only [List.foldl_cons]; rw [ih]; simp [ByteArray.push]
theorem run_mark {w:World} {c:Array Value} {e:TypeId} (hb:w.heap.back? =some (.cells c e)) (hs:0<w.heap.size):(markStringish ⟨w.heap.size - 1,0,none⟩).run P w= .ok () (w.freeze ⟨w.heap.size - 1,c.size,none⟩ 1):=by
 have h1:w.heap[w.heap.size - 1]? =some (.cells c e):=by rw [← hb]; simp [Array.back?]
 simp only [markStringish,Sem.run_bind,run_shape,Result.andThen_ok,World.shape?,h1,run_freeze]
theorem Dm {w:World} {e:TypeId} {s:ByteArray} {src dst:TypeId} (hs:P.underlying src=some .string) (hd:P.underlying dst=some (.slice e)) (he:P.underlying e=some (.int .u8)):
  (convert src dst (.string s)).run P w= .ok (.slice (some ⟨w.heap.size,0,none⟩) s.size (grownCap w s.size 0 e))
   ((w.drew.alloc (.cells (s.data.map (fun b=>Value.int .u8 b.toNat)++Array.replicate (grownCap w s.size 0 e - s.size) (.int .u8 0)) e)).freeze ⟨w.heap.size,s.size+(grownCap w s.size 0 e - s.size),none⟩ 1):=by
 have hq:(Question.appendCap s.size 0 e).forced=false:=rfl;have hch:(choose (.appendCap s.size 0 e)).run P w= .ok (grownCap w s.size 0 e) w.drew:=by rw [run_choose,if_neg (by rw [hq]; decide)]; rfl
 generalize hcap:grownCap w s.size 0 e=cap at*;have hmk:=run_mark (P:=P) (w:=w.drew.alloc (.cells (s.data.map (fun b=>Value.int .u8 b.toNat)++Array.replicate (cap - s.size) (.int .u8 0)) e)) (e:=e) (by simp [World.alloc]; rfl) (by simp);have hsz:(w.drew.alloc (.cells (s.data.map (fun b=>Value.int .u8 b.toNat)++Array.replicate (cap - s.size) (.int .u8 0)) e)).heap.size - 1=w.heap.size:=by simp
 rw [hsz] at hmk;have hcs:(s.data.map (fun b:UInt8=>Value.int .u8 b.toNat)++Array.replicate (cap - s.size) (Value.int .u8 0)).size=s.size+(cap - s.size):=by rw [Array.size_append,Array.size_map,Array.size_replicate]; rfl
 rw [hcs] at hmk;simp only [convert,Sem.run_bind,aD hs,aD hd,Result.andThen_ok,aD he,Conv.stringToBytes,hch,newRow,run_newObj,Sem.run_pure];have hw:w.drew.heap.size=w.heap.size:=rfl;have ha:({w.drew with heap:=w.drew.heap.push (.cells (s.data.map (fun b=>Value.int .u8 b.toNat)++Array.replicate (cap - s.size) (.int .u8 0)) e)}:World)=w.drew.alloc (.cells (s.data.map (fun b=>Value.int .u8 b.toNat)++Array.replicate (cap - s.size) (.int .u8 0)) e):=rfl;rw [hw,ha,hmk];rfl
theorem ON {ty:TypeId} (h:L2 P ty=true): ¬ Tx P ty:=by
 rintro ⟨T,hT,hu⟩;unfold L2 at h;rw [List.all_eq_true] at h;have hi: ∀ t,t<P.types.size→P.info? t=P.types[t]? :=fun t ht=>by
  show (if t<P.types.size then P.types[t]? else _)=_
  rw [if_pos ht]
 have hmem: ∀ t i,P.types[t]? =some i→i∈P.types.toList:=fun t i hti=>by
  rw [← Array.getElem?_toList] at hti;exact List.mem_of_getElem? hti
 unfold Program.underlying at hu;rw [hi T hT] at hu;cases ht:P.types[T]? with
 |none=>rw [ht] at hu; cases hu
 |some i=>
  rw [ht] at hu;have hm:=h i (hmem T i ht);obtain ⟨desc,_⟩:=i;cases desc with
  |named nm u=>
   dsimp only at hu hm;have hu2:=cY hm;rw [hi u hu2] at hu;cases ht2:P.types[u]? with
   |none=>rw [ht2] at hu; cases hu
   |some i2=>
    rw [ht2] at hu;have hm2:=h i2 (hmem u i2 ht2);have hd:i2.desc= .slice ty:=by simpa using hu
    rw [hd] at hm2;simp at hm2
  |slice el=>
   dsimp only at hu hm;cases hu;simp at hm
  |_=>cases hu
theorem zf (r:Rel P G m F K h w) {src dst:TypeId} {a:Addr} {x':Value} (hx:aF m (.pointer (some a))=some x') (e:L3 P src dst a h=true):(convert src dst x').run P w= .ok x' w:=by
 obtain ⟨a',g1,rfl⟩:=cq hx;unfold L3 at e;split at e
 ·rename_i i hbk hsp
  split at e
  ·rename_i size ty cs hi
   obtain ⟨b,hb,ha'⟩:=s9 hbk g1;obtain ⟨cc,fr,h2,h3,h4,h5,h6,h7⟩:=r.obj i _ hi b hb;have hsh:w.shape? a'.block=some (ty,cc.size):=by rw [ha']; simp [World.shape?,h3]
   have info: ∀ {t n},aV P t=some n→ ∃ j,P.info? t=some j∧j.size=n:=fun {t n} hn=>by
    unfold aV at hn;cases hi:P.info? t with
    |none=>rw [hi] at hn; cases hn
    |some j=>rw [hi] at hn; exact ⟨j,rfl,Option.some.inj hn⟩
   split at e
   ·rename_i t hs hd
    split at e
    ·rename_i n hn
     obtain ⟨j,pP,hj2⟩:=info hn;split at e
     ·rename_i c1 c2
      have c1:=cY c1;have c2:=cY c2;exact Lib.run_to_unsafe w a' hs hd pP (by omega) hsh (by rw [ha']; show b.sh+a.off<_; omega)
     ·cases e
    ·cases e
   ·rename_i u hs hd
    split at e
    ·rename_i n hn hrow
     obtain ⟨j,pP,hj2⟩:=info hn;rcases h7 with ⟨q1,q2,q3⟩|q
     ·exact Lib.run_from_unsafe w a' hs hd pP hsh (by rw [ha',q3]; show liesAt P P.depth ty (size/P.cellsOf ty) (b.sh+a.off) u 1=true; rw [q1,Nat.zero_add]; exact e)
     ·exact absurd q (ON hrow)
    ·cases e
   ·cases e
  ·cases e
 ·cases e
theorem OO (r:Rel P G m F K h w) {src dst:TypeId} {x x':Value} (hx:aF m x=some x') (e:wG P G src dst x h=some (v,h')) (hq: ∀ e,P.underlying dst≠some (.slice e)):
  h'=h∧wD P m v w ((do pure (.value (← convert src dst x')):Sem Next).run P w):=by
 unfold wG at e;split at e
 ·rename_i k n
  split at e
  ·rename_i u hg
   cases e;obtain rfl:=gC hx;obtain ⟨h1,h2⟩:=c_ hg;exact ⟨rfl, .aT (v':=v) (cP _ h1 w) (bP m v h2)⟩
  ·cases e
 ·rename_i s
  obtain rfl:=eX hx;split at e
  ·rename_i hs hd
   cases e;exact ⟨rfl, .aT (v':= .string s) (by simp [convert,aD hs,aD hd]) (by simp [aF])⟩
  ·rename_i e2 hs hd
   exact (hq _ hd).elim
  ·cases e
 ·rename_i b n c
  split at e
  ·rename_i el hs hd
   split at e
   ·rename_i he
    split at e
    ·cases e
     obtain rfl:_=x':=by simpa [aF] using hx
     refine ⟨rfl, .aT (v':= .string .empty) ?_ (by simp [aF]; rfl)⟩;simp [convert,aD hs,aD hd,aD he,Conv.bytesToString]
    ·rename_i a
     obtain ⟨a',g1,rfl⟩:=cS hx;split at e
     ·rename_i l hl
      split at e
      ·rename_i bs hb
       cases e;obtain ⟨l',h1,h2⟩:=iZ r g1 _ _ _ hl;obtain ⟨ns,rfl,rfl⟩:=sA hb;have hna:bL.iV (ns.map (Value.int .u8))=true:=by
        clear hl h1 h2 hb;induction ns with
        |nil=>rfl
        |cons n ns ih=>simp only [List.map_cons,bL.iV,bL,ih]
       obtain rfl:=ux hna h1;have hlen:=lD _ _ _ hl;have hrun:=run_loadCells_list (P:=P) (w:=w) a' (ns.map (Value.int .u8)) (fun j v hj=>by simpa using h2 j v hj);rw [hlen] at hrun;have agz:=run_bytesToString (P:=P) w a' n (c+yz m a) ns (by rw [hrun]);refine ⟨rfl, .aT (v':= .string (ns.foldl (fun r n=>r.push (UInt8.ofNat n.toNat)) ByteArray.empty)) ?_ ?_⟩
       ·rw [run_convert_bytes_string w src dst el (some a') n (c+yz m a) hs he hd]; exact agz
       ·have:ns.foldl (fun r n=>r.push (UInt8.ofNat n.toNat)) ByteArray.empty=⟨⟨ns.map (fun n=>UInt8.ofNat n.toNat)⟩⟩:=by
         apply ByteArray.ext; apply Array.toList_inj.1;rw [foldl_push]; simp
        rw [this]; simp [aF]
      ·cases e
     ·cases e
   ·cases e
  ·cases e
 ·split at e
  ·rename_i hc
   cases e;exact ⟨rfl, .aT (v':=x') (zf r hx hc) hx⟩
  ·cases e
 ·cases e
theorem Ml (r:Rel P G m F K h w) {src dst:TypeId} {x x':Value} (hx:aF m x=some x') (e:wG P G src dst x h=some (v,h')):
  uv P G m F K h h' v ((do pure (.value (← convert src dst x')):Sem Next).run P w):=by
 by_cases hq: ∀ e,P.underlying dst≠some (.slice e)
 ·obtain ⟨rfl,hh⟩:=OO r hx e hq
  exact hh.ok r
 have G7: ∃ e,P.underlying dst=some (.slice e):=Classical.byContradiction fun hc=>hq fun e he=>hc ⟨e,he⟩
 obtain ⟨ed,hed⟩:=G7;unfold wG at e;split at e
 ·rename_i k n
  split at e
  ·rename_i u hg
   cases e;obtain rfl:=gC hx;obtain ⟨h1,h2⟩:=c_ hg;exact (wD.aT (v':=v) (cP _ h1 w) (bP m v h2)).ok r
  ·cases e
 ·rename_i s
  obtain rfl:=eX hx;split at e
  ·rename_i hs hd
   cases e;rw [hed] at hd; cases hd
  ·rename_i e2 hs hd
   split at e
   ·rename_i he hn agA
    cases e;have hcap:=grownCap_ge w s.size 0 e2
    let b2:BI:=⟨w.heap.size,0,grownCap w s.size 0 e2 - s.size⟩
    have hcs:aO m (s.data.toList.map (fun b=>Value.int .u8 b.toNat))=some (s.data.toList.map (fun b=>Value.int .u8 b.toNat)):=eP m _ (zY _);have hmn:m h.next=none:=r.len _ (Nat.le_refl _)
    refine .aT (m':=m.up h.next b2) (Dm hs hd he) (Step.new hmn b2 _) ?_ ?_
    ·rw [zZ]
     show some (Value.slice (some ⟨w.heap.size,0,none⟩) s.size (s.size+(grownCap w s.size 0 e2 - s.size)))=_
     rw [show s.size+(grownCap w s.size 0 e2 - s.size)=grownCap w s.size 0 e2 by omega]
    ·have aiJ: ∀ q,q<w.heap.size→((w.drew.alloc (.cells (s.data.map (fun b=>Value.int .u8 b.toNat)++Array.replicate (grownCap w s.size 0 e2 - s.size) (.int .u8 0)) e2)).freeze ⟨w.heap.size,s.size+(grownCap w s.size 0 e2 - s.size),none⟩ 1).heap[q]? =w.heap[q]? :=by
      intro q hq;have:q≠w.heap.size:=by omega
      have hw:w.drew.heap=w.heap:=rfl;simp [World.freeze,World.alloc,hw,Array.getElem?_modify,Array.getElem?_push,this,Ne.symm this]
     refine r.grow b2 _ rfl rfl rfl ?_ aiJ (r.fresh (Nat.le_refl _)) ?_
     ·have hw:w.drew.heap=w.heap:=rfl
      simp [World.freeze,World.alloc,hw]
     intro b3 Zz;rw [aa.bg] at Zz; cases Zz;refine ⟨s.data.map (fun b=>Value.int .u8 b.toNat)++Array.replicate (grownCap w s.size 0 e2 - s.size) (.int .u8 0),(s.size+(grownCap w s.size 0 e2 - s.size),s.size+(grownCap w s.size 0 e2 - s.size)+1), ?_, ?_, ?_, ?_, ?_⟩
     ·intro hF; have:=(r.fr _ hF).1; have:=r.size; simp only [b2] at *; omega
     ·have hw:w.drew.heap=w.heap:=rfl
      show (World.freeze _ _ _).heap[w.heap.size]? =_
      rw [World.freeze,if_neg (by decide)];simp only [Array.getElem?_modify,if_pos];have:(w.drew.alloc (.cells (s.data.map (fun b=>Value.int .u8 b.toNat)++Array.replicate (grownCap w s.size 0 e2 - s.size) (.int .u8 0)) e2)).heap[w.heap.size]? =some (.cells (s.data.map (fun b=>Value.int .u8 b.toNat)++Array.replicate (grownCap w s.size 0 e2 - s.size) (.int .u8 0)) e2):=by
       show (w.heap.push _)[w.heap.size]? =_
       simp
      rw [this];rfl
     ·intro k u hk
      obtain ⟨g1,u',g2,g3⟩:=Dh (fm (Ext.one hmn _) _ _ hcs) (w:=w) k u hk;simp only [List.length_map,Array.length_toList] at g1;refine ⟨by simpa using g1,u',g2, ?_⟩;have g1':k<s.data.size:=g1;rw [Array.getElem?_append_left (by simp [b2]; exact g1')];have hb:b2.sh=0:=rfl;rw [hb];have:(⟨s.data.toList.map (fun b=>Value.int .u8 b.toNat)⟩:Array Value)=s.data.map (fun b=>Value.int .u8 b.toNat):=by apply Array.ext'; simp
      rw [← this]; exact g3
     ·have:N_ P e2 b2=grownCap w s.size 0 e2 - s.size:=by simp only [N_,hn,Option.getD_some,b2,Nat.mul_one]
      rw [this];have hs1:s.size=s.data.size:=rfl;rw [Array.size_append,Array.size_map,Array.size_replicate,hs1];show 0+s.data.size+_≤_
      omega
     ·have:N_ P e2 b2=grownCap w s.size 0 e2 - s.size:=by simp only [N_,hn,Option.getD_some,b2,Nat.mul_one]
      rw [this];refine ⟨fun k k1 k2=> ?_, .inr ⟨dst,cY agA,hd⟩⟩;have hb:b2.sh=0:=rfl;have h1: ¬ (s.size+(grownCap w s.size 0 e2 - s.size)≤k):=by omega
      simp [h1]
   ·cases e
  ·cases e
 ·split at e
  ·rename_i el hs hd
   rw [hed] at hd; cases hd
  ·cases e
 ·split at e
  ·rename_i hc
   cases e;exact (wD.aT (v':=x') (zf r hx hc) hx).ok r
  ·cases e
 ·cases e
end
end Go.Sim
namespace Go.Sim
variable {P:Program} {G:Nat→Option (List Value)}
section
variable {m:aa} {F:Nat→Prop} {K:World} {h h':Hp} {w:World} {nt:Nat} {tm:TM} {a:Act} {v:Value}
theorem JM (r:Rel P G m F K h w) {t:TypeId} {x x':Value} {lo hi mx lo' hi' Oa:Option Value} (hx:aF m x=some x') (hlo:s8 m lo lo') (hhi:s8 m hi hi') (UO:s8 m mx Oa) (e:Ge P t x lo hi mx=some v):
  wD P m v w ((do pure (.value (← Instr.sliceAt t x' lo' hi' Oa)):Sem Next).run P w):=by
 unfold Ge at e;split at e
 ·rename_i s
  split at e
  ·rename_i ht
   split at e
   ·rename_i q l e2 e1
    split at e
    ·rename_i h2 h1
     cases e;exact GW r hx ht hlo hhi UO e1 e2 (cx h2) (cx h1)
    ·cases e
   ·cases e
  ·cases e
 ·rename_i b len cap
  split at e
  ·rename_i el ht
   split at e
   ·rename_i size z q l hn e3 e2 e1
    split at e
    ·rename_i h3 h2 h1
     have Ty:mx.isSome→hi.isSome:=by
      intro hm;cases hh:hi.isSome with
      |true=>rfl
      |false=>rw [hm,hh] at e; cases e
     refine GX r hx ht hn hlo hhi UO e1 e2 e3 (cx h3) (cx h2) (cx h1) Ty ?_
     revert e
     cases hm:mx.isSome<;>cases hh:hi.isSome<;>first|exact id|(intro e; cases e; done)|(cases b<;>exact id)
    ·cases e
   ·cases e
  ·cases e
 ·rename_i a0
  split at e
  ·rename_i n el ht
   split at e
   ·rename_i size z q l hn e3 e2 e1
    split at e
    ·rename_i h3 h2 h1
     split at e
     ·cases e
     ·cases e
     ·rename_i hsp agB
      cases e;have Ty:mx.isSome→hi.isSome:=by
       intro hm;cases hh:hi.isSome with
       |true=>rfl
       |false=>exact (agB hm hh).elim
      exact JK r hx ht hn hlo hhi UO e1 e2 e3 (cx h3) (cx h2) (cx h1) Ty hsp
    ·cases e
   ·cases e
  ·cases e
 ·cases e
theorem Mm (r:Rel P G m F K h w) {l l':List Value} (hl:aO m l=some l') (ts:Array TypeId) (ty:TypeId) (e:Da l h=some (v,h')):
  h'=h∧wD P m v w ((do pure (.value (← Builtin.unsafeSliceData_ ts ty ⟨l'⟩)):Sem Next).run P w):=by
 unfold Da at e;split at e
 ·cases e
  obtain rfl:_=l':=by simpa [aO,aF] using hl
  exact ⟨rfl, .aT (v':= .pointer none) rfl rfl⟩
 ·rename_i a n c
  obtain ⟨x,y,h1,h2,rfl⟩:=cz hl;obtain rfl:y=[]:=by simpa [aO] using h2.symm
  obtain ⟨a',g1,rfl⟩:=cS h1;split at e
  ·cases e
  ·rename_i hc
   cases e;have hc0:c≠0:=fun e=>by subst e; cases hc
   refine ⟨rfl, .aT (v':= .pointer (some a')) (Lib.run_unsafeSliceData_row w _ _ _ _ _ (by omega)) ?_⟩;have:iG m {a with spot:=none}=some a':=by
    unfold iG at g1 ⊢;dsimp only;split at g1
    ·split at g1
     ·exact g1
     ·cases g1
    ·exact g1
   simp only [aF,this]
 ·cases e
theorem wS: ∀ (ns:List Int) (a:Addr) (acc:ByteArray),(∀ j n,ns[j]? =some n→w.cell? (a.add j)=some (.int .u8 n))→
  (loadBytes a acc ns.length).run P w= .ok ⟨acc.data++(ns.map (fun n=>UInt8.ofNat n.toNat)).toArray⟩ w
 |[],a,acc,_=>by simp [loadBytes]
 |n::ns,a,acc,h=>by
  have h0:w.cell? a=some (.int .u8 n):=by
   have:=h 0 n rfl;simpa [Addr.add] using this
  have ih:=wS ns (a.add 1) (acc.push n.toNat.toUInt8) (fun j y hy=>by
   have:=h (j+1) y (by simpa using hy);have e:(a.add 1).add j=a.add (j+1):=by
    unfold Addr.add;by_cases hj:j=0
    ·subst hj; simp
    ·simp [hj]; omega
   rw [e]; exact this)
  simp only [List.length_cons,loadBytes,Sem.run_bind,run_load,h0,Result.andThen];rw [ih]
  congr 1
  apply ByteArray.ext;simp [ByteArray.push]
theorem G8 {e:TypeId} (hc:P.cellsOf e=1) (count off n:Nat) (hn:off+n≤count):liesAt P P.depth e count off e n=true:=by
 have hd:P.depth=(2*(P.types.size+Made.depth)+1)+1:=rfl;rw [hd];simp only [liesAt,Bool.or_eq_true]
 left
 rw [hd];simp [rowAt,hc,hn,sameLayout,Nat.mod_one]
theorem OP (pt it ty e:TypeId) (hp:P.underlying pt=some (.pointer e)) (hc:P.cellsOf e=1) (a:Addr) (hsp:a.spot=none) (cells:Nat) (hsh:w.shape? a.block=some (e,cells)) (ns:List Int) (h0:ns.length≠0) (hn:a.off+ns.length≤cells) (h63:ns.length≤9223372036854775807)
  (hcell: ∀ j n,ns[j]? =some n→w.cell? (a.add j)=some (.int .u8 n)):
  (Builtin.unsafeString_ #[pt,it] ty #[.pointer (some a), .int .i64 ns.length]).run P w= .ok (.string ⟨(ns.map (fun n=>UInt8.ofNat n.toNat)).toArray⟩) (w.freeze a ns.length):=by
 have hlb:=wS (P:=P) (w:=w) ns a .empty hcell;have hlies:=G8 (P:=P) hc (cells/P.cellsOf e) a.off ns.length (by rw [hc]; simpa using hn);have h63': ¬ (9223372036854775807:Int)<(ns.length:Int):=by omega
 have agC:Builtin.unsafeString_ #[pt,it] ty #[.pointer (some a), .int .i64 ns.length]=
   (do
    let n←asInt (.int .i64 ns.length)
    if n<0 then runtimePanic (.error "unsafe.String: len out of range")
    if n>IntKind.i64.max then unsupported (.unsafePointer "String: a length above the largest int")
    if n=0 then pure (.string .empty)
    else if←variablesAt a (← elemOf pt) n.toNat then do
     let s←loadBytes a .empty n.toNat
     freeze a n.toNat
     pure (.string s)
    else unsupported (.unsafePointer "String: not so many bytes at ptr")):=rfl
 rw [agC];have ZX:IntKind.i64.max=9223372036854775807:=rfl;have hneg: ¬ (ns.length:Int)<0:=by omega
 simp [asInt,asIntOf,ZX,h63',hneg,h0,variablesAt,hsh,elemOf,run_underlying hp,hlies,hlb,hsp]
theorem Rel.freeze {m:aa} {F:Nat→Prop} {K:World} {h:Hp} {w:World} (r:Rel P G m F K h w) {i:Nat} {o:dA} (hi:h.bs.get i=some o) (ho:o.live) {b:BI} (hb:m i=some b) (hF: ¬ F b.af) (a:Addr) (ha:a.block=b.af) (n:Nat):
  Rel P G m F K {h with bs:=h.bs.set i .dead} (w.freeze a n):=by
 have wN: ∀ q,q≠b.af→(w.freeze a n).heap[q]? =w.heap[q]? :=fun q hq=>by
  unfold World.freeze;split
  ·rfl
  ·simp only [Array.getElem?_modify]
   rw [if_neg (by rw [ha]; exact fun e=>hq e.symm)]
 have hsz:(w.freeze a n).heap.size=w.heap.size:=by
  unfold World.freeze;split<;>simp
 have hos:(w.freeze a n).os=w.os∧(w.freeze a n).tape=w.tape∧(w.freeze a n).output=w.output:=by
  unfold World.freeze;split<;>exact ⟨rfl,rfl,rfl⟩
 have rk:=r.kill i;refine ⟨rk.len,hos.1.trans r.os,hos.2.1.trans r.tape,hos.2.2.trans r.output,by rw [hsz]; exact r.size,fun q hq=>⟨(r.fr q hq).1, ?_⟩,r.oC,fun j o2 hj=> ?_,rk.inj⟩
 ·rw [wN q (fun e=>hF (e ▸ hq))]; exact (r.fr q hq).2
 ·refine jX (rk.obj j o2 hj) fun hl b2 A7=>wN _ fun eb=> ?_
  rw [Tr.bn] at hj;by_cases e:i=j
  ·rw [if_pos e] at hj; cases hj; exact hl
  ·rw [if_neg e] at hj
   exact e (r.inj i j _ o2 b b2 hi hj ho hl hb A7 eb.symm)
theorem RP (r:Rel P G m F K h w) {l l':List Value} (hl:aO m l=some l') {ts:Array TypeId} (ty:TypeId) (e:L4 P G l ts.toList h=some (v,h')):
  uv P G m F K h h' v ((do pure (.value (← Builtin.unsafeString_ ts ty ⟨l'⟩)):Sem Next).run P w):=by
 obtain ⟨ts⟩:=ts;unfold L4 at e;split at e
 ·rename_i p n t it hts
  obtain rfl:ts=[t,it]:=hts;obtain ⟨x,y,h1,h2,rfl⟩:=cz hl;obtain rfl:[Value.int .i64 (.ofNat n)]=y:=by simpa [aO,aF] using h2
  have hx: ∃ p',x= .pointer p':=by
   cases p with
   |none=>exact ⟨none,by simpa [aF] using h1.symm⟩
   |some a=>obtain ⟨a',_,rfl⟩:=cq h1; exact ⟨_,rfl⟩
  obtain ⟨p',rfl⟩:=hx;split at e
  ·rename_i hn
   cases e;obtain rfl:=br hn;exact (wD.aT (v':= .string ⟨⟨[]⟩⟩) (Lib.run_unsafeString_none w t it ty p') (by simp [aF])).ok r
  ·rename_i hn
   split at e
   ·cases e
   ·rename_i a
    obtain ⟨a',g1,hp'⟩:=cq h1;cases hp';split at e
    ·rename_i i hbk hsp
     split at e
     ·rename_i size tb cs el hi hu
      split at e
      ·rename_i c1 c2 c3 c4
       split at e
       ·rename_i lv hlv
        split at e
        ·rename_i bs hb
         cases e;obtain rfl:=br c1;obtain ⟨b,hbm,ha'⟩:=s9 hbk g1;obtain ⟨cc,fr,k2,k3,k4,k5,k6,k7⟩:=r.obj i _ hi b hbm;obtain ⟨l2,q1,q2⟩:=iZ r g1 _ _ _ hlv;obtain ⟨ns,rfl,rfl⟩:=sA hb;have hna:bL.iV (ns.map (Value.int .u8))=true:=by
          clear hlv q1 q2 hb;induction ns with
          |nil=>rfl
          |cons n ns ih=>simp only [List.map_cons,bL.iV,bL,ih]
         obtain rfl:=ux hna q1;have hlen:=lD _ _ _ hlv;simp only [List.length_map] at hlen;have hn0:n≠0:=fun e=>by subst e; cases hn
         have hrun:=OP (P:=P) (w:=w) t it ty el hu (br c2) a' (by rw [ha']) cc.size (by rw [ha']; simp [World.shape?,k3]) ns (by omega)
          (by rw [ha',hlen]; have:=cx c3; show b.sh+a.off+n≤_; omega) (by rw [hlen]; exact cx c4) (fun j v hj=>by
           have:=q2 j (.int .u8 v) (by simp [hj]);simpa using this)
         rw [hlen] at hrun;refine .aT (v':= .string ⟨⟨ns.map (fun n=>UInt8.ofNat n.toNat)⟩⟩) hrun (Step.set hbm _) (by simp [aF]) ?_;exact r.freeze hi trivial hbm k2 a' (by rw [ha']) n
        ·cases e
       ·cases e
      ·cases e
     ·cases e
    ·cases e
 ·cases e
theorem Mn (r:Rel P G m F K h w) (rt:bU m nt tm a.tmps) {o:Oper} {b:Builtin} {args:Array Operand} {ts:Array TypeId} (ho:o.op= .call {callee:= .builtin b,args:=args,argTypes:=ts}) (hq:lC P o.op=true)
  (e:dr P G o.op tm h=some (v,h')):h'=h∧wD P m v w ((execOp a.eval o).run P w):=by
 rw [ho] at hq;rw [ho] at e;have hex:execOp a.eval o=builtin b ts o.type (args.map fun| .const _=>true|_=>false) (args.map a.eval):=by
  unfold execOp;rw [ho];rfl
 rw [hex];simp only [dr] at e;split at e
 ·rename_i l hl
  have hl':=bR rt hl;rw [← Array.toList_map] at hl';have two: ∀ {d x:Value},l=[d,x]→ ∃ s' x',aF m d=some s'∧aF m x=some x'∧args.map a.eval= #[s',x']:=by
   intro d x hd;subst hd;obtain ⟨s',y,h1,h2,h3⟩:=cz hl';obtain ⟨x',y2,h4,h5,h6⟩:=cz h2;obtain rfl:y2=[]:=by simpa [aO] using h5.symm
   subst h6;exact ⟨s',x',h1,h4,by apply Array.ext'; rw [h3]⟩
  have plain:bL (.tuple ⟨l⟩)=true→args.map a.eval=⟨l⟩:=by
   intro hn;simp only [bL] at hn;have C5:=ux hn hl';apply Array.ext'; rw [C5]
  unfold FB at e;cases b<;>simp only [lC] at hq<;>try (exact absurd hq (by decide))
  ·dsimp only at e
   split at e
   ·rename_i u
    obtain ⟨x,y,h1,h2,h3⟩:=cz hl';obtain rfl:y=[]:=by simpa [aO] using h2.symm
    have hargs:args.map a.eval= #[x]:=by apply Array.ext'; rw [h3]
    rw [hargs];split at e
    ·rename_i t tl hts
     split at e
     ·rename_i d hd
      split at e
      ·rename_i u2 hu
       cases e;exact ⟨rfl,Mg r hts hd h1 hu⟩
      ·cases e
     ·cases e
    ·cases e
   ·cases e
  ·dsimp only at e
   split at e
   ·rename_i hn
    split at e
    ·rename_i u hu
     cases e;obtain ⟨g1,g2⟩:=c_ hu;rw [plain hn];have hr:=cP _ g1 w;exact ⟨rfl,wD.aT (v':=v) (s:=Builtin.max_ ts o.type ⟨l⟩) hr (bP m v g2)⟩
    ·cases e
   ·cases e
  ·dsimp only at e
   split at e
   ·rename_i hn
    split at e
    ·rename_i u hu
     cases e;obtain ⟨g1,g2⟩:=c_ hu;rw [plain hn];have hr:=cP _ g1 w;exact ⟨rfl,wD.aT (v':=v) (s:=Builtin.min_ ts o.type ⟨l⟩) hr (bP m v g2)⟩
    ·cases e
   ·cases e
 ·cases e
theorem OQ (r:Rel P G m F K h w) (rt:bU m nt tm a.tmps) {o:Oper} {b:Builtin} {args:Array Operand} {ts:Array TypeId} (ho:o.op= .call {callee:= .builtin b,args:=args,argTypes:=ts})
  (e:dr P G o.op tm h=some (v,h')):uv P G m F K h h' v ((execOp a.eval o).run P w):=by
 rw [ho] at e;have hex:execOp a.eval o=builtin b ts o.type (args.map fun| .const _=>true|_=>false) (args.map a.eval):=by
  unfold execOp;rw [ho];rfl
 rw [hex];simp only [dr] at e;split at e
 ·rename_i l hl
  have hl':=bR rt hl;rw [← Array.toList_map] at hl';have two: ∀ {d x:Value},l=[d,x]→ ∃ s' x',aF m d=some s'∧aF m x=some x'∧args.map a.eval= #[s',x']:=by
   intro d x hd;subst hd;obtain ⟨s',y,h1,h2,h3⟩:=cz hl';obtain ⟨x',y2,h4,h5,h6⟩:=cz h2;obtain rfl:y2=[]:=by simpa [aO] using h5.symm
   subst h6;exact ⟨s',x',h1,h4,by apply Array.ext'; rw [h3]⟩
  have plain:bL (.tuple ⟨l⟩)=true→args.map a.eval=⟨l⟩:=by
   intro hn;simp only [bL] at hn;have C5:=ux hn hl';apply Array.ext'; rw [C5]
  unfold FB at e;split at e
  ·split at e
   ·rename_i u
    obtain ⟨x,y,h1,h2,h3⟩:=cz hl';obtain rfl:y=[]:=by simpa [aO] using h2.symm
    have hargs:args.map a.eval= #[x]:=by apply Array.ext'; rw [h3]
    rw [hargs];split at e
    ·rename_i t tl hts
     split at e
     ·rename_i d hd
      split at e
      ·rename_i u2 hu
       cases e;exact (Mg r hts hd h1 hu).ok r
      ·cases e
     ·cases e
    ·cases e
   ·cases e
  ·split at e
   ·rename_i s x
    obtain ⟨s',x',h1,h4,hargs⟩:=two rfl;rw [hargs];split at e
    ·rename_i t u tl hts
     split at e
     ·rename_i hp
      exact Dj r hts hp h1 h4 e
     ·cases e
    ·cases e
   ·cases e
  ·split at e
   ·rename_i hn
    split at e
    ·rename_i u hu
     cases e;obtain ⟨g1,g2⟩:=c_ hu;rw [plain hn];have hr:=cP _ g1 w;exact (wD.aT (v':=v) (s:=Builtin.min_ ts o.type ⟨l⟩) hr (bP m v g2)).ok r
    ·cases e
   ·cases e
  ·split at e
   ·rename_i hn
    split at e
    ·rename_i u hu
     cases e;obtain ⟨g1,g2⟩:=c_ hu;rw [plain hn];have hr:=cP _ g1 w;exact (wD.aT (v':=v) (s:=Builtin.max_ ts o.type ⟨l⟩) hr (bP m v g2)).ok r
    ·cases e
   ·cases e
  ·split at e
   ·rename_i d x
    obtain ⟨s',x',h1,h4,hargs⟩:=two rfl;rw [hargs];split at e
    ·rename_i t tl hts
     split at e
     ·rename_i el ht
      split at e
      ·rename_i size b n c q hn hq
       split at e
       ·rename_i l2 C5
        split at e
        ·cases e
        ·rename_i i hbk
         split at e
         ·rename_i sz ty cs hi
          split at e
          ·rename_i cs' hst
           cases e;exact ZV r hts h1 h4 ht hn hq C5 hbk hi hst
          ·cases e
         ·cases e
       ·cases e
      ·cases e
     ·cases e
    ·cases e
   ·cases e
  ·obtain ⟨rfl,hh⟩:=Mm r hl' ts o.type e
   exact hh.ok r
  ·exact RP r hl' o.type e
  ·cases e
 ·cases e
end
end Go.Sim
namespace Go.Sim
variable {P:Program} {G:Nat→Option (List Value)}
section
variable {m:aa} {F:Nat→Prop} {K:World} {h h':Hp} {w:World} {nt:Nat} {tm:TM} {a:Act} {v:Value}
theorem RQ {m:aa} {xt t:TypeId} {u u' q:Value} (h:ZJ P t u=some q) (hu:aF m u=some u'): ∃ v',aF m q=some v'∧ ∀ w:World,(Instr.typeAssert u' xt t true).run P w= .ok v' w:=by
 have zero:L5 P t=some q→ ∃ v',aF m q=some v'∧ ∀ w:World,((do pure (.tuple #[← zeroValue t, .bool false]):Sem Value)).run P w= .ok v' w:=by
  intro h;unfold L5 at h;split at h
  ·rename_i z hz
   split at h
   ·rename_i hn
    cases h;refine ⟨.tuple #[z, .bool false], ?_,fun w=>by simp [bW hz]⟩;have:=bP m z hn;simp [aF,aO,this]
   ·cases h
  ·cases h
 unfold ZJ at h;split at h
 ·cases h
 ·cases h
 ·rename_i d h0 hd
  split at h
  ·rename_i t' x
   simp only [aF] at hu;split at hu
   ·rename_i x' hx
    cases hu;split at h
    ·rename_i hb
     cases h;obtain rfl:=br hb;refine ⟨.tuple #[x', .bool true],by simp [aF,aO,hx],fun w=> ?_⟩;simp only [Instr.typeAssert,Sem.run_bind,aD hd,Result.andThen_ok];cases d<;>first|rfl|exact (h0 _ hd).elim|simp
    ·rename_i hb
     obtain ⟨v',g1,g2⟩:=zero h;refine ⟨v',g1,fun w=> ?_⟩;have hne: ¬ t'=t:=fun e=>by subst e; simp at hb
     simp only [Instr.typeAssert,Sem.run_bind,aD hd,Result.andThen_ok];have:=g2 w;cases d<;>first|exact (h0 _ hd).elim|(simp only [if_neg hne]; exact this)
   ·cases hu
  ·simp only [aF,Option.some.injEq] at hu
   subst hu;obtain ⟨v',g1,g2⟩:=zero h;refine ⟨v',g1,fun w=> ?_⟩;simp only [Instr.typeAssert,Sem.run_bind,aD hd,Result.andThen_ok];have:=g2 w;cases d<;>first|exact (h0 _ hd).elim|exact this
  ·cases h
theorem G9 (r:Rel P G m F K h w) (rt:bU m nt tm a.tmps) {o:Oper} (hq:lC P o.op=true) (e:dr P G o.op tm h=some (v,h')):h'=h∧wD P m v w ((execOp a.eval o).run P w):=by
 obtain ⟨dst,op,type,pos,after,guard⟩:=o;cases op with
 |move x=>
  simp only [dr] at e;split at e
  ·rename_i u hu; cases e; exact ⟨rfl, .oJ (az rt hu) rfl⟩
  ·cases e
 |assign x=>
  simp only [dr] at e;split at e
  ·rename_i u hu; cases e; exact ⟨rfl, .oJ (az rt hu) rfl⟩
  ·cases e
 |pick c x y=>
  simp only [dr] at e;split at e
  ·rename_i hc
   have hc:=mN (az rt hc);split at e
   ·rename_i u hu; cases e
    exact ⟨rfl, .oJ (az rt hu) (by simp [execOp,hc,asBool])⟩
   ·cases e
  ·rename_i hc
   have hc:=mN (az rt hc);split at e
   ·rename_i u hu; cases e
    exact ⟨rfl, .oJ (az rt hu) (by simp [execOp,hc,asBool])⟩
   ·cases e
  ·cases e
 |build t parts=>
  simp only [dr] at e;split at e
  ·rename_i z fs hz ht
   split at e
   ·rename_i ps hs hp
    split at e
    ·rename_i l hf; cases e; exact ⟨rfl,G0 r rt hz ht hs hp hf⟩
    ·cases e
   ·cases e
  ·rename_i z n el hz ht
   split at e
   ·rename_i size hn
    split at e
    ·rename_i ps hp
     split at e
     ·rename_i l hf; cases e; exact ⟨rfl,JL r rt hz ht hn hp hf⟩
     ·cases e
    ·cases e
   ·cases e
  ·cases e
 |load t x=>
  simp only [dr] at e;split at e
  ·rename_i b hb
   split at e
   ·rename_i u hu; cases e; exact ⟨rfl,Me r (az rt hb) hu⟩
   ·cases e
  ·cases e
 |nilCheck x=>
  simp only [dr] at e;split at e
  ·cases e
  ·cases e
  ·cases e
  ·cases e
  ·rename_i u h1 h2 h3 h4 hu
   cases e;have hr:=az rt hu;refine ⟨rfl, .oJ hr ?_⟩;have g1:a.eval x≠ .pointer none:=by
    intro g; rw [g] at hr;cases v with
    |pointer b=>cases b with
     |none=>exact h1 rfl
     |some b=>obtain ⟨_,_,h⟩:=cq hr; cases h
    |slice b n c=>cases b<;>(simp only [aF] at hr; first|cases hr|(revert hr; split<;>simp))
    |map b=>cases b<;>(simp only [aF] at hr; first|cases hr|(revert hr; repeat' split<;>simp))
    |chan b=>cases b<;>(simp only [aF] at hr; first|cases hr|(revert hr; repeat' split<;>simp))
    |func fn f c=>obtain ⟨f⟩:=f; obtain ⟨c⟩:=c; simp only [aF] at hr; revert hr; repeat' split<;>simp
    |tuple l=>obtain ⟨l⟩:=l; simp only [aF] at hr; revert hr; repeat' split<;>simp
    |agg l=>obtain ⟨l⟩:=l; simp only [aF] at hr; revert hr; repeat' split<;>simp
    |_=>simp only [aF] at hr; first|cases hr|(revert hr; repeat' split<;>simp)
   have g2:a.eval x≠ .nilIface:=by
    intro g; rw [g] at hr;cases v with
    |nilIface=>exact h2 rfl
    |pointer b=>cases b<;>(simp only [aF] at hr; first|cases hr|(revert hr; repeat' split<;>simp))
    |slice b n c=>cases b<;>(simp only [aF] at hr; first|cases hr|(revert hr; split<;>simp))
    |map b=>cases b<;>(simp only [aF] at hr; first|cases hr|(revert hr; repeat' split<;>simp))
    |chan b=>cases b<;>(simp only [aF] at hr; first|cases hr|(revert hr; repeat' split<;>simp))
    |func fn f c=>obtain ⟨f⟩:=f; obtain ⟨c⟩:=c; simp only [aF] at hr; revert hr; repeat' split<;>simp
    |tuple l=>obtain ⟨l⟩:=l; simp only [aF] at hr; revert hr; repeat' split<;>simp
    |agg l=>obtain ⟨l⟩:=l; simp only [aF] at hr; revert hr; repeat' split<;>simp
    |_=>simp only [aF] at hr; first|cases hr|(revert hr; repeat' split<;>simp)
   have g3:a.eval x≠ .nilFunc:=by
    intro g; rw [g] at hr;cases v with
    |nilFunc=>exact h3 rfl
    |pointer b=>cases b<;>(simp only [aF] at hr; first|cases hr|(revert hr; repeat' split<;>simp))
    |slice b n c=>cases b<;>(simp only [aF] at hr; first|cases hr|(revert hr; split<;>simp))
    |map b=>cases b<;>(simp only [aF] at hr; first|cases hr|(revert hr; repeat' split<;>simp))
    |chan b=>cases b<;>(simp only [aF] at hr; first|cases hr|(revert hr; repeat' split<;>simp))
    |func fn f c=>obtain ⟨f⟩:=f; obtain ⟨c⟩:=c; simp only [aF] at hr; revert hr; repeat' split<;>simp
    |tuple l=>obtain ⟨l⟩:=l; simp only [aF] at hr; revert hr; repeat' split<;>simp
    |agg l=>obtain ⟨l⟩:=l; simp only [aF] at hr; revert hr; repeat' split<;>simp
    |_=>simp only [aF] at hr; first|cases hr|(revert hr; repeat' split<;>simp)
   have g4: ∀ n f c,a.eval x≠ .func (.method n) f c:=by
    intro n f c g; rw [g] at hr;cases v with
    |func fn f2 c2=>
     obtain ⟨f2⟩:=f2; obtain ⟨c2⟩:=c2;simp only [aF] at hr
     revert hr
     repeat' split
     ·rename_i fn' f' c' k1 k2 k3
      intro hr;cases hr;cases fn with
      |method n2=>exact h4 _ _ _ rfl
      |yield r2=>
       simp only [A5] at k1
       revert k1
       repeat' split<;>simp
      |_=>simp [A5] at k1
     ·simp
    |nilFunc=>simp [aF] at hr
    |pointer b=>cases b<;>(simp only [aF] at hr; first|cases hr|(revert hr; repeat' split<;>simp))
    |slice b n c=>cases b<;>(simp only [aF] at hr; first|cases hr|(revert hr; split<;>simp))
    |map b=>cases b<;>(simp only [aF] at hr; first|cases hr|(revert hr; repeat' split<;>simp))
    |chan b=>cases b<;>(simp only [aF] at hr; first|cases hr|(revert hr; repeat' split<;>simp))
    |tuple l=>obtain ⟨l⟩:=l; simp only [aF] at hr; revert hr; repeat' split<;>simp
    |agg l=>obtain ⟨l⟩:=l; simp only [aF] at hr; revert hr; repeat' split<;>simp
    |_=>simp only [aF] at hr; first|cases hr|(revert hr; repeat' split<;>simp)
   simp only [execOp];rfl
  ·cases e
 |binOp op t x y yt=>
  simp only [dr] at e;split at e
  ·rename_i u u2 h1 h2
   split at e
   ·rename_i z hz; cases e; exact ⟨rfl,Mj r (az rt h1) (az rt h2) hz⟩
   ·cases e
  ·cases e
 |unOp op t x=>
  simp only [dr] at e;split at e
  ·rename_i u hu
   split at e
   ·rename_i hn
    split at e
    ·rename_i z hz
     cases e;obtain ⟨g1,g2⟩:=c_ hz;have:=qL hn (az rt hu);refine ⟨rfl, .aT (v':=v) (s:=Op.unary op (a.eval x)) ?_ (bP m v g2)⟩;rw [this]; exact cP _ g1 w
    ·cases e
   ·cases e
  ·cases e
 |makeInterface t x=>
  simp only [dr] at e;split at e
  ·cases e
  ·rename_i u d h0 h1 h2
   cases e;refine ⟨rfl, .aT (v':= .iface t (a.eval x)) (s:=Instr.makeInterface t (a.eval x)) ?_ (by simp only [aF,az rt h1])⟩;simp only [Instr.makeInterface,Sem.run_bind,aD h2,Result.andThen_ok];cases d<;>first|rfl|exact (h0 _ _ h1 h2).elim
  ·cases e
 |typeAssert x xt t ok=>
  simp only [dr] at e;split at e
  ·split at e
   ·rename_i u hu
    split at e
    ·rename_i q hq
     cases e;obtain ⟨v',g1,g2⟩:=RQ (xt:=xt) hq (az rt hu);exact ⟨rfl, .aT (v':=v') (s:=Instr.typeAssert (a.eval x) xt t true) (g2 w) g1⟩
    ·cases e
   ·cases e
  ·cases e
 |makeFunc fn f c=>
  simp only [dr] at e;split at e
  ·rename_i fn
   split at e
   ·rename_i f' c' h1 h2
    cases e;have g1:=bR rt h1;have g2:=bR rt h2;refine ⟨rfl, .aT (v':= .func (.func fn) ⟨f.toList.map a.eval⟩ ⟨c.toList.map a.eval⟩) (s:=Instr.makeFunc (.func fn) (f.map a.eval) (c.map a.eval)) ?_ (by simp only [aF,A5,g1,g2])⟩;simp only [Instr.makeFunc,Sem.run_pure]
    congr 2<;>(apply Array.ext'; simp)
   ·cases e
  ·cases e
 |slice t x lo hi mx=>
  simp only [dr] at e;split at e
  ·rename_i u lo' hi' Oa h1 h2 h3 h4
   split at e
   ·rename_i z hz; cases e; exact ⟨rfl,JM r (az rt h1) (i4 rt h2) (i4 rt h3) (i4 rt h4) hz⟩
   ·cases e
  ·cases e
 |fieldAddr s x f=>
  simp only [dr] at e;split at e
  ·rename_i b fs h1 h2
   split at e
   ·rename_i fd h3
    split at e
    ·cases e
    ·rename_i n hn h4
     cases e;cases n with
     |zero=>exact (hn rfl).elim
     |succ n=>exact ⟨rfl,uw r (az rt h1) h2 h3 h4⟩
    ·cases e
   ·cases e
  ·cases e
 |field t x f=>
  simp only [dr] at e;split at e
  ·rename_i cs fs h1 h2
   split at e
   ·rename_i fd h3
    split at e
    ·rename_i z hz; cases e; exact ⟨rfl,G3 r (az rt h1) h2 h3 hz⟩
    ·cases e
   ·cases e
  ·cases e
 |indexAddr t x i=>
  simp only [dr] at e;split at e
  ·rename_i b n c iv el h1 h2 h3
   split at e
   ·rename_i i2 size h4 h5
    split at e
    ·rename_i h6; cases e; exact ⟨rfl,JI r (az rt h1) (az rt h2) h4 h3 h5 (cY h6)⟩
    ·cases e
   ·cases e
  ·rename_i b iv n el h1 h2 h3
   split at e
   ·rename_i i2 size h4 h5
    split at e
    ·rename_i h6; cases e; exact ⟨rfl,JJ r (az rt h1) (az rt h2) h4 h3 h5 (cY h6)⟩
    ·cases e
   ·cases e
  ·cases e
 |index t x i=>
  simp only [dr] at e;split at e
  ·rename_i s iv h1 h2 h3
   split at e
   ·rename_i i2 h4
    split at e
    ·rename_i b h5; cases e; exact ⟨rfl,G4 r (az rt h1) (az rt h2) h4 h3 h5⟩
    ·cases e
   ·cases e
  ·rename_i cs iv n el h1 h2 h3
   split at e
   ·rename_i i2 size h4 h5
    split at e
    ·rename_i h6
     split at e
     ·rename_i z hz; cases e; exact ⟨rfl,OJ r (az rt h1) (az rt h2) h4 h3 h5 (cY h6) hz⟩
     ·cases e
    ·cases e
   ·cases e
  ·cases e
 |lookup t x i ok=>
  simp only [dr] at e;split at e
  ·rename_i rr k kt el h1 h2 h3
   split at e
   ·cases e
   ·rename_i sX hk
    split at e
    ·rename_i hn
     split at e
     ·rename_i u hg
      cases e;exact ⟨rfl,RO r (az rt h1) (az rt h2) hn sX hg⟩
     ·cases e
    ·cases e
   ·cases e
   ·rename_i es sX hk
    cases Ob:P.underlying kt with
    |none=>rw [Ob] at hk; simp [kindOk] at hk
    |some d=>
     rw [Ob] at hk;split at e
     ·cases e
     ·rename_i u hf
      cases ok
      ·cases e; exact ⟨rfl,pR r (az rt h1) (az rt h2) h3 Ob sX hk hf (z:= .nilIface) (fun hh=>by cases hh) rfl⟩
      ·cases e; exact ⟨rfl,pR r (az rt h1) (az rt h2) h3 Ob sX hk hf (z:= .nilIface) (fun hh=>by cases hh) rfl⟩
     ·rename_i hf
      split at e
      ·cases e
      ·rename_i z hz
       split at e
       ·rename_i hn; cases e
        exact ⟨rfl,pR r (az rt h1) (az rt h2) h3 Ob sX hk hf (z:=z) (fun _=>⟨hz,hn⟩) rfl⟩
       ·rename_i hn; cases e
        exact ⟨rfl,pR r (az rt h1) (az rt h2) h3 Ob sX hk hf (z:=v) (fun _=>⟨hz,hn⟩) rfl⟩
       ·cases e
  ·cases e
 |extract x i=>
  simp only [dr] at e;split at e
  ·rename_i l h1
   split at e
   ·rename_i z hz
    cases e;obtain ⟨l',g1,g2⟩:=Et (az rt h1);obtain ⟨z',g3,g4⟩:=jW g1 _ _ hz;refine ⟨rfl, .aT (v':=z') (s:=Instr.extract (a.eval x) i) ?_ g3⟩;rw [g2];have:(⟨l'⟩:Array Value)[i]? =some z':=by simpa using g4
    simp [Instr.extract,this]
   ·cases e
  ·cases e
 |convert s d x=>
  simp only [dr] at e;split at e
  ·rename_i u hu
   refine OO r (az rt hu) e ?_;intro el hd;simp only [lC,hd] at hq;cases hq
  ·cases e
 |call c=>
  obtain ⟨callee,args,argTypes⟩:=c;cases callee with
  |builtin b=>exact Mn r rt (o:=⟨dst, .call ⟨.builtin b,args,argTypes⟩,type,pos,after,guard⟩) rfl hq e
  |value f=>simp [dr] at e
  |invoke x n=>simp [dr] at e
 |_=>simp [lC] at hq
theorem G_ (rt:bU m nt tm a.tmps) {o:Oper} (hq:su o.op=true) (e:dr P G o.op tm h=some (v,h')) (F:Nat→Prop) (w:World):ZT P m F h h' v w ((execOp a.eval o).run P w):=by
 obtain ⟨dst,op,type,pos,after,guard⟩:=o;cases op with
 |alloc t=>
  simp only [dr] at e;split at e
  ·rename_i l hz; exact GS hz (Option.some.inj e)
  ·cases e
 |box t x=>
  simp only [dr] at e;split at e
  ·rename_i u hu; exact RL (az rt hu) (Option.some.inj e)
  ·cases e
 |buildSlice t len parts=>
  simp only [dr] at e;split at e
  ·rename_i el ht
   split at e
   ·rename_i size z hn hz
    split at e
    ·rename_i ps hp hzl hlen
     split at e
     ·rename_i l hf
      split at e
      ·rename_i b h2 hc; cases e; exact sy rt ht hn hz (br hzl) (cx hlen) hp hf hc
      ·cases e
     ·cases e
    ·cases e
   ·cases e
  ·cases e
 |makeMap t q=>
  cases q with
  |none=>
   simp only [dr] at e;cases e;exact p_ (s:=Instr.makeMap t none) (by simp [Instr.makeMap])
  |some x=>
   simp only [dr] at e;split at e
   ·rename_i k n _ _ h1 h2
    cases e;refine p_ (s:=Instr.makeMap t (some (a.eval x))) ?_;have:=gC (az rt h1);simp [Instr.makeMap,aD h2,this,asInt,asIntOf]
   ·cases e
 |makeSlice t l c=>
  simp only [dr] at e;split at e
  ·rename_i el ht
   split at e
   ·rename_i lv cv z size bytes h1 h2 hz hn hby
    split at e
    ·rename_i l2 c2 h3 h4
     split at e
     ·rename_i g1 g2 g3
      split at e
      ·rename_i b h5 hc; cases e; exact uA ht hn hby hz (br g3) h3 h4 (az rt h1) (az rt h2) (cx g1) (cx g2) hc
      ·cases e
     ·cases e
    ·cases e
   ·cases e
  ·cases e
 |_=>simp [su] at hq
theorem US (r:Rel P G m F K h w) (rt:bU m nt tm a.tmps) {o:Oper} (e:dr P G o.op tm h=some (v,h')):uv P G m F K h h' v ((execOp a.eval o).run P w):=by
 by_cases hq:lC P o.op=true
 ·obtain ⟨rfl,hh⟩:=G9 r rt hq e
  exact hh.ok r
 by_cases hmk:su o.op=true
 ·exact (G_ rt hmk e F w).ok r
 obtain ⟨dst,op,type,pos,after,guard⟩:=o;cases op with
 |store t x y=>
  simp only [dr] at e;split at e
  ·rename_i b u hb hu
   split at e
   ·rename_i h2 hs; cases e; exact GU r (az rt hb) (az rt hu) hs
   ·cases e
  ·cases e
 |mapUpdate t x k y=>
  simp only [dr] at e;split at e
  ·rename_i rr k2 u h1 h2 h3; exact Ew r (az rt h1) (az rt h2) (az rt h3) e
  ·cases e
 |insert t x k y=>
  simp only [dr] at e;split at e
  ·rename_i rr k2 u h1 h2 h3; exact Ew r (az rt h1) (az rt h2) (az rt h3) e
  ·cases e
 |convert s d x=>
  simp only [dr] at e;split at e
  ·rename_i u hu; exact Ml r (az rt hu) e
  ·cases e
 |call c=>
  obtain ⟨callee,args,argTypes⟩:=c;cases callee with
  |builtin b=>exact OQ r rt (o:=⟨dst, .call ⟨.builtin b,args,argTypes⟩,type,pos,after,guard⟩) rfl e
  |value f=>simp [dr] at e
  |invoke x n=>simp [dr] at e
 |_=>first|exact absurd rfl hq|exact absurd rfl hmk|(simp [dr] at e; done)
end
end Go.Sim
namespace Go.Sim
variable {P:Program} {G:Nat→Option (List Value)}
def FR (ρ:Option Nat):Fence:={Fence.wide with round:=ρ}
theorem ZY (ρ:Option Nat) (n:Nat):(FR ρ).room n:=room_wide n
theorem bN {ρ:Option Nat} {n:Nat} {f:FuncId} {args:Array Value} {w:World} {R:Ending→World→Prop}:CallsIn (FR ρ) n P f args w R↔Calls P f args w R:=
 callsIn_wide (n:=n)
def mk (D:Nat):Deferred:={target:= .collected D,args:= #[]}
def OR (m:aa) (h:Hp) (D:Nat):Prop:= ∀ j o b,h.bs.get j=some o→o.live→m j=some b→b.af≠D
structure Marks (ds:List Nat) (K:World) (m:aa) (h:Hp) (w:World):Prop where
 nodup:ds.Nodup
 JN: ∀ D,D∈ds→K.heap.size≤D∧w.heap[D]? =some (.deferred (some []))
 apart: ∀ D,D∈ds→OR m h D
theorem Marks.nil (K:World) (m:aa) (h:Hp) (w:World):Marks [] K m h w:=⟨List.nodup_nil,fun D hD=>by simp at hD,fun D hD=>by simp at hD⟩
section
variable {m m2:aa} {F:Nat→Prop} {K:World} {h h2:Hp} {w w2:World}
theorem He {F':Nat→Prop} {i:Nat} {o:dA} (hf: ∀ b,m i=some b→o.live→ ¬ F b.af→ ¬ F' b.af) (ho:gZ P m F i w o):gZ P m F' i w o:=by
 cases o with
 |dead=>trivial
 |cells size ty cs=>intro b hb; obtain ⟨cc,fr,h2,h3⟩:=ho b hb; exact ⟨cc,fr,hf b hb trivial h2,h3⟩
 |map es=>intro b hb; obtain ⟨ms,cl,h2,h3⟩:=ho b hb; exact ⟨ms,cl,hf b hb trivial h2,h3⟩
 |loop=>intro b hb; obtain ⟨rc,h2,h3⟩:=ho b hb; exact ⟨rc,hf b hb trivial h2,h3⟩
theorem Rel.OS (r:Rel P G m F K h w) {ds:List Nat} (hd: ∀ D,D∈ds→D<w.heap.size) (ha: ∀ D,D∈ds→OR m h D):Rel P G m (fun b=>F b∨b∈ds) w h w where
 len:=r.len
 os:=rfl
 tape:=rfl
 output:=rfl
 size:=Nat.le_refl _
 fr:=fun b hb=>by
  rcases hb with hb|hb
  ·exact ⟨Nat.lt_of_lt_of_le (r.fr b hb).1 r.size,rfl⟩
  ·exact ⟨hd b hb,rfl⟩
 oC:=fun g l hg=>by
  obtain ⟨h1,h2⟩:=r.oC g l hg;refine ⟨.inl h1,fun k v hk=>⟨(h2 k v hk).1, ?_⟩⟩;rw [World.Oz (r.fr g h1).2];exact (h2 k v hk).2
 obj:=fun i o hi=>He (fun b hb hl hF hx=>by
  rcases hx with hx|hx
  ·exact hF hx
  ·exact ha b.af hx i o b hi hl hb rfl) (r.obj i o hi)
 inj:=r.inj
theorem Rel.TB (r:Rel P G m F K h w) {ds:List Nat} (r2:Rel P G m2 (fun b=>F b∨b∈ds) w h2 w2):Rel P G m2 F K h2 w2 where
 len:=r2.len
 os:=r2.os.trans r.os
 tape:=r2.tape.trans r.tape
 output:=r2.output.trans r.output
 size:=Nat.le_trans r.size r2.size
 fr:=fun b hb=>⟨(r.fr b hb).1,(r2.fr b (.inl hb)).2.trans (r.fr b hb).2⟩
 oC:=r.oC
 obj:=fun i o hi=>He (fun b hb hl hF hx=>hF (.inl hx)) (r2.obj i o hi)
 inj:=r2.inj
theorem Rel.OT (r2:Rel P G m2 F K h2 w2) {D:Nat} (hD:F D):OR m2 h2 D:=fun j o b hj hl hb e=>
 (ur (r2.obj j o hj) hl hb).1 (e ▸ hD)
theorem Rel.abW (r:Rel P G m F K h w) (b:Go.RowKit.Below w.heap.size w w2):Rel P G m F K h w2 where
 len:=r.len
 os:=b.os.trans r.os
 tape:=b.tape.trans r.tape
 output:=b.output.trans r.output
 size:=Nat.le_trans r.size b.size
 fr:=fun k hk=>by
  obtain ⟨h1,h2⟩:=r.fr k hk;exact ⟨h1,by rw [b.block k (Nat.lt_of_lt_of_le h1 r.size)]; exact h2⟩
 oC:=r.oC
 obj:=fun i o hi=>jX (r.obj i o hi) fun hl bi hb=>b.block _ (ur (r.obj i o hi) hl hb).2
 inj:=r.inj
theorem Marks.join {ds ds2:List Nat} (r:Rel P G m F K h w) (k:Marks ds K m h w) (r2:Rel P G m2 (fun b=>F b∨b∈ds) w h2 w2) (k2:Marks ds2 w m2 h2 w2):Marks (ds2++ds) K m2 h2 w2 where
 nodup:=by
  rw [List.nodup_append];refine ⟨k2.nodup,k.nodup, ?_⟩;intro a ha b hb e;subst e;have h1:=(k2.JN a ha).1;have h3:=getElem?_lt' (k.JN a hb).2;omega
 JN:=fun D hD=>by
  rcases List.mem_append.1 hD with hD|hD
  ·exact ⟨Nat.le_trans r.size (k2.JN D hD).1,(k2.JN D hD).2⟩
  ·exact ⟨(k.JN D hD).1,(r2.fr D (.inr hD)).2.trans (k.JN D hD).2⟩
 apart:=fun D hD=>by
  rcases List.mem_append.1 hD with hD|hD
  ·exact k2.apart D hD
  ·exact r2.OT (.inr hD)
theorem Marks.OS (r:Rel P G m F K h w) {ds:List Nat} (k:Marks ds K m h w):Rel P G m (fun b=>F b∨b∈ds) w h w:=
 r.OS (fun D hD=>getElem?_lt' (k.JN D hD).2) k.apart
theorem Rel.RR (r:Rel P G m F K h w) {i:Nat} {o o':dA} {b:BI} (hi:h.bs.get i=some o) (hl:o.live) (hb:m i=some b) (co:Obj)
  (ho:gZ P m F i (w.putObj b.af co) o'):Rel P G m F K {h with bs:=h.bs.set i o'} (w.putObj b.af co):=by
 have h2:=(ur (r.obj i o hi) hl hb).1;refine ⟨r.len,r.os,r.tape,r.output,by rw [World.putObj_size]; exact r.size, ?_,r.oC, ?_, ?_⟩
 ·intro q hq
  refine ⟨(r.fr q hq).1, ?_⟩;rw [World.putObj_heap_other (fun e:q=b.af=>h2 (e ▸ hq))];exact (r.fr q hq).2
 ·intro j o2 hj
  rw [Tr.bn] at hj;by_cases e:i=j
  ·rw [if_pos e] at hj; cases hj; subst e
   exact ho
  ·rw [if_neg e] at hj
   refine jX (r.obj j o2 hj) fun C5 b2 A7=>World.putObj_heap_other fun eb=> ?_
   exact e (r.inj i j o o2 b b2 hi hj hl C5 hb A7 eb.symm)
 ·intro j1 j2 o1 o2 b1 b2 pP hj2 l1 l2
  rw [Tr.bn] at pP hj2;have key: ∀ j q,(if i=j then some o' else h.bs.get j)=some q→q.live→ ∃ q',h.bs.get j=some q'∧q'.live:=by
   intro j q hq hlq;by_cases e:i=j
   ·subst e; exact ⟨_,hi,hl⟩
   ·rw [if_neg e] at hq; exact ⟨q,hq,hlq⟩
  obtain ⟨o1',h1',l1'⟩:=key _ _ pP l1;obtain ⟨o2',h2',l2'⟩:=key _ _ hj2 l2;exact r.inj j1 j2 o1' o2' b1 b2 h1' h2' l1' l2'
theorem Rel.W9 (r:Rel P G m F K h w) {D:Nat} (hF: ¬ F D) (ha:OR m h D) (co:Obj):Rel P G m F K h (w.putObj D co) where
 len:=r.len
 os:=r.os
 tape:=r.tape
 output:=r.output
 size:=by rw [World.putObj_size]; exact r.size
 fr:=fun q hq=>⟨(r.fr q hq).1,by rw [World.putObj_heap_other (fun e:q=D=>hF (e ▸ hq))]; exact (r.fr q hq).2⟩
 oC:=r.oC
 obj:=fun j o hj=>jX (r.obj j o hj) fun hl b hb=>World.putObj_heap_other (ha j o b hj hl hb)
 inj:=r.inj
theorem Bc {fn:Func} {tmps:Array Value} {R:Ending→World→Prop}: ∀ (ds:List Nat) (w:World),Marks ds K m h w→Rel P G m F K h w→
  (∀ w',Rel P G m F K h w'→ ∃ v,(results fn tmps).run P w'= .ok v w'∧R (.returned v) w')→LeavesInM (FR none) 0 P fn tmps R (ds.map mk) .returning w
 |[],w,_,r,hq=>by
  obtain ⟨v,h1,h2⟩:=hq w r;exact ⟨v,h1,h2⟩
 |D::ds,w,k,r,hq=>by
  have hk:=k.JN D (by simp);have hnd:=k.nodup;rw [List.nodup_cons] at hnd;refine ⟨by simp, .inl ⟨D,w.putObj D (.deferred none),rfl,run_takeDeferred hk.2, ?_⟩⟩;refine Bc ds _ ⟨hnd.2,fun E hE=> ?_,fun E hE=>k.apart E (by simp [hE])⟩ (r.W9 (fun hF=> ?_) (k.apart D (by simp)) _) hq
  ·have:=k.JN E (by simp [hE])
   refine ⟨this.1, ?_⟩;rw [World.putObj_heap_other (fun e:E=D=>hnd.1 (e ▸ hE))];exact this.2
  ·have:=(r.fr D hF).1
   omega
end
end Go.Sim
namespace Go.Sim
variable {P:Program} {G:Nat→Option (List Value)}
def Ey:Ex→Exit
 | .normal=> .normal
 | .exit id=> .exit id
 | .goto l=> .goto l
 | .ret=> .ret
def td (P:Program) (G:Nat→Option (List Value)) (m:aa) (F:Nat→Prop) (K:World) (h h':Hp) (v:Value) (e:Ending) (w':World):Prop:=
 ∃ m' v',Step m m' h h'∧aF m' v=some v'∧Rel P G m' F K h' w'∧e= .returned v'
structure bZ (P:Program) (G:Nat→Option (List Value)) (call:Call):Prop where
 fn: ∀ f args h v h',call (.fn f) args h=some (v,h')→ ∀ m F K w args',Rel P G m F K h w→aO m args=some args'→Calls P f ⟨args'⟩ w (td P G m F K h h' v)
 vM: ∀ r args h v h',call (.vM r) args h=some (v,h')→ ∀ ρ m F K w args' i b,Rel P G m F K h w→aO m args=some args'→bk r= .new i→m i=some b→YieldAt (FR ρ) 0 P b.af ⟨args'⟩ w (td P G m F K h h' v)
def zg (P:Program) (E:FuncId→List Value→Option Value):Prop:=
 ∀ f args v,E f args=some v→ ∀ m args' (w:World),aO m args=some args'→ ∃ v',aF m v=some v'∧(callFunc f ⟨args'⟩).run P w= .ok (.value v') w
def aX (P:Program):Prop:= ∀ (f:FuncId) (fn:Func),P.funcs[f]? =some fn→(fn.name== "runtime.NumGoroutine")=false
section
variable {m:aa} {F:Nat→Prop} {K:World} {h h':Hp} {w:World} {nt:Nat} {tm:TM} {a:Act} {v:Value} {E:FuncId→List Value→Option Value} {call:Call}
theorem Mo {f f':Value} {args args' l:List Value} {g:FuncId} (ht:target f args=some (.fn g,l)) (hf:aF m f=some f') (ha:aO m args=some args') (w:World):
  ∃ l',aO m l=some l'∧ ∃ first captured,f'= .func (.func g) first captured∧(⟨l'⟩:Array Value)=(first++⟨args'⟩)++captured:=by
 unfold target at ht;split at ht
 ·rename_i g2 first captured
  cases ht;simp only [aF,A5] at hf;split at hf
  ·rename_i fn1 f1 c1 h0 h1 h2
   cases h0;cases hf;exact ⟨f1++args'++c1,oT (oT h1 ha) h2,_,_,rfl,by apply Array.ext'; simp⟩
  ·cases hf
 ·cases ht
 ·cases ht
theorem Mq {f f':Value} {args l:List Value} {q:Nat} (ht:target f args=some (.vM q,l)) (hf:aF m f=some f'):l=args∧ ∃ i b,bk q= .new i∧m i=some b∧f'= .func (.yield b.af) #[] #[]:=by
 unfold target at ht;split at ht
 ·cases ht
 ·cases ht
  simp only [aF,A5,aO] at hf;cases hb:bk q with
  |old g=>rw [hb] at hf; cases hf
  |new i=>
   rw [hb] at hf;dsimp only at hf;cases hm:m i with
   |none=>rw [hm] at hf; cases hf
   |some b=>rw [hm] at hf; cases hf; exact ⟨rfl,i,b,rfl,hm,rfl⟩
 ·cases ht
theorem Hf (r:Rel P G m F K h w) {t:TypeId} {x x':Value} {lo hi lo' hi':Option Value} (hx:aF m x=some x') (hlo:s8 m lo lo') (hhi:s8 m hi hi') (e:GC P t x lo hi h=some (v,h')):
  uv P G m F K h h' v ((do pure (.value (← Instr.sliceAt t x' lo' hi' none)):Sem Next).run P w):=by
 unfold GC at e;split at e
 ·rename_i a len cap
  split at e
  ·rename_i sp elem hs ht
   split at e
   ·rename_i size q l hn e2 e1
    split at e
    ·rename_i h1 h2
     cases e;have q1:=br h1;have q2:=br h2;rw [q1] at e1;rw [q2] at e2;clear q1 q2 h1 h2;obtain ⟨a',g1,rfl⟩:=cS hx;have hb:=gh (P:=P) (isSlice:=true) (cap':=cap+yz m a) (z:=cap) (mx:=none) (Oa:=none) (cap:=cap) hlo hhi (.inl ⟨rfl,rfl⟩) e1 e2 rfl (Nat.le_add_right _ _) (Nat.le_refl _) (Nat.le_refl _) (Nat.le_refl _) (by simp) w;have hm0:m h.next=none:=r.len _ (Nat.le_refl _)
     have main: ∀ (b:BI),(Instr.sliceAt t (.slice (some a') len (cap+yz m a)) lo' hi' none).run P w= .ok (.slice (some ⟨b.af,b.sh,none⟩) 0 b.ex) w→
       uv P G m F K h {next:=h.next+1,bs:=h.bs.set h.next .dead} (.slice (some ⟨2*h.next,0,some 0⟩) 0 0) ((do pure (.value (← Instr.sliceAt t (.slice (some a') len (cap+yz m a)) lo' hi' none)):Sem Next).run P w):=by
      intro b hrun;refine ⟨m.up h.next b, .slice (some ⟨b.af,b.sh,none⟩) 0 b.ex,w,Step.new hm0 _ _, ?_,r.ghost b, .inl (aU hrun)⟩
      have hbk:bk (2*h.next)= .new h.next:=by first|exact Mf _|simp [bk]
      simp [aF,iG,yz,hbk,aa.bg]
     have hsp: ∃ af off,a'=⟨af,off,none⟩:=by
      unfold iG at g1;split at g1
      ·rename_i g hg
       rw [hs] at g1; cases g1
      ·split at g1
       ·cases g1; exact ⟨_,_,rfl⟩
       ·cases g1
     obtain ⟨af,off,rfl⟩:=hsp;by_cases hz:cap+yz m a=cap
     ·refine main ⟨af,off,cap+yz m a - cap⟩ ?_
      simp only [Instr.sliceAt,Sem.run_bind,aD ht,Result.andThen_ok,Instr.slice,hb,aW hn,Sem.run_pure];simp [hz]
     ·refine main ⟨af,off+cap*size,cap+yz m a - cap⟩ ?_
      simp only [Instr.sliceAt,Sem.run_bind,aD ht,Result.andThen_ok,Instr.slice,hb,aW hn,Sem.run_pure];have OA:Addr.add ⟨af,off,none⟩ (cap*size)=⟨af,off+cap*size,none⟩:=by
       unfold Addr.add;split
       ·rename_i h0; rw [h0]; rfl
       ·rfl
      simp [hz,OA];omega
    ·cases e
   ·cases e
  ·cases e
 ·cases e
theorem JO (r:Rel P G m F K h w) {t ty:TypeId} {ts:Array TypeId} {tl:List TypeId} (hts:ts.toList=t::tl) {x x':Value} (hx:aF m x=some x') (e:L6 P t x h=some (v,h')):
  uv P G m F K h h' v ((do pure (.value (← Builtin.clear_ ts ty #[x'])):Sem Next).run P w):=by
 have h0:ts[0]? =some t:=by rw [← Array.getElem?_toList,hts]; rfl
 have ht0:aF m (.tuple ⟨[]⟩)=some (.tuple #[]):=by simp [aF,aO]
 unfold L6 at e;split at e
 ·rename_i n c
  split at e
  ·rename_i d hd
   cases e;obtain rfl:_=x':=by simpa [aF] using hx
   exact (wD.aT (v':= .tuple #[]) (by cases d<;>simp [Builtin.clear_,h0,aD hd]) ht0).ok r
  ·cases e
 ·rename_i a n c
  obtain ⟨a',g1,rfl⟩:=cS hx;split at e
  ·rename_i elem hd
   split at e
   ·rename_i hn
    cases e;have hn0:n=0:=br hn;subst hn0;exact (wD.aT (v':= .tuple #[]) (by simp [Builtin.clear_,h0,aD hd]) ht0).ok r
   ·rename_i hn
    split at e
    ·rename_i z i hz hbk
     split at e
     ·rename_i sz WD cs hi
      split at e
      ·rename_i cs' hst
       cases e;obtain ⟨u,k1,k2,k3⟩:=sx hz;obtain ⟨b2,hb,ha'⟩:=s9 hbk g1;have agD:bL.iV z=true:=by
        obtain ⟨z2,q1,q2,rfl⟩:=h_ hz;cases z2 with
        |agg l=>cases l; simpa [bL,bC] using q2
        |_=>simp only [bC,bL.iV]; rw [q2]
       have hrl:aO m (eo n z)=some (eo n z):=eP m _ (oU agD n);obtain ⟨w',r',hrun⟩:=gJ hb _ _ _ _ h w _ a' 0 r hi hst hrl (fun q=>by
        subst ha';unfold Addr.add;by_cases e2:0+q=0
        ·rw [if_pos e2]; congr 1; omega
        ·rw [if_neg e2]; congr 1; simp only; omega)
       have hzl:(Builtin.zeroCells u.cells n).toList=eo n z:=by
        rw [← k3];exact Dl rfl
       have hn1:n≠0:=by rintro rfl; simp at hn
       refine .aT (v':= .tuple #[]) (w':=w') ?_ (Step.set hb _) ht0 r';obtain ⟨n,rfl⟩:=Nat.exists_eq_succ_of_ne_zero hn1;simp [Builtin.clear_,h0,aD hd,bW k1,hzl,hrun]
      ·cases e
     ·cases e
    ·cases e
  ·cases e
 ·cases e
theorem OU (r:Rel P G m F K h w) (rt:bU m nt tm a.tmps) {o:Oper} (e:oI P o.op tm h=some (v,h')):uv P G m F K h h' v ((execOp a.eval o).run P w):=by
 obtain ⟨dst,op,type,pos,after,guard⟩:=o;simp only at e;unfold oI at e;split at e
 ·rename_i args ts
  split at e
  ·rename_i x t tl hl hts
   have hl':=bR rt hl;rw [← Array.toList_map] at hl';obtain ⟨x',y,h1,h2,h3⟩:=cz hl';obtain rfl:y=[]:=by simpa [aO] using h2.symm
   have hargs:args.map a.eval= #[x']:=by apply Array.ext'; rw [h3]
   show uv P G m F K h h' v ((builtin .clear ts type (args.map fun| .const _=>true|_=>false) (args.map a.eval)).run P w)
   rw [hargs];exact JO r hts h1 e
  ·cases e
 ·rename_i t x lo hi
  split at e
  ·rename_i x1 lo1 hi1 h1 h2 h3
   exact Hf r (az rt h1) (i4 rt h2) (i4 rt h3) e
  ·cases e
 ·cases e
theorem UT {c:Go.Call}:dr P G (.defer c) tm h=none:=rfl
theorem W_ {t:TypeId} {name:String} {f:FuncId} (h:abN P t name=some f) (v:Value) (n:Nat) (w:World):(method (n+1) t v name).run P w= .ok (f,v) w:=by
 unfold abN at h;split at h
 ·rename_i info hi
  split at h
  ·rename_i m hm
   split at h
   ·rename_i f2 hp hf
    split at h
    ·rename_i fs hu
     cases h;simp only [method,typeInfo,program,hi,hm,hp,hf,follow,receiverAt,Sem.run_bind,Sem.run_pure,aD hu,Place.get,Sem.run,Result.andThen_ok]
    ·cases h
   ·cases h
  ·cases h
 ·cases h
theorem Bd (hN:aX P) (hE:zg P E) (hC:bZ P G call) (r:Rel P G m F K h w) (rt:bU m nt tm a.tmps) {o:Oper} (e:sw P G E call o tm h=some (v,h')) {ρ:Option Nat} {next:Act→World→Prop} {Q:Exit→Act→World→Prop}
  (hn: ∀ m' v' w',Step m m' h h'→aF m' v=some v'→Rel P G m' F K h' w'→next (a.put o.dst v') w'):o.wpIn (FR ρ) 0 P a w next Q:=by
 have hnd: ∀ c,o.op≠ .defer c:=by
  intro c hc;unfold sw at e;rw [hc] at e;simp only [UT,oI] at e;cases e
 have Dn:(o.semAt (FR ρ).round a.eval)=execOp a.eval o:=Oper.semAt_eq _ _ _ hnd;have ad7:uv P G m F K h h' v ((execOp a.eval o).run P w)→o.wpIn (FR ρ) 0 P a w next Q:=by
  intro e;obtain ⟨m',v',w',h1,h2,h3,h4⟩:=e;refine ⟨fun _ _=>trivial, ?_⟩;rw [Dn];rcases h4 with h4|⟨h4,rfl⟩
  ·rw [h4]; exact hn m' v' w' h1 h2 h3
  ·rw [h4]; exact hn m' _ w' h1 h2 h3
 unfold sw at e;split at e
 ·rename_i fo args ats hop
  split at e
  ·rename_i f l hf hl
   split at e
   ·rename_i g l2 ht
    obtain ⟨l',g1,first,captured,g2,g3⟩:=Mo ht (az rt hf) (bR rt hl) w
    have hex:(execOp a.eval o).run P w=(callFunc g ⟨l'⟩).run P w:=by
     unfold execOp;rw [hop];simp only [resolve,g2,Deferred.ofValue,pure_bind,invoke];rw [g3]
     congr 2
     congr 1
     apply Array.ext';simp
    split at e
    ·rename_i fn hfn
     split at e
     ·rename_i c hb
      have hrun:(callFunc g ⟨l'⟩).run P w= .ok (.enter g ⟨l'⟩) w:=by
       have hne: ¬ fn.name= "runtime.NumGoroutine" :=by simpa using hN g fn hfn
       simp [callFunc,hfn,hne,hb]
      refine ⟨fun _ _=>trivial, ?_⟩;rw [Dn,hex,hrun];refine ⟨fun hd=>by simp [FR,Fence.wide] at hd,bN.2 ?_⟩;refine (hC.fn g l2 h v h' e m F K w l' r g1).mono ?_;rintro e2 w' ⟨m',v',k1,k2,k3,rfl⟩;exact hn m' v' w' k1 k2 k3
     ·split at e
      ·rename_i u hu
       cases e;obtain ⟨v',k1,k2⟩:=hE g l2 v hu m l' w g1;refine ⟨fun _ _=>trivial, ?_⟩;rw [Dn,hex,k2];exact hn m v' w (.refl m h) k1 r
      ·cases e
    ·cases e
   ·rename_i q l2 ht
    obtain ⟨rfl,i,b,g1,g2,g3⟩:=Mq ht (az rt hf);obtain ⟨fn,tmps,assign,body,y1,y2⟩:=hC.vM q _ h v h' e ρ m F K w _ i b r (bR rt hl) g1 g2;have hex:(execOp a.eval o).run P w= .ok (.round b.af fn tmps assign body) w:=by
     rw [← y1];unfold execOp;rw [hop];simp only [resolve,g3,Deferred.ofValue,pure_bind,invoke]
     congr 2
     apply Array.ext';simp
    refine ⟨fun _ _=>trivial, ?_⟩;rw [Dn,hex];refine ⟨fun hd=>by simp [FR,Fence.wide] at hd,y2.mono ?_⟩;rintro e2 w' ⟨m',v',k1,k2,k3,rfl⟩;exact hn m' v' w' k1 k2 k3
   ·cases e
  ·cases e
 ·rename_i xo name args ats hop
  split at e
  ·rename_i t u l hf hl
   unfold WK at e;split at e
   ·rename_i g hg
    split at e
    ·rename_i fn hfn
     split at e
     ·rename_i c hb
      have hx:=az rt hf;simp only [aF] at hx;split at hx
      ·rename_i u' UQ
       have hx':a.eval xo= .iface t u':=(Option.some.inj hx).symm;have C5:=bR rt hl;have g1:aO m (u::l)=some (u'::args.toList.map a.eval):=by simp only [aO,UQ,C5]
       have hne: ¬ fn.name= "runtime.NumGoroutine" :=by simpa using hN g fn hfn
       have hex:(execOp a.eval o).run P w= .ok (.enter g ⟨u'::args.toList.map a.eval⟩) w:=by
        unfold execOp;rw [hop];simp only [resolve,hx',pure_bind,invoke];have h0:(#[Value.iface t u']++Array.map a.eval args)[0]? =some (.iface t u'):=by rw [← Array.getElem?_toList,Array.toList_append]; rfl
        have h1:(#[Value.iface t u']++Array.map a.eval args).extract 1 (#[Value.iface t u']++Array.map a.eval args).size=Array.map a.eval args:=by
         apply Array.toList_inj.1;simp [List.extract_eq_take_drop];exact List.take_of_length_le (by simp)
        have h2:((#[u']:Array Value)++Array.map a.eval args)=⟨u'::args.toList.map a.eval⟩:=by apply Array.toList_inj.1; simp
        have h3:(method (P.types.size+Made.depth) t u' name).run P w= .ok (g,u') w:=W_ hg u' _ w;simp only [h0,h1,callMethod,Sem.run_bind];simp only [program,Sem.run,Result.andThen_ok,h3,h2];simp [callFunc,hfn,hne,hb]
       refine ⟨fun _ _=>trivial, ?_⟩;rw [Dn,hex];refine ⟨fun hd=>by simp [FR,Fence.wide] at hd,bN.2 ?_⟩;refine (hC.fn g _ h v h' e m F K w _ r g1).mono ?_;rintro e2 w' ⟨m',v',k1,k2,k3,rfl⟩;exact hn m' v' w' k1 k2 k3
      ·cases hx
     ·cases e
    ·cases e
   ·cases e
  ·cases e
 ·split at e
  ·rename_i x hx
   cases e;exact ad7 (US r rt hx)
  ·exact ad7 (OU r rt e)
theorem bU.put (rt:bU m nt tm a.tmps) {m':aa} (he:Ext m m') {dst:Option Nat} {u u':Value} {dc:TM} (hu:aF m' u=some u') (hp:mC tm dst nt u=some dc):bU m' nt dc (a.put dst u').tmps:=by
 unfold mC at hp;cases dst with
 |none=>cases hp; exact rt.mono he
 |some d=>
  dsimp only at hp;split at hp
  ·rename_i hlt
   cases hp;refine ⟨by simp [Act.put,rt.size],fun t x ht=> ?_⟩;rw [Tr.bn] at ht;have hd:=cY hlt;by_cases e:d=t
   ·rw [if_pos e] at ht; cases ht; subst e
    exact ⟨u',hu,by simp [Act.put,rt.size,hd]⟩
   ·rw [if_neg e] at ht
    obtain ⟨x',h1,h2⟩:=(rt.mono he).get t x ht;exact ⟨x',h1,by simp [Act.put,Array.getElem?_setIfInBounds,e,h2]⟩
  ·cases hp
theorem Act.nW {dst:Option Nat} {u:Value}:(a.put dst u).defers=a.defers:=by cases dst<;>rfl
theorem nv (rt:bU m nt tm a.tmps) {ops:Array Oper} {g:Option (Nat×Bool)} {q:Bool} (hg:c8 ops.toList tm g=some q) {o:Oper} (ho:o.guard=g):Region.wanted o (yielded ops a.tmps)=q:=by
 unfold c8 at hg;unfold Region.wanted;rw [ho];cases g with
 |none=>cases hg; rfl
 |some p=>
  obtain ⟨j,want⟩:=p;dsimp only at hg ⊢;split at hg
  ·rename_i o2 RS
   have Mr:ops[j]? =some o2:=by simpa using RS
   split at hg
   ·rename_i d hd
    split at hg
    ·rename_i b hb
     cases hg;obtain ⟨x,h1,h2⟩:=rt.get d _ hb;obtain rfl:=mN h1;simp [yielded,Mr,hd,h2]
    ·rename_i l hl
     cases hg;obtain ⟨x,h1,h2⟩:=rt.get d _ hl;obtain ⟨l⟩:=l;obtain ⟨l',_,rfl⟩:=Et h1;simp [yielded,Mr,hd,h2]
    ·cases hg
   ·cases hg
  ·cases hg
theorem Be (hN:aX P) (hE:zg P E) (hC:bZ P G call) {ρ:Option Nat} {ops:Array Oper} {Q:Exit→Act→World→Prop}: ∀ (l:List Oper) (i:Nat) (tm dc:TM) (h h':Hp) (m:aa) (a:Act) (w:World),(∀ j,l[j]? =ops[i+j]?)→
  uq P G E call ops.toList nt l tm h=some (dc,h')→Rel P G m F K h w→bU m nt tm a.tmps→
  (∀ m' a' w',Step m m' h h'→Rel P G m' F K h' w'→bU m' nt dc a'.tmps→a'.defers=a.defers→Q .normal a' w')→wpOpsIn (FR ρ) 0 P ops Q (List.range' i l.length) a w:=by
 intro l;induction l with
 |nil=>
  intro i tm dc h h' m a w _ e r rt hq;simp only [RH,Option.some.injEq,Prod.mk.injEq] at e;obtain ⟨rfl,rfl⟩:=e;exact hq m a w (.refl m h) r rt rfl
 |cons o l ih=>
  intro i tm dc h h' m a w hl e r rt hq;have ho:ops[i]? =some o:=by rw [← Nat.add_zero i, ←hl 0]; rfl
  have hl': ∀ j,l[j]? =ops[i+1+j]? :=fun j=>by rw [show i+1+j=i+(j+1) by omega, ←hl (j+1)]; rfl
  simp only [List.length_cons,List.range'_succ,wpOpsIn,ho];simp only [wK,A3] at e;split at e
  ·rename_i hg
   rw [if_pos (nv rt hg rfl)];split at e
   ·rename_i u h2 hs
    split at e
    ·rename_i nu hp
     refine Bd hN hE hC r rt hs fun m' v' w' k1 k2 k3=> ?_
     refine ih (i+1) nu dc h2 h' m' (a.put o.dst v') w' hl' e k3 (rt.put k1.ext k2 hp) ?_;intro m2 a2 w2 g1 g2 g3 g4;exact hq m2 a2 w2 (k1.trans g1) g2 g3 (g4.trans Act.nW)
    ·cases e
   ·cases e
  ·rename_i hg
   rw [if_neg (by rw [nv rt hg rfl]; decide)];split at e
   ·rename_i nu hp
    refine ⟨fun _ _=>trivial, ?_⟩;refine ih (i+1) nu dc h h' m (a.put o.dst undef) w hl' e r (rt.put (.refl m) (by simp [undef,aF,aO]) hp) ?_;intro m2 a2 w2 g1 g2 g3 g4;exact hq m2 a2 w2 g1 g2 g3 (g4.trans Act.nW)
   ·cases e
  ·cases e
def fq (ρ:Option Nat) (P:Program) (c:Code) (Q:Exit→Act→World→Prop) (a:Act) (w:World):Prop:=
 ∀ (b:Frame) (k:List Item) (cs:List Frame),b.roundOf=ρ→ ∃ e a' w',Q e a' w'∧ArrivesIn (Machine.fenced P (FR ρ)) P (lone (b.atR a (.code c:: .inLoop c::k)) cs w) b k cs e a' w'
theorem fq.wp {ρ:Option Nat} {c:Code} {Q:Exit→Act→World→Prop} (hh:fq ρ P c Q a w):(Code.loop c).wpIn (FR ρ) 0 P Q a w:=
 fun b k cs hro hb hr=>let ⟨e,a',w',q,r⟩:=hh b k cs hro; ⟨e,a',w',q, .of_steps (.one (fenced_calm hb hr rfl) stepR_loop) r⟩
theorem fq.round {ρ:Option Nat} {c:Code} {Q:Exit→Act→World→Prop} (hh:c.wpIn (FR ρ) 0 P (Exit.then (fq ρ P c Q) Q) a w):fq ρ P c Q a w:=by
 intro b k cs hro;have hb:(FR ρ).fn b.fn:=trivial;have hr:(FR ρ).room (cs.length+1+0):=ZY _ _;obtain ⟨e,a₁,w₁,hq,UU⟩:=hh b (.inLoop c::k) cs hro hb hr;cases e with
 |normal=>
  obtain ⟨e₂,a₂,w₂,ad8,ZZ⟩:=hq b k cs hro;exact ⟨e₂,a₂,w₂,ad8, .of_steps (StepsIn.trans UU (.one (fenced_calm hb hr rfl) stepR_inLoop)) ZZ⟩
 |exit id=>exact ⟨_,a₁,w₁,hq, .pass (x:= .inLoop c) rfl (fun _ _=> .inl (by simp)) UU⟩
 |goto l=>exact ⟨_,a₁,w₁,hq, .pass (x:= .inLoop c) rfl (fun _ _=> .inl (by simp)) UU⟩
 |ret=>exact ⟨_,a₁,w₁,hq, .pass (x:= .inLoop c) rfl (fun _ _=> .inl (by simp)) UU⟩
 |panic ch=>exact ⟨_,a₁,w₁,hq, .pass (x:= .inLoop c) rfl (fun _ _=> .inl (by simp)) UU⟩
 |outgrown=>exact ⟨_,a₁,w₁,hq, .pass (x:= .inLoop c) rfl (fun _ _=> .inl (by simp)) UU⟩
def Post (P:Program) (G:Nat→Option (List Value)) (ρ:Option Nat) (m:aa) (F:Nat→Prop) (K:World) (h:Hp) (a:Act) (nt:Nat) (dc:TM) (h':Hp) (Q:Act→World→Prop):Prop:=
 ∀ ds m' a' w',Step m m' h h'→Rel P G m' F K h' w'→bU m' nt dc a'.tmps→Marks ds K m' h' w'→a'.defers=ds.map mk++a.defers→(ρ.isSome=true→ds=[])→Q a' w'
theorem Post.here {ρ:Option Nat} {Q:Act→World→Prop} (hq:Post P G ρ m F K h a nt tm h Q) (r:Rel P G m F K h w) (rt:bU m nt tm a.tmps):Q a w:=
 hq [] m a w (.refl m h) r rt (.nil ..) rfl (fun _=>rfl)
theorem Post.plain {ρ:Option Nat} {dc:TM} {Q:Act→World→Prop} (hq:Post P G ρ m F K h a nt dc h' Q) {m':aa} {a':Act} {w':World} (s:Step m m' h h') (r:Rel P G m' F K h' w') (rt:bU m' nt dc a'.tmps) (e:a'.defers=a.defers):Q a' w':=
 hq [] m' a' w' s r rt (.nil ..) (by simpa using e) (fun _=>rfl)
theorem Post.next {ρ:Option Nat} {dc:TM} {Q:Act→World→Prop} {h1:Hp} {m1:aa} {a1:Act} {w1:World} {ds:List Nat} (hq:Post P G ρ m F K h a nt dc h' Q)
  (s:Step m m1 h h1) (r:Rel P G m1 F K h1 w1) (k:Marks ds K m1 h1 w1) (e:a1.defers=ds.map mk++a.defers) (z:ρ.isSome=true→ds=[]):
  Post P G ρ m1 (fun b=>F b∨b∈ds) w1 h1 a1 nt dc h' Q:=by
 intro ds2 m2 a2 w2 s2 r2 rt2 k2 e2 z2;refine hq (ds2++ds) m2 a2 w2 (s.trans s2) (r.TB r2) rt2 (Marks.join r k r2 k2) ?_ (fun x=>by rw [z x,z2 x]; rfl);rw [e2,e,List.map_append,List.append_assoc]
def KJ (P:Program) (G:Nat→Option (List Value)) (bT:Rec):Prop:=
 ∀ c nt tm h e dc h',bT c nt tm h=some (e,dc,h')→ ∀ ρ,(ρ.isSome=true→nU c=true)→ ∀ m F K a w,Rel P G m F K h w→bU m nt tm a.tmps→ ∀ Q:Exit→Act→World→Prop,
  Post P G ρ m F K h a nt dc h' (Q (Ey e))→c.wpIn (FR ρ) 0 P Q a w∧ ∀ b,c= .loop b→fq ρ P b Q a w
def TC (P:Program) (G:Nat→Option (List Value)) (D:KC):Prop:=
 ∀ call,bZ P G call→ ∀ ops nt tm h dc h',D call ops nt tm h=some (dc,h')→ ∀ ρ m F K a w id,Rel P G m F K h w→bU m nt tm a.tmps→ ∀ Q:Exit→Act→World→Prop,
  (∀ m' a' w',Step m m' h h'→Rel P G m' F K h' w'→bU m' nt dc a'.tmps→a'.defers=a.defers→Q .normal a' w')→(Code.region id ops true).wpIn (FR ρ) 0 P Q a w
theorem lF {a b:Bool} (h:(match a with|true=>b|false=>false)=true):a=true∧b=true:=by
 cases a with
 |true=>exact ⟨rfl,h⟩
 |false=>cases h
theorem OW {ps:List Nat} (hp:De nt ps=true): ∀ p,p∈ps→p<nt:=by
 induction ps with
 |nil=>intro p hp; simp at hp
 |cons q l ih=>
  intro p hm;simp only [De] at hp;split at hp
  ·rename_i hq
   rcases List.mem_cons.1 hm with rfl|hm
   ·exact cY hq
   ·exact ih hp p hm
  ·cases hp
theorem Xa {n:Nat} (h:Nat.beq n 1=false):stO n≠ .busy:=by
 match n with
 |0=>simp [stO]
 |1=>simp at h
 |n+2=>simp [stO]
theorem OX (hN:aX P) (hC:bZ P G call) {g:Operand} {ps:Array Tmp} {assign body:Code} {e:Ex} {dc:TM} (hrun:Ou P call g ps.toList assign body nt tm h=some (e,dc,h'))
  (r:Rel P G m F K h w) (rt:bU m nt tm a.tmps) {Q:Exit→Act→World→Prop} (hq:Post P G none m F K h a nt dc h' (Q (Ey e))):(Code.rangeFunc g ps assign body).wpIn (FR none) 0 P Q a w:=by
 unfold Ou at hrun;split at hrun
 ·rename_i gf lb hg
  split at hrun
  ·rename_i fn n1 n2 n3 hfn
   split at hrun
   ·rename_i c hb
    unfold aa2 at hrun;split at hrun
    ·rename_i v h2 ad9
     split at hrun
     ·rename_i nt2 nu ps2 as2 bo2 st2 j2 RS
      split at hrun
      ·cases hrun
      ·rename_i hst
       cases hrun;have hm0:m h.next=none:=r.len _ (Nat.le_refl _)
       have rA0:Rel P G m F K h (w.alloc (.deferred (some []))):=r.abW (Go.RowKit.Below.alloc (.refl _ _) (Nat.le_refl _) _);have apD:OR m h w.heap.size:=fun j o b hj hl hb=>r.fresh (Nat.le_refl _) j o b hj hl hb
       have rA:Rel P G m (fun b=>F b∨b∈[w.heap.size]) (w.alloc (.deferred (some []))) h (w.alloc (.deferred (some []))):=
        rA0.OS (ds:=[w.heap.size]) (fun D hD=>by simp at hD; subst hD; simp) (fun D hD=>by simp at hD; subst hD; exact apD)
       have JP:=az rt hg;simp only [aF,A5] at JP;have agE:aO m []=some []:=by simp [aO]
       rw [agE] at JP;split at JP
       ·rename_i fn' f1 lb' q0 q1 hlb
        cases q0;cases q1;have agF:a.eval g= .func (.func gf) ⟨[]⟩ ⟨lb'⟩:=by injection JP with JP; exact JP.symm
        refine wpIn_rangeFunc fun qG _=> ?_
        have RT:(w.alloc (.deferred (some []))).heap.size=w.heap.size+1:=World.size_alloc _ _;have rB:Rel P G (m.up h.next ⟨w.heap.size+1,0,0⟩) (fun b=>F b∨b∈[w.heap.size]) (w.alloc (.deferred (some []))) {next:=h.next+1,bs:=h.bs.set h.next (.loop nt tm ps.toList assign body 0 none)}
          ((w.alloc (.deferred (some []))).alloc (.loop {state:= .ready,pending:=none,fn:=qG,tmps:=a.tmps,params:=ps,assign:=assign,body:=body,defers:=w.heap.size})):=by
         refine rA.grow ⟨w.heap.size+1,0,0⟩ _ rfl rfl rfl (by simp) (fun k hk=>Go.RowKit.Below.heap_alloc _ _ _ hk) (rA.fresh (by rw [RT]; exact Nat.le_refl _)) ?_;intro b hb;rw [aa.bg] at hb;cases hb;refine ⟨{state:= .ready,pending:=none,fn:=qG,tmps:=a.tmps,params:=ps,assign:=assign,body:=body,defers:=w.heap.size}, ?_, ?_,rt.size, ?_,rfl,rfl,rfl,rfl,rfl⟩
         ·rintro (hF|hF)
          ·have:=(r.fr _ hF).1
           have:=r.size;simp only at*;omega
          ·simp at hF
         ·have:=World.alloc_heap_new (w.alloc (.deferred (some []))) (.loop {state:= .ready,pending:=none,fn:=qG,tmps:=a.tmps,params:=ps,assign:=assign,body:=body,defers:=w.heap.size})
          rw [RT] at this;exact this
         ·intro t u ht
          obtain ⟨u',x1,x2⟩:=rt.get t u ht;exact ⟨u',gH (Ext.one hm0 _) _ _ x1,x2⟩
        have Hg:=run_enterLoop_outer (P:=P) (w:=w) qG a.tmps ps assign body;generalize ((w.alloc (.deferred (some []))).alloc (.loop {state:= .ready,pending:=none,fn:=qG,tmps:=a.tmps,params:=ps,assign:=assign,body:=body,defers:=w.heap.size}))=W1 at rB Hg;refine ⟨w.heap.size+1,[mk w.heap.size],W1,{target:= .fn (.func gf) ⟨lb'⟩,args:= #[.func (.yield (w.heap.size+1)) #[] #[]]},W1,gf,⟨.func (.yield (w.heap.size+1)) #[] #[]::lb'⟩,W1,Hg, ?_,fun _ _=>trivial, ?_,fun hd=>by simp [FR,Fence.wide] at hd, ?_⟩
        ·have hmap:(rangeCall g (w.heap.size+1)).args.map a.eval= #[.func (.yield (w.heap.size+1)) #[] #[]]:=by
          have hc: ∀ v,a.eval (.const v)=v:=fun _=>rfl
          simp [rangeCall,hc]
         show (Deferred.ofValue (a.eval g) ((rangeCall g (w.heap.size+1)).args.map a.eval):Sem _).run P W1=_
         rw [hmap,agF];rfl
        ·have hne: ¬ fn.name= "runtime.NumGoroutine" :=by simpa using hN gf fn hfn
         simp [invoke,callFunc,hfn,hne,hb]
        ·refine bN.2 ?_
         have ha1:aO (m.up h.next ⟨w.heap.size+1,0,0⟩) (.func (.yield (2*h.next)) ⟨[]⟩ ⟨[]⟩::lb)=some (.func (.yield (w.heap.size+1)) #[] #[]::lb'):=by
          simp only [aO,aF,A5,Mf,aa.bg,fm (Ext.one hm0 ⟨w.heap.size+1,0,0⟩) _ _ hlb]
         refine (hC.fn gf _ _ v h2 ad9 _ _ _ _ _ rB ha1).mono ?_;rintro e2 w3 ⟨m',v',s1,k2,r3,rfl⟩;have Z5:m' h.next=some ⟨w.heap.size+1,0,0⟩:=s1.ext _ _ (aa.bg ..)
         obtain ⟨rc,o1,o2,o3,o4,o5,o6,o7,o8,o9⟩:=r3.obj _ _ RS _ Z5;have hend:=run_endLoop (P:=P) o2 (by rw [o8]; exact Xa hst);have r4:Rel P G m' (fun b=>F b∨b∈[w.heap.size]) (w.alloc (.deferred (some []))) {h2 with bs:=h2.bs.set h.next .dead} (w3.putObj (w.heap.size+1) (.loop {rc with state:= .exhausted})):=
          r3.RR RS trivial Z5 _ trivial
         have r5:=rA0.TB r4;have UW:Step m m' h {h2 with bs:=h2.bs.set h.next .dead}:=((Step.new hm0 _ _).trans s1).trans (Step.set Z5 _)
         have mks:Marks [w.heap.size] K m' {h2 with bs:=h2.bs.set h.next .dead} (w3.putObj (w.heap.size+1) (.loop {rc with state:= .exhausted})):=by
          refine ⟨by simp,fun D hD=> ?_,fun D hD=>r4.OT (.inr hD)⟩;have hD':=hD;simp at hD;subst hD;refine ⟨r.size,(r4.fr _ (.inr hD')).2.trans ?_⟩;exact World.alloc_heap_new _ _
         have fin:=hq [w.heap.size] m' {a with defers:=[mk w.heap.size]++a.defers} _ UW r5 (rt.mono UW.ext) mks rfl (fun x=>by cases x);refine ⟨_,_,hend, ?_⟩;have key: ∀ (pd:Option Code) (w4:World),pd=j2.map W0→Q (Ey (jEx j2)) {a with defers:=[mk w.heap.size]++a.defers} w4→(match pd with
           |none=>Q .normal {a with defers:=[mk w.heap.size]++a.defers} w4
           |some c=>c.wpIn (FR none) 0 P Q {a with defers:=[mk w.heap.size]++a.defers} w4):=by
          intro pd w4 hpd fin;subst hpd;cases j2 with
          |none=>exact fin
          |some j=>
           cases j with
           |ret=>exact wpIn_ret fin
           |exit id=>exact wpIn_exit fin
         exact key _ _ o9 fin
       ·cases JP
     ·cases hrun
    ·cases hrun
   ·cases hrun
  ·cases hrun
 ·cases hrun
theorem JQ (hN:aX P) (hE:zg P E) {D:KC} (hD:TC P G D) (hC:bZ P G call) {bT:Rec} (hR:KJ P G bT):KJ P G (eW P G E D call bT):=by
 intro c nt tm h e dc h' hrun ρ hρ m F K a w r rt Q hq;have qa:c.wpIn (FR ρ) 0 P Q a w→(∀ b,c≠ .loop b)→c.wpIn (FR ρ) 0 P Q a w∧ ∀ b,c= .loop b→fq ρ P b Q a w:=fun h1 h2=>⟨h1,fun b hb=>(h2 b hb).elim⟩
 cases c with
 |skip=>
  simp only [eW,Option.some.injEq,Prod.mk.injEq] at hrun;obtain ⟨rfl,rfl,rfl⟩:=hrun;exact qa (wpIn_skip (hq.here r rt)) (by simp)
 |label l=>
  simp only [eW,Option.some.injEq,Prod.mk.injEq] at hrun;obtain ⟨rfl,rfl,rfl⟩:=hrun;exact qa (wpIn_label (hq.here r rt)) (by simp)
 |ret=>
  simp only [eW,Option.some.injEq,Prod.mk.injEq] at hrun;obtain ⟨rfl,rfl,rfl⟩:=hrun;exact qa (wpIn_ret (hq.here r rt)) (by simp)
 |exit id=>
  simp only [eW,Option.some.injEq,Prod.mk.injEq] at hrun;obtain ⟨rfl,rfl,rfl⟩:=hrun;exact qa (wpIn_exit (hq.here r rt)) (by simp)
 |goto l=>simp [eW] at hrun
 |scope b=>simp [eW] at hrun
 |refuse s=>simp [eW] at hrun
 |rangeFunc g ps x y=>
  simp only [eW] at hrun;cases ρ with
  |some l=>have:=hρ rfl; simp [nU] at this
  |none=>exact qa (OX hN hC hrun r rt hq) (by simp)
 |region id ops draw=>
  cases draw with
  |false=>
   simp only [eW] at hrun;split at hrun
   ·rename_i nu h2 hr
    cases hrun;refine qa (wpIn_region ?_) (by simp);have:=Be (ρ:=ρ) (Q:=Q) (F:=F) (K:=K) hN hE hC ops.toList 0 tm dc h h' m a w (fun j=>by simp) hr r rt (fun m' a' w' k1 k2 k3 k4=>hq.plain k1 k2 k3 k4);rw [List.range_eq_range'];simpa using this
   ·cases hrun
  |true=>
   simp only [eW] at hrun;split at hrun
   ·rename_i nu h2 hr
    cases hrun;exact qa (hD call hC ops nt tm h dc h' hr ρ m F K a w id r rt Q (fun m' a' w' k1 k2 k3 k4=>hq.plain k1 k2 k3 k4)) (by simp)
   ·cases hrun
 |seq x y=>
  simp only [eW] at hrun;have hx:ρ.isSome=true→nU x=true:=fun z=>(lF (hρ z)).1
  have hy:ρ.isSome=true→nU y=true:=fun z=>(lF (hρ z)).2
  refine qa (wpIn_seq ?_) (by simp);split at hrun
  ·rename_i nu h2 h1
   refine (hR x nt tm h _ _ _ h1 ρ hx m F K a w r rt _ ?_).1;intro ds m' a' w' k1 k2 k3 k4 k5 k6;show (y.wpIn (FR ρ) 0 P Q) a' w'
   exact (hR y nt nu h2 _ _ _ hrun ρ hy m' _ w' a' w' (k4.OS k2) k3 Q (hq.next k1 k2 k4 k5 k6)).1
  ·rename_i res hne
   refine (hR x nt tm h _ _ _ hrun ρ hx m F K a w r rt _ ?_).1;intro ds m' a' w' k1 k2 k3 k4 k5 k6;have:=hq ds m' a' w' k1 k2 k3 k4 k5 k6;cases e with
   |normal=>exact (hne _ _ hrun).elim
   |_=>exact this
 |cond c x y=>
  simp only [eW] at hrun;have hx:ρ.isSome=true→nU x=true:=fun z=>(lF (hρ z)).1
  have hy:ρ.isSome=true→nU y=true:=fun z=>(lF (hρ z)).2
  split at hrun
  ·rename_i hc
   exact qa (wpIn_cond_true (mN (az rt hc)) (hR x nt tm h _ _ _ hrun ρ hx m F K a w r rt Q hq).1) (by simp)
  ·rename_i hc
   exact qa (wpIn_cond_false (mN (az rt hc)) (hR y nt tm h _ _ _ hrun ρ hy m F K a w r rt Q hq).1) (by simp)
  ·cases hrun
 |block id b=>
  simp only [eW] at hrun;refine qa (wpIn_block ?_) (by simp);split at hrun
  ·rename_i id2 nu h2 h1
   refine (hR b nt tm h _ _ _ h1 ρ hρ m F K a w r rt _ ?_).1;intro ds m' a' w' k1 k2 k3 k4 k5 k6;show (if id2=id then Q .normal a' w' else Q (.exit id2) a' w')
   split at hrun
   ·rename_i hb
    cases hrun;rw [if_pos (br hb)];exact hq ds m' a' w' k1 k2 k3 k4 k5 k6
   ·rename_i hb
    cases hrun;rw [if_neg (fun e=>by subst e; simp at hb)];exact hq ds m' a' w' k1 k2 k3 k4 k5 k6
  ·rename_i res hne
   refine (hR b nt tm h _ _ _ hrun ρ hρ m F K a w r rt _ ?_).1;intro ds m' a' w' k1 k2 k3 k4 k5 k6;have:=hq ds m' a' w' k1 k2 k3 k4 k5 k6;cases e with
   |exit id2=>exact (hne _ _ _ hrun).elim
   |_=>exact this
 |loop b=>
  simp only [eW] at hrun;have main:fq ρ P b Q a w:=by
   refine fq.round ?_;split at hrun
   ·rename_i nu h2 h1
    refine (hR b nt tm h _ _ _ h1 ρ hρ m F K a w r rt _ ?_).1;intro ds m' a' w' k1 k2 k3 k4 k5 k6;show fq ρ P b Q a' w'
    exact (hR (.loop b) nt nu h2 _ _ _ hrun ρ hρ m' _ w' a' w' (k4.OS k2) k3 Q (hq.next k1 k2 k4 k5 k6)).2 b rfl
   ·rename_i res hne
    refine (hR b nt tm h _ _ _ hrun ρ hρ m F K a w r rt _ ?_).1;intro ds m' a' w' k1 k2 k3 k4 k5 k6;have:=hq ds m' a' w' k1 k2 k3 k4 k5 k6;cases e with
    |normal=>exact (hne _ _ hrun).elim
    |_=>exact this
  exact ⟨main.wp,fun b2 hb=>by cases hb; exact main⟩
theorem uC (r:Rel P G m F K h w) (rt:bU m nt tm a.tmps): ∀ {l:List ResultVar} {vs:List Value},AX P G tm h l=some vs→ ∃ vs',aO m vs=some vs'∧
  (l.mapM (fun x:ResultVar=>match x with
  | .tmp t=>pure (a.tmps.getD t undef)
  | .cell b t=>do loadVar t (← asAddr (a.tmps.getD b undef)):ResultVar→Sem Value)).run P w= .ok vs' w
 |[],vs,hh=>by simp only [AX,Option.some.injEq] at hh; subst hh; exact ⟨[],by simp [aO],by simp⟩
 | .tmp t::l,vs,hh=>by
  simp only [AX] at hh;split at hh
  ·rename_i u rest hu hr
   cases hh;obtain ⟨vs',h1,h2⟩:=uC r rt hr;obtain ⟨u',h3,h4⟩:=rt.get t u hu;refine ⟨u'::vs',by simp only [aO,h3,h1], ?_⟩;rw [List.mapM_cons];simp only [Sem.run_bind,Sem.run_pure,Result.andThen_ok,h2];rw [Array.getD_eq_getD_getElem?,h4]; rfl
  ·cases hh
 | .cell b t::l,vs,hh=>by
  simp only [AX] at hh;split at hh
  ·rename_i ad hb
   split at hh
   ·rename_i u rest hu hr
    cases hh;obtain ⟨vs',h1,h2⟩:=uC r rt hr;obtain ⟨u',h3,h4⟩:=rt.get b _ hb;obtain ⟨ad',h5,rfl⟩:=cq h3;obtain ⟨u2,h6,h7⟩:=OB r hu h5;refine ⟨u2::vs',by simp only [aO,h6,h1], ?_⟩;rw [List.mapM_cons];have h8:(do loadVar t (← asAddr (a.tmps.getD b undef)):Sem Value).run P w= .ok u2 w:=by
     rw [Array.getD_eq_getD_getElem?,h4]; simp [asAddr,h7]
    simp only [Sem.run_bind] at h8;simp only [Sem.run_bind,Sem.run_pure,Result.andThen_ok,h2,h8]
   ·cases hh
  ·cases hh
theorem Ms (r:Rel P G m F K h w) (rt:bU m nt tm a.tmps) {fn:Func} (hf:finish P G tm h fn.results.toList=some (v,h')):h'=h∧ ∃ v',aF m v=some v'∧(results fn a.tmps).run P w= .ok v' w:=by
 unfold finish at hf;split at hf
 ·rename_i u hr
  cases hf;obtain ⟨vs',h1,h2⟩:=uC (a:=a) r rt hr;obtain ⟨x,y,g1,g2,rfl⟩:=cz h1;obtain rfl:y=[]:=by simpa [aO] using g2.symm
  refine ⟨rfl,x,g1, ?_⟩;simp only [results,Sem.run_bind];rw [Array.mapM_eq_mapM_toList];simp only [Sem.run_map,Sem.run_pure]
  erw [h2]
  rfl
 ·rename_i l hne hr
  cases hf;obtain ⟨vs',h1,h2⟩:=uC (a:=a) r rt hr;refine ⟨rfl, .tuple ⟨vs'⟩,by simp only [aF,h1], ?_⟩;simp only [results,Sem.run_bind];rw [Array.mapM_eq_mapM_toList];simp only [Sem.run_map,Sem.run_pure]
  erw [h2]
  simp only [Result.andThen_ok];have hlen:=c9 h1;have hl1: ¬ (vs'.toArray.size=1):=by
   simp only [List.size_toArray];rw [hlen];intro h1l;obtain ⟨u,rfl⟩:=List.length_eq_one_iff.1 h1l;exact hne u rfl
  rw [dif_neg hl1]
 ·cases hf
theorem Mt {bT:Rec} (hR:KJ P G bT) {f:FuncId} {args:List Value} (e:GO P G bT f args h=some (v,h')) {args':List Value} (r:Rel P G m F K h w) (ha:aO m args=some args'):
  Calls P f ⟨args'⟩ w (td P G m F K h h' v):=by
 unfold GO at e;split at e
 ·cases e
 ·rename_i fn hfn
  split at e
  ·cases e
  ·rename_i c hb
   split at e
   ·cases e
   ·rename_i hle
    have hle:=cx hle;have hlen:=c9 ha;have rt0:bU m fn.ntmps (Tr.iX .e 0 args) ((⟨args'⟩:Array Value)++Array.replicate (fn.ntmps - (⟨args'⟩:Array Value).size) undef):=by
     refine ⟨by simp; omega,fun t x ht=> ?_⟩;rw [Tr.wL] at ht;by_cases hk:0≤t∧t<0+args.length
     ·rw [if_pos hk,Nat.sub_zero] at ht
      obtain ⟨x',h1,h2⟩:=jW ha t x ht;refine ⟨x',h1, ?_⟩;rw [Array.getElem?_append_left (by simp; omega)];simpa using h2
     ·rw [if_neg hk] at ht; cases ht
    refine (bN (ρ:=none) (n:=0)).1 (callsIn_of_wp_marks hfn hb trivial ?_);have fin: ∀ (nu:TM) (h2:Hp) (ds:List Nat) (m':aa) (a':Act) (w':World),finish P G nu h2 fn.results.toList=some (v,h')→Step m m' h h2→Rel P G m' F K h2 w'→bU m' fn.ntmps nu a'.tmps→Marks ds K m' h2 w'→a'.defers=ds.map mk++[]→
      LeavesInM (FR none) 0 P fn a'.tmps (td P G m F K h h' v) a'.defers .returning w':=by
     intro nu h2 ds m' a' w' e k1 k2 k3 k4 k5;rw [k5,List.append_nil];refine Bc ds w' k4 k2 fun w2 r2=> ?_
     obtain ⟨rfl,v',g1,g2⟩:=Ms r2 k3 e;exact ⟨v',g2,m',v',k1,g1,r2,rfl⟩
    split at e
    ·rename_i nu h2 hr
     refine (hR c fn.ntmps _ h _ _ _ hr none (fun z=>by cases z) m F K {tmps:=_,defers:=[]} w r rt0 _ ?_).1;intro ds m' a' w' k1 k2 k3 k4 k5 k6;exact fin nu h2 ds m' a' w' e k1 k2 k3 k4 k5
    ·rename_i nu h2 hr
     refine (hR c fn.ntmps _ h _ _ _ hr none (fun z=>by cases z) m F K {tmps:=_,defers:=[]} w r rt0 _ ?_).1;intro ds m' a' w' k1 k2 k3 k4 k5 k6;exact fin nu h2 ds m' a' w' e k1 k2 k3 k4 k5
    ·cases e
theorem Ez: ∀ {ps:List Nat} {args args':List Value} {tm dc:TM} {tmps:Array Value},De nt ps=true→GN tm ps args=some dc→aO m args=some args'→bU m nt tm tmps→
  ps.length=args'.length∧bU m nt dc ((ps.zip args').foldl (fun tmps (t,a)=>tmps.setIfInBounds t a) tmps)
 |[],[],args',tm,dc,tmps,hp,hs,ha,rt=>by
  simp only [GN,Option.some.injEq] at hs;subst hs;simp only [aO,Option.some.injEq] at ha;subst ha;exact ⟨rfl,rt⟩
 |p::ps,u::args,args',tm,dc,tmps,hp,hs,ha,rt=>by
  obtain ⟨x,y,h1,h2,rfl⟩:=cz ha;simp only [GN] at hs;simp only [De] at hp;split at hp
  ·rename_i hpn
   have hpn:=cY hpn;have rt2:bU m nt (tm.set p u) (tmps.setIfInBounds p x):=by
    refine ⟨by simp [rt.size],fun t z ht=> ?_⟩;rw [Tr.bn] at ht;by_cases e:p=t
    ·rw [if_pos e] at ht; cases ht; subst e
     exact ⟨x,h1,by simp [rt.size,hpn]⟩
    ·rw [if_neg e] at ht
     obtain ⟨z',q1,q2⟩:=rt.get t z ht;exact ⟨z',q1,by simp [Array.getElem?_setIfInBounds,e,q2]⟩
   obtain ⟨k1,k2⟩:=Ez hp hs h2 rt2;exact ⟨by simp [k1],k2⟩
  ·cases hp
 |[],_::_,_,_,_,_,_,hs,_,_=>by simp [GN] at hs
 |_::_,[],_,_,_,_,_,hs,_,_=>by simp [GN] at hs
theorem RU {bT:Rec} (hR:KJ P G bT) {q:Nat} {args:List Value} (e:ZS bT q args h=some (v,h')) {args':List Value} (ρ:Option Nat) {i:Nat} {b:BI} (r:Rel P G m F K h w) (ha:aO m args=some args')
  (hq:bk q= .new i) (hb:m i=some b):YieldAt (FR ρ) 0 P b.af ⟨args'⟩ w (td P G m F K h h' v):=by
 unfold ZS at e;rw [hq] at e;dsimp only at e;split at e
 ·rename_i nt tm ps assign body j0 ho
  split at e
  ·rename_i tm0 n1 n2 n3 Mk
   split at e
   ·rename_i iY h1 WE
    split at e
    ·rename_i nt2 nu ps2 as2 bo2 j2 RS
     obtain ⟨rc,o1,o2,o3,o4,o5,o6,o7,o8,o9⟩:=r.obj _ _ ho _ hb;have rtr:bU m nt tm rc.tmps:=⟨o3,o4⟩;obtain ⟨k1,k2⟩:=Ez n3 Mk ha rtr;refine ⟨rc.fn,_,rc.assign,rc.body,run_yield o2 (by rw [← Array.length_toList, ←Array.length_toList,o5]; exact k1.symm), ?_⟩;have hz:(rc.params.zip (⟨args'⟩:Array Value)).foldl (fun tmps (t,a)=>tmps.setIfInBounds t a) rc.tmps=(ps.zip args').foldl (fun tmps (t,a)=>tmps.setIfInBounds t a) rc.tmps:=by
      rw [← Array.foldl_toList,Array.toList_zip,o5]
     rw [hz,o6,o7];refine roundIn_of_wpIn trivial ?_;refine (hR assign nt tm0 h _ _ _ WE (some b.af) (fun _=>n1) m F K {tmps:=_,defers:=[]} w r k2 _ ?_).1;intro ds m1 a1 w1 s1 r1 t1 mk1 de1 z1;have zV:=s1.ext _ _ hb;obtain ⟨rc1,p1,p2,p3,p4,p5,p6,p7,p8,p9⟩:=r1.obj _ _ RS _ zV;refine ⟨_,run_beginRound p2 p8, ?_⟩;have r2:Rel P G m1 F K {h1 with bs:=h1.bs.set i (.loop nt2 nu ps2 as2 bo2 1 j2)} (w1.putObj b.af (.loop {rc1 with state:= .busy})):=
      r1.RR RS trivial zV _ (fun b2 A7=>by
       rw [zV] at A7; cases A7;exact ⟨_,p1,World.putObj_heap_same (getElem?_lt' p2),p3,p4,p5,p6,p7,rfl,p9⟩)
     unfold WY at e;split at e
     ·rename_i ex tm3 h3 hr3
      split at e
      ·rename_i nt4 tm4 ps4 as4 bo4 j4 j ho4 hj
       cases e;refine (hR body nt iY _ _ _ _ hr3 (some b.af) (fun _=>n2) m1 F K a1 _ r2 t1 _ ?_).1;intro ds3 m3 a3 w3 s3 r3 t3 mk3 de3 z3;have Zz:=s3.ext _ _ zV;obtain ⟨rc3,q1,q2,q3,q4,q5,q6,q7,q8,q9⟩:=r3.obj _ _ ho4 _ Zz;have UW: ∀ o,Step m m3 h {h3 with bs:=h3.bs.set i o}:=fun o=>((s1.trans (Step.set zV _)).trans s3).trans (Step.set Zz o)
       have key: ∀ (j:Option Jmp), ∃ v w',(Instr.endRound b.af (j.map W0)).run P w3= .ok v w'∧
         td P G m F K h {h3 with bs:=h3.bs.set i (.loop nt4 tm4 ps4 as4 bo4 (match j with|none=>0|some _=>2) j)} (.bool j.isNone) (.returned v) w':=by
        intro j;refine ⟨_,_,run_endRound (j.map W0) q2,m3, .bool (j.map W0).isNone,UW _,by cases j<;>simp [aF], ?_,rfl⟩;refine r3.RR ho4 trivial Zz _ (fun b2 A7=> ?_);rw [Zz] at A7; cases A7;refine ⟨_,q1,World.putObj_heap_same (getElem?_lt' q2),q3,q4,q5,q6,q7, ?_,rfl⟩;cases j<;>simp [stO]
       cases ex with
       |normal=>cases hj; exact key none
       |ret=>cases hj; exact key (some .ret)
       |exit id=>cases hj; exact key (some (.exit id))
       |goto l=>cases hj
      ·cases e
     ·cases e
    ·cases e
   ·cases e
  ·cases e
 ·cases e
theorem EA {bT:Rec} (hR:KJ P G bT):bZ P G (Tw P G bT) where
 fn:=fun f args h v h' e m F K w args' r ha=>Mt hR e r ha
 vM:=fun q args h v h' e ρ m F K w args' i b r ha hq hb=>RU hR e ρ r ha hq hb
end
end Go.Sim
namespace Go.Sim
noncomputable section
abbrev Kt:=Value→Hp→Option (TM×Hp)
def a_ (r:Option (Value×Hp)) (k:Kt):Option (TM×Hp):=Option.rec (motive:=fun _=>Option (TM×Hp)) none (fun p=>k p.1 p.2) r
theorem qb (k:Kt):a_ none k=none:=rfl
def cF (r:Option Value) (k:Value→Option (TM×Hp)):Option (TM×Hp):=Option.rec (motive:=fun _=>Option (TM×Hp)) none k r
def wv (r:Option (List Value)) (k:List Value→Option (TM×Hp)):Option (TM×Hp):=Option.rec (motive:=fun _=>Option (TM×Hp)) none k r
def abX (r:Option Nat) (k:Nat→Option (TM×Hp)):Option (TM×Hp):=Option.rec (motive:=fun _=>Option (TM×Hp)) none k r
structure CV where
 f:TM→Option Value
structure CVs where
 f:TM→Option (List Value)
structure CS where
 f:TM→Value→TM
structure CO where
 f:Call→TM→Hp→Kt→Option (TM×Hp)
structure CL where
 f:Call→TM→Hp→Option (TM×Hp)
def Dp (t:Tr Value):Tr Value:=Tr.rec (motive:=fun _=>Tr Value) .e (fun l _ _ _ _=>l) t
def TD (t:Tr Value):Tr Value:=Tr.rec (motive:=fun _=>Tr Value) .e (fun _ _ r _ _=>r) t
def ZB (t:Tr Value):Option Value:=Tr.rec (motive:=fun _=>Option Value) none (fun _ v _ _ _=>v) t
def hpL (t:Tr dA):Tr dA:=Tr.rec (motive:=fun _=>Tr dA) .e (fun l _ _ _ _=>l) t
def hpR (t:Tr dA):Tr dA:=Tr.rec (motive:=fun _=>Tr dA) .e (fun _ _ r _ _=>r) t
def hpV (t:Tr dA):Option dA:=Tr.rec (motive:=fun _=>Option dA) none (fun _ v _ _ _=>v) t
def abY (t:Tr dA) (k:Nat):Option dA:=
 Tr.rec (motive:=fun _=>Nat→Option dA) (fun _=>none) (fun _ v _ gl gr k=>Bool.rec (motive:=fun _=>Option dA) (Bool.rec (motive:=fun _=>Option dA) (gr (Nat.sub (Nat.div k (nat_lit 2)) (nat_lit 1))) (gl (Nat.div k (nat_lit 2))) (Nat.beq (Nat.mod k (nat_lit 2)) (nat_lit 1))) v (Nat.beq k (nat_lit 0))) t k
theorem TE (t:Tr dA) (k:Nat):abY t k=t.get k:=rfl
def ad_ (t:Tr Value) (k:Nat):Option Value:=
 Tr.rec (motive:=fun _=>Nat→Option Value) (fun _=>none) (fun _ v _ gl gr k=>Bool.rec (motive:=fun _=>Option Value) (Bool.rec (motive:=fun _=>Option Value) (gr (Nat.sub (Nat.div k (nat_lit 2)) (nat_lit 1))) (gl (Nat.div k (nat_lit 2))) (Nat.beq (Nat.mod k (nat_lit 2)) (nat_lit 1))) v (Nat.beq k (nat_lit 0))) t k
theorem ajD (t:Tr Value) (k:Nat):ad_ t k=t.get k:=rfl
def TF (v:dA) (f:Nat) (t:Tr dA) (k:Nat):Tr dA:=
 Nat.rec (motive:=fun _=>Tr dA→Nat→Tr dA) (fun t _=>t) (fun _ ih t k=>
  Bool.rec (motive:=fun _=>Tr dA) (Bool.rec (motive:=fun _=>Tr dA) (.n (hpL t) (hpV t) (ih (hpR t) (Nat.sub (Nat.div k (nat_lit 2)) (nat_lit 1)))) (.n (ih (hpL t) (Nat.div k (nat_lit 2))) (hpV t) (hpR t)) (Nat.beq (Nat.mod k (nat_lit 2)) (nat_lit 1))) (.n (hpL t) (some v) (hpR t)) (Nat.beq k (nat_lit 0))) f t k
theorem Xb (v:dA): ∀ (f:Nat) (t:Tr dA) (k:Nat),TF v f t k=Tr.pX v f t k:=by
 intro f;induction f with
 |zero=>intro t k; rfl
 |succ f ih=>
  intro t k;show Bool.rec (motive:=fun _=>Tr dA) (Bool.rec (motive:=fun _=>Tr dA) (.n (hpL t) (hpV t) (TF v f (hpR t) (k/2 - 1))) (.n (TF v f (hpL t) (k/2)) (hpV t) (hpR t)) (Nat.beq (k%2) 1)) (.n (hpL t) (some v) (hpR t)) (Nat.beq k 0)=_
  rw [Tr.mM];cases Nat.beq k 0<;>cases Nat.beq (k%2) 1<;>cases t<;>first|rfl|(simp only [ih]; rfl)
def OY (t:Tr dA) (k:Nat) (v:dA):Tr dA:=TF v (Nat.succ k) t k
theorem Mu (t:Tr dA) (k:Nat) (v:dA):OY t k v=t.set k v:=Xb v _ _ _
def TG (v:Value) (f:Nat) (t:Tr Value) (k:Nat):Tr Value:=
 Nat.rec (motive:=fun _=>Tr Value→Nat→Tr Value) (fun t _=>t) (fun _ ih t k=>
  Bool.rec (motive:=fun _=>Tr Value) (Bool.rec (motive:=fun _=>Tr Value) (.n (Dp t) (ZB t) (ih (TD t) (Nat.sub (Nat.div k (nat_lit 2)) (nat_lit 1)))) (.n (ih (Dp t) (Nat.div k (nat_lit 2))) (ZB t) (TD t)) (Nat.beq (Nat.mod k (nat_lit 2)) (nat_lit 1))) (.n (Dp t) (some v) (TD t)) (Nat.beq k (nat_lit 0))) f t k
theorem Xc (v:Value): ∀ (f:Nat) (t:Tr Value) (k:Nat),TG v f t k=Tr.pX v f t k:=by
 intro f;induction f with
 |zero=>intro t k; rfl
 |succ f ih=>
  intro t k;show Bool.rec (motive:=fun _=>Tr Value) (Bool.rec (motive:=fun _=>Tr Value) (.n (Dp t) (ZB t) (TG v f (TD t) (k/2 - 1))) (.n (TG v f (Dp t) (k/2)) (ZB t) (TD t)) (Nat.beq (k%2) 1)) (.n (Dp t) (some v) (TD t)) (Nat.beq k 0)=_
  rw [Tr.mM];cases Nat.beq k 0<;>cases Nat.beq (k%2) 1<;>cases t<;>first|rfl|(simp only [ih]; rfl)
def UX (t:Tr Value) (k:Nat) (v:Value):Tr Value:=TG v (Nat.succ k) t k
theorem Mw (t:Tr Value) (k:Nat) (v:Value):UX t k v=t.set k v:=Xc v _ _ _
def aa3 (t:Tr Value) (k:Nat) (l:List Value):Tr Value:=List.rec (motive:=fun _=>Tr Value→Nat→Tr Value) (fun t _=>t) (fun v _ ih t k=>ih (UX t k v) (Nat.succ k)) l t k
theorem OZ: ∀ (l:List Value) (t:Tr Value) (k:Nat),aa3 t k l=t.iX k l
 |[],_,_=>rfl
 |v::l,t,k=>by
  rw [Tr.sY, ←Mw];exact OZ l _ _
def O0 (n k:Nat):CV:=Nat.rec (motive:=fun _=>Nat→CV) (fun _=>⟨fun _=>none⟩) (fun _ ih k=>
 Bool.rec (motive:=fun _=>CV) (Bool.rec (motive:=fun _=>CV) ⟨fun tm=>(ih (Nat.sub (Nat.div k (nat_lit 2)) (nat_lit 1))).f (TD tm)⟩ ⟨fun tm=>(ih (Nat.div k (nat_lit 2))).f (Dp tm)⟩ (Nat.beq (Nat.mod k (nat_lit 2)) (nat_lit 1))) ⟨ZB⟩ (Nat.beq k (nat_lit 0))) n k
theorem Mx: ∀ (n k:Nat) (tm:TM),k<n→(O0 n k).f tm=tm.get k:=by
 intro n;induction n with
 |zero=>intro k tm h; omega
 |succ n ih=>
  intro k tm h;show (Bool.rec (motive:=fun _=>CV) (Bool.rec (motive:=fun _=>CV) ⟨fun tm=>(O0 n (k/2 - 1)).f (TD tm)⟩ ⟨fun tm=>(O0 n (k/2)).f (Dp tm)⟩ (Nat.beq (k%2) 1)) ⟨ZB⟩ (Nat.beq k 0):CV).f tm=tm.get k
  cases tm with
  |e=>
   rw [Tr.Ep];by_cases h0:k=0
   ·subst h0; rfl
   ·rw [ef h0]
    by_cases h1:k%2=1
    ·rw [h1]; exact (ih (k/2) .e (by omega)).trans (Tr.Ep _)
    ·rw [ef h1]; exact (ih (k/2 - 1) .e (by omega)).trans (Tr.Ep _)
  |n l v r=>
   rw [Tr.Oh];by_cases h0:k=0
   ·subst h0; rfl
   ·rw [ef h0]
    by_cases h1:k%2=1
    ·rw [h1]; exact ih (k/2) l (by omega)
    ·rw [ef h1]; exact ih (k/2 - 1) r (by omega)
def wz (n k:Nat):CS:=Nat.rec (motive:=fun _=>Nat→CS) (fun _=>⟨fun tm _=>tm⟩) (fun _ ih k=>
 Bool.rec (motive:=fun _=>CS) (Bool.rec (motive:=fun _=>CS) ⟨fun tm v=> .n (Dp tm) (ZB tm) ((ih (Nat.sub (Nat.div k (nat_lit 2)) (nat_lit 1))).f (TD tm) v)⟩ ⟨fun tm v=> .n ((ih (Nat.div k (nat_lit 2))).f (Dp tm) v) (ZB tm) (TD tm)⟩ (Nat.beq (Nat.mod k (nat_lit 2)) (nat_lit 1)))
  ⟨fun tm v=> .n (Dp tm) (some v) (TD tm)⟩ (Nat.beq k (nat_lit 0))) n k
theorem Z6 (v:Value): ∀ (n k:Nat) (tm:TM),(wz n k).f tm v=Tr.pX v n tm k:=by
 intro n;induction n with
 |zero=>intro k tm; rfl
 |succ n ih=>
  intro k tm;show (Bool.rec (motive:=fun _=>CS) (Bool.rec (motive:=fun _=>CS) ⟨fun tm v=> .n (Dp tm) (ZB tm) ((wz n (k/2 - 1)).f (TD tm) v)⟩ ⟨fun tm v=> .n ((wz n (k/2)).f (Dp tm) v) (ZB tm) (TD tm)⟩ (Nat.beq (k%2) 1))
   ⟨fun tm v=> .n (Dp tm) (some v) (TD tm)⟩ (Nat.beq k 0):CS).f tm v=_
  rw [Tr.mM];cases hb:Nat.beq k 0 with
  |true=>cases tm<;>rfl
  |false=>
   cases hc:Nat.beq (k%2) 1 with
   |true=>
    cases tm with
    |e=>show Tr.n ((wz n (k/2)).f .e v) none .e=_; rw [ih]
    |n l u r=>show Tr.n ((wz n (k/2)).f l v) u r=_; rw [ih]
   |false=>
    cases tm with
    |e=>show Tr.n .e none ((wz n (k/2 - 1)).f .e v)=_; rw [ih]
    |n l u r=>show Tr.n l u ((wz n (k/2 - 1)).f r v)=_; rw [ih]
theorem Bf (k:Nat) (tm:TM) (v:Value):(wz (Nat.succ k) k).f tm v=tm.set k v:=Z6 v _ _ _
def bI (x:Operand):CV:=match x with
 | .tmp t=>O0 (Nat.succ t) t
 | .const v=>Bool.rec (motive:=fun _=>CV) ⟨fun _=>none⟩ ⟨fun _=>some v⟩ (bL v)
 | .global g=>⟨fun _=>some (.pointer (some ⟨Nat.succ (Nat.mul (nat_lit 2) g),nat_lit 0,none⟩))⟩
 | .func f=>⟨fun _=>some (.func (.func f) #[] #[])⟩
theorem cE (x:Operand) (tm:TM):(bI x).f tm=aL tm x:=by
 cases x with
 |tmp t=>exact Mx _ _ _ (Nat.lt_succ_self t)
 |const v=>
  show (Bool.rec (motive:=fun _=>CV) ⟨fun _=>none⟩ ⟨fun _=>some v⟩ (bL v):CV).f tm=(match bL v with|true=>some v|false=>none)
  cases bL v<;>rfl
 |global g=>rfl
 |func f=>rfl
def Bg (v:Option Value) (l:Option (List Value)):Option (List Value):=Option.rec (motive:=fun _=>Option (List Value)) none (fun v=>Option.rec (motive:=fun _=>Option (List Value)) none (fun l=>some (v::l)) l) v
def wT (l:List Operand):CVs:=List.rec (motive:=fun _=>CVs) ⟨fun _=>some []⟩ (fun x _ ih=>⟨fun tm=>Bg ((bI x).f tm) (ih.f tm)⟩) l
theorem yA (tm:TM): ∀ (l:List Operand),(wT l).f tm=cO tm l
 |[]=>rfl
 |x::l=>by
  rw [jF];show Bg ((bI x).f tm) ((wT l).f tm)=_
  rw [cE,yA tm l];cases aL tm x with
  |none=>rfl
  |some v=>cases cO tm l<;>rfl
inductive VI where
 |no
 |at (k:IntKind) (n:Int)
def asInt (v:Value):VI:=Value.rec (motive_1:=fun _=>VI) (motive_2:=fun _=>VI) (motive_3:=fun _=>VI) (fun _=> .no) (fun k n=> .at k n) (fun _ _=> .no) (fun _ _ _=> .no) (fun _=> .no) (fun _=> .no) (fun _ _ _=> .no) (fun _=> .no) (fun _=> .no) (fun _ _ _ _ _=> .no) .no (fun _ _ _=> .no) .no (fun _ _=> .no) (fun _ _=> .no) (fun _ _=> .no) .no (fun _ _ _ _=> .no) v
inductive VP where
 |no
 |at (a:Addr)
def agG (a:Option Addr):VP:=Option.rec (motive:=fun _=>VP) .no (fun a=> .at a) a
def KK (v:Value):VP:=Value.rec (motive_1:=fun _=>VP) (motive_2:=fun _=>VP) (motive_3:=fun _=>VP) (fun _=> .no) (fun _ _=> .no) (fun _ _=> .no) (fun _ _ _=> .no) (fun _=> .no) (fun a=>agG a) (fun _ _ _=> .no) (fun _=> .no) (fun _=> .no) (fun _ _ _ _ _=> .no) .no (fun _ _ _=> .no) .no (fun _ _=> .no) (fun _ _=> .no) (fun _ _=> .no) .no (fun _ _ _ _=> .no) v
inductive VB where
 |no
 |at (b:Bool)
def asBool (v:Value):VB:=Value.rec (motive_1:=fun _=>VB) (motive_2:=fun _=>VB) (motive_3:=fun _=>VB) (fun b=> .at b) (fun _ _=> .no) (fun _ _=> .no) (fun _ _ _=> .no) (fun _=> .no) (fun _=> .no) (fun _ _ _=> .no) (fun _=> .no) (fun _=> .no) (fun _ _ _ _ _=> .no) .no (fun _ _ _=> .no) .no (fun _ _=> .no) (fun _ _=> .no) (fun _ _=> .no) .no (fun _ _ _ _=> .no) v
inductive VS where
 |no
 |at (a:Option Addr) (n c:Nat)
def asSlice (v:Value):VS:=Value.rec (motive_1:=fun _=>VS) (motive_2:=fun _=>VS) (motive_3:=fun _=>VS) (fun _=> .no) (fun _ _=> .no) (fun _ _=> .no) (fun _ _ _=> .no) (fun _=> .no) (fun _=> .no) (fun a n c=> .at a n c) (fun _=> .no) (fun _=> .no) (fun _ _ _ _ _=> .no) .no (fun _ _ _=> .no) .no (fun _ _=> .no) (fun _ _=> .no) (fun _ _=> .no) .no (fun _ _ _ _=> .no) v
inductive VA where
 |no
 |at (l:List Value)
def asAgg (v:Value):VA:=Value.rec (motive_1:=fun _=>VA) (motive_2:=fun _=>VA) (motive_3:=fun _=>VA) (fun _=> .no) (fun _ _=> .no) (fun _ _=> .no) (fun _ _ _=> .no) (fun _=> .no) (fun _=> .no) (fun _ _ _=> .no) (fun _=> .no) (fun _=> .no) (fun _ _ _ _ _=> .no) .no (fun _ _ _=> .no) .no (fun l _=> .at l.toList) (fun _ _=> .no) (fun _ _=> .no) .no (fun _ _ _ _=> .no) v
def aa4 (v:Value):VA:=Value.rec (motive_1:=fun _=>VA) (motive_2:=fun _=>VA) (motive_3:=fun _=>VA) (fun _=> .no) (fun _ _=> .no) (fun _ _=> .no) (fun _ _ _=> .no) (fun _=> .no) (fun _=> .no) (fun _ _ _=> .no) (fun _=> .no) (fun _=> .no) (fun _ _ _ _ _=> .no) .no (fun _ _ _=> .no) .no (fun _ _=> .no) (fun l _=> .at l.toList) (fun _ _=> .no) .no (fun _ _ _ _=> .no) v
inductive VO where
 |no
 |cells (size:Nat) (ty:TypeId) (cs:Tr Value)
def Gj (o:Option dA):VO:=Option.rec (motive:=fun _=>VO) .no (fun o=>dA.rec (motive:=fun _=>VO) (fun s t c=> .cells s t c) (fun _=> .no) .no (fun _ _ _ _ _ _ _=> .no) o) o
def agH (n:Int):Option Nat:=Int.rec (motive:=fun _=>Option Nat) (fun n=>some n) (fun _=>none) n
def asNat (v:Value):Option Nat:=Value.rec (motive_1:=fun _=>Option Nat) (motive_2:=fun _=>Option Nat) (motive_3:=fun _=>Option Nat) (fun _=>none) (fun _ n=>agH n) (fun _ _=>none) (fun _ _ _=>none) (fun _=>none) (fun _=>none) (fun _ _ _=>none) (fun _=>none) (fun _=>none) (fun _ _ _ _ _=>none) none (fun _ _ _=>none) none (fun _ _=>none) (fun _ _=>none) (fun _ _=>none) none (fun _ _ _ _=>none) v
theorem Xd (v:Value):asNat v=cm v:=by
 cases v with
 |int k n=>cases n<;>rfl
 |_=>rfl
def Xe (v:Value):Bool:=Value.rec (motive_1:=fun _=>Bool) (motive_2:=fun _=>Bool) (motive_3:=fun _=>Bool) (fun _=>true) (fun _ _=>true) (fun _ _=>true) (fun _ _ _=>true) (fun _=>true) (fun _=>true) (fun _ _ _=>true) (fun _=>true) (fun _=>true) (fun _ _ _ _ _=>true) true (fun _ _ _=>true) true (fun _ _=>false) (fun _ _=>false) (fun _ _=>true) true (fun _ _ _ _=>true) v
theorem TH (v:Value):Xe v=dU v:=by cases v<;>rfl
def fnT (P:Program):Tr Func:=Tr.iX .e (nat_lit 0) P.funcs.toList
def Xf (P:Program) (f:Nat):Option Func:=(fnT P).get f
theorem O4 {α:Type} (l:List α) (j:Nat):(Tr.iX .e 0 l).get j=l[j]? :=by
 rw [Tr.wL];by_cases h:j<l.length
 ·rw [if_pos (by omega)]; simp
 ·rw [if_neg (by omega),Tr.Ep]
  exact (List.getElem?_eq_none (by omega)).symm
theorem jj (P:Program) (f:Nat):Xf P f=P.funcs[f]? :=by
 unfold Xf fnT;rw [O4,Array.getElem?_toList]
def tyT (P:Program):Tr TypeInfo:=Tr.iX .e (nat_lit 0) P.types.toList
def UY (P:Program) (t:TypeId):Option TypeInfo:=match (tyT P).get t with
 |some i=>some i
 |none=>P.info? t
theorem Gk (P:Program) (t:TypeId):UY P t=P.info? t:=by
 unfold UY tyT;rw [O4,Array.getElem?_toList];cases h:P.types[t]? with
 |none=>rfl
 |some i=>
  have hlt:t<P.types.size:=(Array.getElem?_eq_some_iff.1 h).1;show some i=P.info? t
  unfold Tables.info?;rw [if_pos hlt,h]
def ZC (P:Program) (t:TypeId):Option Nat:=match UY P t with
 |some i=>some i.size
 |none=>none
theorem jI (P:Program) (t:TypeId):ZC P t=aV P t:=by unfold ZC aV; rw [Gk]; cases P.info? t<;>rfl
def descOf (i:Option TypeInfo):Option TypeDesc:=match i with
 |some i=>some i.desc
 |none=>none
def JR (P:Program) (t:TypeId):Option TypeDesc:=match UY P t with
 |some i=>match i.desc with
  | .named _ u=>descOf (UY P u)
  |d=>some d
 |none=>none
theorem gU (P:Program) (t:TypeId):JR P t=P.underlying t:=by
 unfold JR Program.underlying;rw [Gk];cases P.info? t with
 |none=>rfl
 |some i=>
  cases i with
  |mk desc str size bytes hp al fa zero cmp ms=>
  dsimp only;cases desc with
  |named n u=>
   dsimp only;rw [Gk];cases P.info? u<;>rfl
  |_=>rfl
def abZ (P:Program) (t:TypeId):Option Bool:=match JR P t with
 |some (.struct _)=>some true
 |some (.array _ _)=>some true
 |some _=>some false
 |none=>none
theorem jk (P:Program) (t:TypeId):abZ P t=bM P t:=by unfold abZ bM; rw [gU]; cases P.underlying t with|none=>rfl|some d=>cases d<;>rfl
def zcF (P:Program) (t:TypeId):Option (List Value):=match UY P t with
 |some i=>match i.zero with
  |some z=>match bL z with
   |true=>some (bC z)
   |false=>none
  |none=>none
 |none=>none
theorem oD (P:Program) (t:TypeId):zcF P t=zeroCells P t:=by
 unfold zcF zeroCells bA;rw [Gk];cases P.info? t<;>rfl
def My (P:Program):List Field→Bool
 |[]=>true
 |f::l=>match ZC P f.type with
  |some _=>My P l
  |none=>false
theorem eu (P:Program): ∀ l,My P l=fO P l
 |[]=>rfl
 |f::l=>by simp only [My,fO,jI]; cases aV P f.type with|none=>rfl|some n=>exact eu P l
def ab0 (P:Program) (t:TypeId):Bool:=match ZC P t with
 |some n=>Nat.beq n (nat_lit 1)
 |none=>false
theorem jl (P:Program) (t:TypeId):ab0 P t=sz1 P t:=by unfold ab0 sz1; rw [jI]; cases aV P t<;>rfl
end
end Go.Sim
namespace Go.Sim
noncomputable section
variable (P:Program) (G:Nat→Option (List Value))
abbrev iE:=Option (TM×Hp)
def dead:CO:=⟨fun _ _ _ _=>none⟩
def aa5 (x:Operand):CO:=⟨fun _ tm h k=>cF ((bI x).f tm) (fun v=>k v h)⟩
theorem O5 (x:Operand) (call:Call) (tm:TM) (h:Hp) (k:Kt):(aa5 x).f call tm h k=a_ (L9 x tm h) k:=by
 show cF ((bI x).f tm) (fun v=>k v h)=_
 rw [cE];unfold L9;cases aL tm x<;>rfl
def aa6 (v:Value) (a b:iE):iE:=VB.rec (motive:=fun _=>iE) none (fun q=>Bool.rec (motive:=fun _=>iE) b a q) (asBool v)
def aa7 (c a b:Operand):CO:=⟨fun _ tm h k=>cF ((bI c).f tm) (fun v=>aa6 v (cF ((bI a).f tm) (fun v=>k v h)) (cF ((bI b).f tm) (fun v=>k v h)))⟩
theorem Xg (c a b:Operand) (call:Call) (tm:TM) (h:Hp) (k:Kt):(aa7 c a b).f call tm h k=a_ (L_ c a b tm h) k:=by
 show cF ((bI c).f tm) (fun v=>aa6 v (cF ((bI a).f tm) (fun v=>k v h)) (cF ((bI b).f tm) (fun v=>k v h)))=_
 simp only [cE];unfold L_;cases aL tm c with
 |none=>rfl
 |some v=>
  cases v with
  |bool q=>
   cases q with
   |true=>show cF (aL tm a) _=a_ (match aL tm a with|some v=>some (v,h)|none=>none) k; cases aL tm a<;>rfl
   |false=>show cF (aL tm b) _=a_ (match aL tm b with|some v=>some (v,h)|none=>none) k; cases aL tm b<;>rfl
  |_=>rfl
def FC {α:Type} (l:List α):Nat:=List.rec (motive:=fun _=>Nat) (nat_lit 0) (fun _ _ n=>Nat.succ n) l
theorem uD {α:Type}: ∀ l:List α,FC l=l.length
 |[]=>rfl
 |x::l=>by show Nat.succ (FC l)=_; rw [uD l]; rfl
def ab1 (h:Hp) (o:dA) (k:Kt):iE:=Hp.rec (motive:=fun _=>iE) (fun n bs=>k (.pointer (some ⟨Nat.mul (nat_lit 2) n,nat_lit 0,none⟩)) ⟨Nat.succ n,OY bs n o⟩) h
def Z7 (h:Hp) (t:TypeId) (l:List Value) (k:Kt):iE:=ab1 h (.cells (FC l) t (aa3 .e (nat_lit 0) l)) k
theorem TI (h:Hp) (o:dA) (k:Kt):ab1 h o k=k (.pointer (some ⟨2*h.next,0,none⟩)) {next:=h.next+1,bs:=h.bs.set h.next o}:=by
 show k _ ⟨Nat.succ h.next,OY h.bs h.next o⟩=_
 rw [Mu]; rfl
theorem TJ (h:Hp) (t:TypeId) (l:List Value) (k:Kt):Z7 h t l k=a_ (some (qF h t l)) k:=by
 unfold Z7;rw [uD,TI,OZ];rfl
def RV (t:TypeId):CO:=match zcF P t with
 |some l=>⟨fun _ _ h k=>Z7 h t l k⟩
 |none=>dead
theorem UZ (t:TypeId) (call:Call) (tm:TM) (h:Hp) (k:Kt):(RV P t).f call tm h k=a_ (Gi P t tm h) k:=by
 unfold RV Gi;simp only [gU,jI,jk,oD,jj,eu,jl];cases zeroCells P t with
 |none=>rfl
 |some l=>exact TJ h t l k
def ab2 (h:Hp) (t:TypeId) (k:Kt) (v:Value):iE:=VA.rec (motive:=fun _=>iE) (ab1 h (.cells (nat_lit 1) t (.n .e (some v) .e)) k) (fun l=>Z7 h t l k) (asAgg v)
theorem Z8 (h:Hp) (t:TypeId) (k:Kt) (v:Value):ab2 h t k v=a_ (some (qF h t (bC v))) k:=by
 cases v with
 |agg l=>cases l; exact TJ h t _ k
 |_=>exact TI ..
def aea (t:TypeId) (x:Operand):CO:=⟨fun _ tm h k=>cF ((bI x).f tm) (ab2 h t k)⟩
theorem Z9 (t:TypeId) (x:Operand) (call:Call) (tm:TM) (h:Hp) (k:Kt):(aea t x).f call tm h k=a_ (Tm t x tm h) k:=by
 show cF ((bI x).f tm) (ab2 h t k)=_
 rw [cE];unfold Tm;cases aL tm x with
 |none=>rfl
 |some v=>exact Z8 h t k v
def rowOf (h:Hp) (i:Nat):VO:=Gj (abY h.bs i)
def cellOf (o:VO) (off:Nat):Option Value:=VO.rec (motive:=fun _=>Option Value) none (fun _ _ cs=>ad_ cs off) o
def aa8 (b off:Nat):Option Value:=match G (Nat.div b (nat_lit 2)) with
 |some l=>l[off]?
 |none=>none
def ldF (h:Hp) (a:Addr):Option Value:=Addr.rec (motive:=fun _=>Option Value) (fun b off _=>Bool.rec (motive:=fun _=>Option Value) (aa8 G b off) (cellOf (rowOf h (Nat.div b (nat_lit 2))) off) (Nat.beq (Nat.mod b (nat_lit 2)) (nat_lit 0))) a
theorem ab3 (h:Hp) (a:Addr):ldF G h a=fk G h a 0:=by
 obtain ⟨b,off,sp⟩:=a;show Bool.rec (motive:=fun _=>Option Value) (aa8 G b off) (cellOf (rowOf h (Nat.div b 2)) off) (Nat.beq (Nat.mod b 2) 0)=_
 unfold fk bk;cases Nat.beq (Nat.mod b 2) 0 with
 |true=>
  show cellOf (rowOf h (Nat.div b 2)) off=(match h.bs.get (Nat.div b 2) with
   |some (.cells _ _ cs)=>cs.get (Nat.add off 0)
   |_=>none)
  unfold rowOf;rw [TE];cases h.bs.get (Nat.div b 2) with
  |none=>rfl
  |some o=>cases o<;>rfl
 |false=>rfl
def ab4 (cs:Tr Value) (off n:Nat):Option (List Value):=Nat.rec (motive:=fun _=>Nat→Option (List Value)) (fun _=>some []) (fun _ ih off=>Bg (ad_ cs off) (ih (Nat.succ off))) n off
def aeb (o:VO) (off n:Nat):Option (List Value):=VO.rec (motive:=fun _=>Option (List Value)) none (fun _ _ cs=>ab4 cs off n) o
def ldL (h:Hp) (a:Addr) (n:Nat):Option (List Value):=Bool.rec (motive:=fun _=>Option (List Value)) (eg G h a (nat_lit 0) n) (aeb (rowOf h (Nat.div a.block (nat_lit 2))) a.off n) (Nat.beq (Nat.mod a.block (nat_lit 2)) (nat_lit 0))
theorem Z_ (h:Hp) (a:Addr) (cs:Tr Value) (size:Nat) (ty:TypeId) (ho:h.bs.get (Nat.div a.block 2)=some (.cells size ty cs)) (hb:Nat.beq (Nat.mod a.block 2) 0=true):
  ∀ (n j:Nat),ab4 cs (a.off+j) n=eg G h a j n:=by
 intro n;induction n with
 |zero=>intro j; rfl
 |succ n ih=>
  intro j;rw [gd];have:fk G h a j=cs.get (a.off+j):=by
   unfold fk bk;rw [hb];dsimp only;rw [ho];rfl
  rw [this];show Bg (cs.get (a.off+j)) (ab4 cs (a.off+j+1) n)=_
  rw [show a.off+j+1=a.off+(j+1) from rfl,ih (j+1)];cases cs.get (a.off+j) with
  |none=>rfl
  |some v=>cases eg G h a (j+1) n<;>rfl
theorem ab5 (h:Hp) (a:Addr) (n:Nat) (hn:n≠0):ldL G h a n=eg G h a 0 n:=by
 unfold ldL;cases hb:Nat.beq (Nat.mod a.block 2) 0 with
 |false=>rfl
 |true=>
  show aeb (Gj (h.bs.get (Nat.div a.block 2))) a.off n=_
  cases ho:h.bs.get (Nat.div a.block 2) with
  |none=>
   obtain ⟨n,rfl⟩:=Nat.exists_eq_succ_of_ne_zero hn;rw [gd];have:fk G h a 0=none:=by unfold fk bk; rw [hb]; dsimp only; rw [ho]
   rw [this]; rfl
  |some o=>
   cases o with
   |cells size ty cs=>exact Z_ G h a cs size ty ho hb n 0
   |map es=>
    obtain ⟨n,rfl⟩:=Nat.exists_eq_succ_of_ne_zero hn;rw [gd];have:fk G h a 0=none:=by unfold fk bk; rw [hb]; dsimp only; rw [ho]
    rw [this]; rfl
   |dead=>
    obtain ⟨n,rfl⟩:=Nat.exists_eq_succ_of_ne_zero hn;rw [gd];have:fk G h a 0=none:=by unfold fk bk; rw [hb]; dsimp only; rw [ho]
    rw [this]; rfl
   |loop=>
    obtain ⟨n,rfl⟩:=Nat.exists_eq_succ_of_ne_zero hn;rw [gd];have:fk G h a 0=none:=by unfold fk bk; rw [hb]; dsimp only; rw [ho]
    rw [this]; rfl
def yW (v:Value) (k:Addr→iE):iE:=VP.rec (motive:=fun _=>iE) none k (KK v)
def Xh (E:FuncId→List Value→Option Value) (op:Op):CO:=⟨fun call tm h k=>a_ (nT P G E call op tm h) k⟩
def Xi (t:TypeId) (x:Operand):CO:=match abZ P t with
 |some false=>⟨fun _ tm h k=>cF ((bI x).f tm) (fun v=>yW v (fun a=>cF (ldF G h a) (fun v=>k v h)))⟩
 |some true=>match ZC P t with
  |some n=>Bool.rec (motive:=fun _=>CO) ⟨fun _ tm h k=>cF ((bI x).f tm) (fun v=>yW v (fun a=>wv (ldL G h a n) (fun l=>k (.agg ⟨l⟩) h)))⟩ ⟨fun _ tm h k=>a_ (wI P G t x tm h) k⟩ (Nat.beq n (nat_lit 0))
  |none=>dead
 |none=>dead
theorem aaa (v:Value) (k:Addr→iE):yW v k=match v with| .pointer (some a)=>k a|_=>none:=by
 cases v with
 |pointer a=>cases a<;>rfl
 |_=>rfl
theorem Xj (t:TypeId) (x:Operand) (call:Call) (tm:TM) (h:Hp) (k:Kt):(Xi P G t x).f call tm h k=a_ (wI P G t x tm h) k:=by
 have ld0: ∀ (u:Option Bool) (hu:bM P t=u),(match u with|none=>none|some true=>none|some false=>none:Option Nat)=none→True:=fun _ _ _=>trivial
 unfold Xi;simp only [gU,jI,jk,oD,jj,eu,jl];cases e1:bM P t with
 |none=>
  show none=_
  unfold wI ld;rw [e1];cases aL tm x with
  |none=>rfl
  |some v=>
   cases v with
   |pointer a=>cases a<;>rfl
   |_=>rfl
 |some b=>
  cases b with
  |false=>
   show cF ((bI x).f tm) (fun v=>yW v (fun a=>cF (ldF G h a) (fun v=>k v h)))=_
   rw [cE];unfold wI ld;rw [e1];cases aL tm x with
   |none=>rfl
   |some v=>
    cases v with
    |pointer a=>
     cases a with
     |none=>rfl
     |some a=>
      show cF (ldF G h a) (fun v=>k v h)=a_ (match fk G h a 0 with|some v=>some (v,h)|none=>none) k
      rw [ab3];cases fk G h a 0<;>rfl
    |_=>rfl
  |true=>
   dsimp only;cases e2:aV P t with
   |none=>
    show none=_
    unfold wI ld;rw [e1,e2];cases aL tm x with
    |none=>rfl
    |some v=>
     cases v with
     |pointer a=>cases a<;>rfl
     |_=>rfl
   |some n=>
    dsimp only;cases hn:Nat.beq n (nat_lit 0) with
    |true=>rfl
    |false=>
     have hn0:n≠0:=by rintro rfl; cases hn
     show cF ((bI x).f tm) (fun v=>yW v (fun a=>wv (ldL G h a n) (fun l=>k (.agg ⟨l⟩) h)))=_
     rw [cE];unfold wI ld;rw [e1,e2];cases aL tm x with
     |none=>rfl
     |some v=>
      cases v with
      |pointer a=>
       cases a with
       |none=>rfl
       |some a=>
        show wv (ldL G h a n) (fun l=>k (.agg ⟨l⟩) h)=a_ (match (match eg G h a 0 n with|none=>none|some l=>some (.agg ⟨l⟩)) with|some v=>some (v,h)|none=>none) k
        rw [ab5 G h a n hn0];cases eg G h a 0 n<;>rfl
      |_=>rfl
def ab6 (i off:Nat) (v:Value) (h:Hp) (k:Kt) (o:VO):iE:=VO.rec (motive:=fun _=>iE) none (fun size ty cs=>Bool.rec (motive:=fun _=>iE) none (Hp.rec (motive:=fun _=>iE) (fun n bs=>k undef ⟨n,OY bs i (.cells size ty (UX cs off v))⟩) h) (Nat.ble (Nat.succ off) size)) o
def stK (a:Addr) (v:Value) (h:Hp) (k:Kt):iE:=Addr.rec (motive:=fun _=>iE) (fun b off _=>Bool.rec (motive:=fun _=>iE) none (ab6 (Nat.div b (nat_lit 2)) off v h k (rowOf h (Nat.div b (nat_lit 2)))) (Nat.beq (Nat.mod b (nat_lit 2)) (nat_lit 0))) a
theorem ab7 (a:Addr) (v:Value) (h:Hp) (k:Kt):stK a v h k=a_ (GK (bk a.block) a.off v h) k:=by
 obtain ⟨b,off,sp⟩:=a;show Bool.rec (motive:=fun _=>iE) none (ab6 (Nat.div b 2) off v h k (rowOf h (Nat.div b 2))) (Nat.beq (Nat.mod b 2) 0)=a_ (GK (bk b) off v h) k
 unfold bk;cases Nat.beq (Nat.mod b 2) 0 with
 |false=>rfl
 |true=>
  show ab6 (Nat.div b 2) off v h k (Gj (h.bs.get (Nat.div b 2)))=a_ (WR (Nat.div b 2) off v (h.bs.get (Nat.div b 2)) h) k
  cases h.bs.get (Nat.div b 2) with
  |none=>rfl
  |some o=>
   cases o with
   |cells size ty cs=>
    show Bool.rec (motive:=fun _=>iE) none (k undef ⟨h.next,OY h.bs (Nat.div b 2) (.cells size ty (UX cs off v))⟩) (Nat.ble (Nat.succ off) size)=a_ (Bool.rec (motive:=fun _=>Option (Value×Hp)) none _ (Nat.ble (Nat.succ off) size)) k
    rw [Mu,Mw];cases Nat.ble (Nat.succ off) size<;>rfl
   |map es=>rfl
   |dead=>rfl
   |loop=>rfl
def Mz (t:TypeId) (x y:Operand):CO:=Bool.rec (motive:=fun _=>CO) ⟨fun _ tm h k=>a_ (oR P t x y tm h) k⟩
 ⟨fun _ tm h k=>cF ((bI x).f tm) (fun p=>yW p (fun a=>cF ((bI y).f tm) (fun v=>Bool.rec (motive:=fun _=>iE) (a_ (g_ P t a v h) k) (stK a v h k) (Xe v))))⟩ (ab0 P t)
theorem KL (t:TypeId) (x y:Operand) (call:Call) (tm:TM) (h:Hp) (k:Kt):(Mz P t x y).f call tm h k=a_ (oR P t x y tm h) k:=by
 unfold Mz;simp only [gU,jI,jk,oD,jj,eu,jl];cases e1:sz1 P t with
 |false=>rfl
 |true=>
  show cF ((bI x).f tm) (fun p=>yW p (fun a=>cF ((bI y).f tm) (fun v=>Bool.rec (motive:=fun _=>iE) (a_ (g_ P t a v h) k) (stK a v h k) (Xe v))))=_
  simp only [cE,ab7,TH];unfold oR WS;rw [e1];cases aL tm x with
  |none=>rfl
  |some p=>
   cases p with
   |pointer a=>
    cases a with
    |none=>rfl
    |some a=>
     cases aL tm y with
     |none=>rfl
     |some v=>
      show Bool.rec (motive:=fun _=>iE) (a_ (g_ P t a v h) k) (a_ (GK (bk a.block) a.off v h) k) (dU v)=a_ (Bool.rec (motive:=fun _=>Option (Value×Hp)) (g_ P t a v h) (GK (bk a.block) a.off v h) (dU v)) k
      cases dU v<;>rfl
   |_=>rfl
structure CB where
 f:IntKind→Int→Int→Option Value
def U0 (op:BinOp):CB:=match op with
 | .add=>⟨fun k a b=>some (.int k (qK k (WM a b)))⟩
 | .sub=>⟨fun k a b=>some (.int k (qK k (abP a b)))⟩
 | .mul=>⟨fun k a b=>some (.int k (qK k (abQ a b)))⟩
 | .eql=>⟨fun _ a b=>some (.bool (UJ a b))⟩
 | .neq=>⟨fun _ a b=>some (.bool (Dc (UJ a b)))⟩
 | .lss=>⟨fun _ a b=>some (.bool (Dc (GF b a)))⟩
 | .leq=>⟨fun _ a b=>some (.bool (GF a b))⟩
 | .gtr=>⟨fun _ a b=>some (.bool (Dc (GF a b)))⟩
 | .geq=>⟨fun _ a b=>some (.bool (GF b a))⟩
 | .quo=>⟨fun k a b=>L8 (ZM k) a b⟩
 | .rem=>⟨fun k a b=>L8 (ZN k) a b⟩
 | .shl=>⟨fun k a b=>L8 (ZO k) a b⟩
 | .shr=>⟨fun k a b=>L8 (ZP k) a b⟩
 |_=>⟨fun _ _ _=>none⟩
theorem aab (op:BinOp) (k:IntKind) (a b:Int):(U0 op).f k a b=ZQ op k a b:=by cases op<;>rfl
def Bh {α:Type} (v:Value) (z:α) (k:IntKind→Int→α):α:=VI.rec (motive:=fun _=>α) z k (asInt v)
def aa9 (B:CB) (a b:Value):Option Value:=Bh a none (fun k n=>Bh b none (fun l m=>Bool.rec (motive:=fun _=>Option Value) none (B.f k n m) (L7 k l)))
theorem Xk (op:BinOp) (a b:Value):aa9 (U0 op) a b=UK op a b:=by
 cases a with
 |int k n=>
  cases b with
  |int l m=>
   show Bool.rec (motive:=fun _=>Option Value) none ((U0 op).f k n m) (L7 k l)=Bool.rec (motive:=fun _=>Option Value) none (ZQ op k n m) (L7 k l)
   rw [aab]
  |_=>rfl
 |_=>rfl
def aac (B:CB) (op:BinOp) (t:TypeId) (x y:Operand) (h:Hp) (k:Kt) (a b:Value):iE:=Option.rec (motive:=fun _=>iE) (cF (Gz P op t x y a b) (fun v=>k v h)) (fun v=>k v h) (aa9 B a b)
def aec (op:BinOp) (t:TypeId) (x y:Operand):CO:=⟨fun _ tm h k=>cF ((bI x).f tm) (fun a=>cF ((bI y).f tm) (aac P (U0 op) op t x y h k a))⟩
theorem aad (op:BinOp) (t:TypeId) (x y:Operand) (call:Call) (tm:TM) (h:Hp) (k:Kt):(aec P op t x y).f call tm h k=a_ (yx P op t x y tm h) k:=by
 show cF ((bI x).f tm) (fun a=>cF ((bI y).f tm) (aac P (U0 op) op t x y h k a))=_
 simp only [cE];unfold yx;cases aL tm x with
 |none=>rfl
 |some a=>
  cases aL tm y with
  |none=>rfl
  |some b=>
   show aac P (U0 op) op t x y h k a b=a_ (match Ol P op t x y a b with|some v=>some (v,h)|none=>none) k
   unfold aac Ol;rw [Xk];cases UK op a b with
   |none=>show cF (Gz P op t x y a b) _=a_ (match Gz P op t x y a b with|some v=>some (v,h)|none=>none) k; cases Gz P op t x y a b<;>rfl
   |some v=>rfl
def z6 (s:TypeId) (x:Operand) (f:Nat):CO:=match JR P s with
 |some (.struct fs)=>match fs.toList[f]? with
  |some fd=>match ZC P fd.type with
   |some n=>Bool.rec (motive:=fun _=>CO)
    (Bool.rec (motive:=fun _=>CO) ⟨fun _ tm h k=>cF ((bI x).f tm) (fun v=>yW v (fun a=>k (.pointer (some ⟨a.block,Nat.add a.off fd.offset,a.spot⟩)) h))⟩
     ⟨fun _ tm h k=>cF ((bI x).f tm) (fun v=>yW v (fun a=>k (.pointer (some a)) h))⟩ (Nat.beq fd.offset (nat_lit 0)))
    dead (Nat.beq n (nat_lit 0))
   |none=>dead
  |none=>dead
 |_=>dead
def fa (s:TypeId) (f:Nat) (a:Addr) (h:Hp):Option (Value×Hp):=match P.underlying s with
 |some (.struct fs)=>match fs.toList[f]? with
  |some fd=>match aV P fd.type with
   |some 0=>none
   |some _=>some (.pointer (some (dB a fd.offset)),h)
   |none=>none
  |none=>none
 |_=>none
theorem aed (s:TypeId) (x:Operand) (f:Nat) (tm:TM) (h:Hp) (k:Kt):a_ (nS P s x f tm h) k=cF (aL tm x) (fun v=>yW v (fun a=>a_ (fa P s f a h) k)):=by
 unfold nS fa;cases aL tm x with
 |none=>rfl
 |some v=>
  cases v with
  |pointer a=>
   cases a with
   |none=>rfl
   |some a=>
    show _=a_ _ k
    cases P.underlying s with
    |none=>rfl
    |some d=>cases d<;>rfl
  |_=>rfl
theorem Bi (r:Option Value):cF r (fun _=>none)=none:=by cases r<;>rfl
theorem Bj (v:Value):yW v (fun _=>none)=none:=by rw [aaa]; split<;>rfl
theorem JS (s:TypeId) (x:Operand) (f:Nat) (call:Call) (tm:TM) (h:Hp) (k:Kt):(z6 P s x f).f call tm h k=a_ (nS P s x f tm h) k:=by
 rw [aed];unfold z6 fa;simp only [gU,jI,jk,oD,jj,eu,jl];cases e1:P.underlying s with
 |none=>simp only [qb,Bj,Bi]; rfl
 |some d=>
  cases d with
  |struct fs=>
   dsimp only;cases e2:fs.toList[f]? with
   |none=>simp only [qb,Bj,Bi]; rfl
   |some fd=>
    dsimp only;cases e3:aV P fd.type with
    |none=>simp only [qb,Bj,Bi]; rfl
    |some n=>
     dsimp only;cases n with
     |zero=>simp only [qb,Bj,Bi]; rfl
     |succ n=>
      show (Bool.rec (motive:=fun _=>CO) ⟨fun _ tm h k=>cF ((bI x).f tm) (fun v=>yW v (fun a=>k (.pointer (some ⟨a.block,Nat.add a.off fd.offset,a.spot⟩)) h))⟩
       ⟨fun _ tm h k=>cF ((bI x).f tm) (fun v=>yW v (fun a=>k (.pointer (some a)) h))⟩ (Nat.beq fd.offset (nat_lit 0)):CO).f call tm h k=cF (aL tm x) (fun v=>yW v (fun a=>k (.pointer (some (dB a fd.offset))) h))
      cases e4:Nat.beq fd.offset (nat_lit 0) with
      |true=>
       have: ∀ a,dB a fd.offset=a:=fun a=>by unfold dB; rw [e4]
       simp only [this];rw [← cE]
      |false=>
       have: ∀ a,dB a fd.offset=⟨a.block,Nat.add a.off fd.offset,a.spot⟩:=fun a=>by unfold dB; rw [e4]; rfl
       simp only [this];rw [← cE]
  |_=>simp only [qb,Bj,Bi]; rfl
def nth {α:Type} (l:List α) (i:Nat):Option α:=List.rec (motive:=fun _=>Nat→Option α) (fun _=>none) (fun x _ ih i=>Nat.rec (motive:=fun _=>Option α) (some x) (fun j _=>ih j) i) l i
theorem Xl {α:Type}: ∀ (l:List α) (i:Nat),nth l i=l[i]?
 |[],i=>rfl
 |x::l,0=>rfl
 |x::l,i+1=>by show nth l i=_; rw [Xl l i]; simp
def O6 (x:Operand) (i:Nat):CO:=⟨fun _ tm h k=>cF ((bI x).f tm) (fun v=>VA.rec (motive:=fun _=>iE) none (fun l=>cF (nth l i) (fun v=>k v h)) (aa4 v))⟩
theorem O7 (x:Operand) (i:Nat) (call:Call) (tm:TM) (h:Hp) (k:Kt):(O6 x i).f call tm h k=a_ (yw x i tm h) k:=by
 show cF ((bI x).f tm) (fun v=>VA.rec (motive:=fun _=>iE) none (fun l=>cF (nth l i) (fun v=>k v h)) (aa4 v))=_
 rw [cE];unfold yw;cases aL tm x with
 |none=>rfl
 |some v=>
  cases v with
  |tuple l=>
   obtain ⟨l⟩:=l;show cF (nth l i) (fun v=>k v h)=a_ (match l[i]? with|some v=>some (v,h)|none=>none) k
   rw [Xl];cases l[i]? <;>rfl
  |_=>rfl
def RW (t:TypeId) (x:Operand):CO:=match JR P t with
 |some (.interface _)=>dead
 |some _=>⟨fun _ tm h k=>cF ((bI x).f tm) (fun v=>k (.iface t v) h)⟩
 |none=>dead
theorem U1 (t:TypeId) (x:Operand) (call:Call) (tm:TM) (h:Hp) (k:Kt):(RW P t x).f call tm h k=a_ (ji P t x tm h) k:=by
 unfold RW ji;simp only [gU,jI,jk,oD,jj,eu,jl];cases P.underlying t with
 |none=>cases aL tm x<;>rfl
 |some d=>
  cases d with
  |interface _=>cases aL tm x<;>rfl
  |_=>
   show cF ((bI x).f tm) (fun v=>k (.iface t v) h)=_
   rw [cE];cases aL tm x<;>rfl
end
end Go.Sim
namespace Go.Sim
noncomputable section
variable (P:Program) (G:Nat→Option (List Value))
def cl (v:Value):List Value:=VA.rec (motive:=fun _=>List Value) [v] (fun l=>l) (asAgg v)
theorem aa_ (v:Value):cl v=bC v:=by
 cases v with
 |agg l=>cases l; rfl
 |_=>rfl
structure CP where
 f:TM→Option (List (Nat×List Value))
def Xm (off n:Nat) (v:Option Value) (r:Option (List (Nat×List Value))):Option (List (Nat×List Value)):=Option.rec (motive:=fun _=>Option (List (Nat×List Value))) none (fun v=>
 Option.rec (motive:=fun _=>Option (List (Nat×List Value))) none (fun r=>Bool.rec (motive:=fun _=>Option (List (Nat×List Value))) none (some ((off,cl v)::r)) (Nat.beq (FC (cl v)) n)) r) v
def Hh (fs:List Field) (l:List (Nat×Operand)):CP:=List.rec (motive:=fun _=>CP) ⟨fun _=>some []⟩ (fun p _ ih=>match fs[p.1]? with
 |some f=>match ZC P f.type with
  |some n=>⟨fun tm=>Xm f.offset n ((bI p.2).f tm) (ih.f tm)⟩
  |none=>⟨fun _=>none⟩
 |none=>⟨fun _=>none⟩) l
theorem KM (fs:List Field) (tm:TM): ∀ (l:List (Nat×Operand)),(Hh P fs l).f tm=bH P tm fs l
 |[]=>rfl
 |(i,x)::l=>by
  show (match fs[i]? with
   |some f=>match ZC P f.type with
    |some n=>⟨fun tm=>Xm f.offset n ((bI x).f tm) ((Hh P fs l).f tm)⟩
    |none=>⟨fun _=>none⟩
   |none=>⟨fun _=>none⟩:CP).f tm=_
  simp only [bH,jI];cases fs[i]? with
  |none=>rfl
  |some f=>
   dsimp only;cases hs:aV P f.type with
   |none=>
    cases aL tm x with
    |none=>rfl
    |some v=>
     cases bH P tm fs l with
     |none=>rfl
     |some r=>dsimp only; rw [hs]
   |some n=>
    show Xm f.offset n ((bI x).f tm) ((Hh P fs l).f tm)=_
    rw [cE,KM fs tm l];cases aL tm x with
    |none=>rfl
    |some v=>
     cases bH P tm fs l with
     |none=>rfl
     |some r=>
      dsimp only;rw [hs];show Bool.rec (motive:=fun _=>Option (List (Nat×List Value))) none (some ((f.offset,cl v)::r)) (Nat.beq (FC (cl v)) n)=(match Nat.beq (bC v).length n with
       |true=>some ((f.offset,bC v)::r)
       |false=>none)
      rw [uD,aa_];cases Nat.beq (bC v).length n<;>rfl
def Xn (cs l:List Value):List Value:=List.rec (motive:=fun _=>List Value→List Value) (fun cs=>cs) (fun v _ ih cs=>List.rec (motive:=fun _=>List Value) [] (fun _ cs' _=>v::ih cs') cs) l cs
theorem O8: ∀ (l cs:List Value),Xn cs l=AU cs l
 |[],cs=>by cases cs<;>rfl
 |v::l,[]=>rfl
 |v::l,c::cs=>by show v::Xn cs l=v::AU cs l; rw [O8 l cs]
def MA (l:List Value) (k:Nat) (cs:List Value):List Value:=Nat.rec (motive:=fun _=>List Value→List Value) (fun cs=>Xn cs l) (fun _ ih cs=>List.rec (motive:=fun _=>List Value) [] (fun c cs' _=>c::ih cs') cs) k cs
theorem KN (l:List Value): ∀ (k:Nat) (cs:List Value),MA l k cs=putAt l k cs
 |0,cs=>O8 l cs
 |k+1,[]=>rfl
 |k+1,c::cs=>by show c::MA l k cs=c::putAt l k cs; rw [KN l k cs]
def O9 (ps:List (Nat×List Value)) (cs:List Value):Option (List Value):=List.rec (motive:=fun _=>List Value→Option (List Value)) (fun cs=>some cs) (fun p _ ih cs=>
 Prod.rec (motive:=fun _=>Option (List Value)) (fun off l=>Bool.rec (motive:=fun _=>Option (List Value)) none (ih (MA l off cs)) (Nat.ble (Nat.add off (FC l)) (FC cs))) p) ps cs
theorem O_: ∀ (ps:List (Nat×List Value)) (cs:List Value),O9 ps cs=jT ps cs
 |[],cs=>rfl
 |(off,l)::ps,cs=>by
  show Bool.rec (motive:=fun _=>Option (List Value)) none (O9 ps (MA l off cs)) (Nat.ble (Nat.add off (FC l)) (FC cs))=_
  simp only [jT];rw [uD,uD,O_ ps,KN];show _=(match Nat.ble (Nat.add off l.length) cs.length with
   |false=>none
   |true=>jT ps (putAt l off cs))
  cases Nat.ble (Nat.add off l.length) cs.length<;>rfl
def aba (r:Option (List (Nat×List Value))) (k:List (Nat×List Value)→iE):iE:=Option.rec (motive:=fun _=>iE) none k r
def RX (t:TypeId) (parts:Array (Nat×Operand)):CO:=match zcF P t with
 |some z=>match JR P t with
  |some (.struct fs)=>match My P fs.toList with
   |true=>⟨fun _ tm h k=>aba ((Hh P fs.toList parts.toList).f tm) (fun ps=>wv (O9 ps z) (fun l=>k (.agg ⟨l⟩) h))⟩
   |false=>dead
  |_=>⟨fun _ tm h k=>a_ (yu P t parts tm h) k⟩
 |none=>⟨fun _ tm h k=>a_ (yu P t parts tm h) k⟩
theorem U2 (t:TypeId) (parts:Array (Nat×Operand)) (call:Call) (tm:TM) (h:Hp) (k:Kt):(RX P t parts).f call tm h k=a_ (yu P t parts tm h) k:=by
 unfold RX;simp only [gU,jI,jk,oD,jj,eu,jl];cases e1:zeroCells P t with
 |none=>rfl
 |some z=>
  dsimp only;cases e2:P.underlying t with
  |none=>rfl
  |some d=>
   cases d with
   |struct fs=>
    dsimp only;unfold yu;rw [e1,e2];cases e3:fO P fs.toList with
    |false=>
     show none=a_ (match fO P fs.toList,bH P tm fs.toList parts.toList with
      |true,some ps=>match jT ps z with
       |some l=>some (.agg ⟨l⟩,h)
       |none=>none
      |_,_=>none) k
     rw [e3];cases bH P tm fs.toList parts.toList<;>rfl
    |true=>
     show aba ((Hh P fs.toList parts.toList).f tm) (fun ps=>wv (O9 ps z) (fun l=>k (.agg ⟨l⟩) h))=a_ (match fO P fs.toList,bH P tm fs.toList parts.toList with
      |true,some ps=>match jT ps z with
       |some l=>some (.agg ⟨l⟩,h)
       |none=>none
      |_,_=>none) k
     rw [e3,KM];cases bH P tm fs.toList parts.toList with
     |none=>rfl
     |some ps=>
      show wv (O9 ps z) (fun l=>k (.agg ⟨l⟩) h)=a_ (match jT ps z with
       |some l=>some (.agg ⟨l⟩,h)
       |none=>none) k
      rw [O_];cases jT ps z<;>rfl
   |_=>rfl
def stR (l:List Value) (k size:Nat) (cs:Tr Value):Option (Tr Value):=List.rec (motive:=fun _=>Nat→Tr Value→Option (Tr Value)) (fun _ cs=>some cs) (fun v _ ih k cs=>
 Bool.rec (motive:=fun _=>Option (Tr Value)) none (Bool.rec (motive:=fun _=>Option (Tr Value)) none (ih (Nat.succ k) (UX cs k v)) (Xe v)) (Nat.ble (Nat.succ k) size)) l k cs
theorem Xo (size:Nat): ∀ (l:List Value) (k:Nat) (cs:Tr Value),stR l k size cs=dV l k size cs
 |[],_,_=>rfl
 |v::l,k,cs=>by
  show Bool.rec (motive:=fun _=>Option (Tr Value)) none (Bool.rec (motive:=fun _=>Option (Tr Value)) none (stR l (k+1) size (UX cs k v)) (Xe v)) (Nat.ble (Nat.succ k) size)=_
  rw [oQ,TH,Mw,Xo size l];show _=(match Nat.ble (Nat.succ k) size,dU v with
   |true,true=>dV l (k+1) size (cs.set k v)
   |_,_=>none)
  cases Nat.ble (Nat.succ k) size<;>cases dU v<;>rfl
def ab8 (r:Option (Tr Value)) (k:Tr Value→iE):iE:=Option.rec (motive:=fun _=>iE) none k r
def Xp (i off:Nat) (l:List Value) (h:Hp) (k:Kt) (o:VO):iE:=VO.rec (motive:=fun _=>iE) none (fun size ty cs=>ab8 (stR l off size cs) (fun cs'=>Hp.rec (motive:=fun _=>iE) (fun n bs=>k undef ⟨n,OY bs i (.cells size ty cs')⟩) h)) o
def agI (a:Addr) (l:List Value) (h:Hp) (k:Kt):iE:=Addr.rec (motive:=fun _=>iE) (fun b off _=>Bool.rec (motive:=fun _=>iE) none (Xp (Nat.div b (nat_lit 2)) off l h k (rowOf h (Nat.div b (nat_lit 2)))) (Nat.beq (Nat.mod b (nat_lit 2)) (nat_lit 0))) a
def stA (n:Nat) (a:Addr) (v:Value) (h:Hp) (k:Kt):iE:=Bool.rec (motive:=fun _=>iE) none (agI a (cl v) h k) (Nat.beq (FC (cl v)) n)
theorem ab9 (t:TypeId) (n:Nat) (hn:aV P t=some n) (a:Addr) (v:Value) (h:Hp) (k:Kt):stA n a v h k=a_ (g_ P t a v h) k:=by
 obtain ⟨b,off,sp⟩:=a;unfold stA g_ st;rw [uD,aa_];show Bool.rec (motive:=fun _=>iE) none (Bool.rec (motive:=fun _=>iE) none (Xp (Nat.div b 2) off (bC v) h k (rowOf h (Nat.div b 2))) (Nat.beq (Nat.mod b 2) 0)) (Nat.beq (bC v).length n)=_
 unfold bk;cases e1:Nat.beq (Nat.mod b 2) 0 with
 |false=>cases Nat.beq (bC v).length n<;>rfl
 |true=>
  show Bool.rec (motive:=fun _=>iE) none (Xp (Nat.div b 2) off (bC v) h k (Gj (abY h.bs (Nat.div b 2)))) (Nat.beq (bC v).length n)=_
  rw [TE];dsimp only;cases h.bs.get (Nat.div b 2) with
  |none=>cases Nat.beq (bC v).length n<;>rfl
  |some o=>
   cases o with
   |cells size ty cs=>
    rw [hn];show Bool.rec (motive:=fun _=>iE) none (ab8 (stR (bC v) off size cs) (fun cs'=>k undef ⟨h.next,OY h.bs (Nat.div b 2) (.cells size ty cs')⟩)) (Nat.beq (bC v).length n)=a_ (match (match Nat.beq (bC v).length n with
     |false=>none
     |true=>match dV (bC v) off size cs with
      |none=>none
      |some cs'=>some {h with bs:=h.bs.set (Nat.div b 2) (.cells size ty cs')}:Option Hp) with
     |some h=>some (undef,h)
     |none=>none) k
    cases Nat.beq (bC v).length n with
    |false=>rfl
    |true=>
     show ab8 (stR (bC v) off size cs) (fun cs'=>k undef ⟨h.next,OY h.bs (Nat.div b 2) (.cells size ty cs')⟩)=a_ (match (match dV (bC v) off size cs with
      |none=>none
      |some cs'=>some {h with bs:=h.bs.set (Nat.div b 2) (.cells size ty cs')}:Option Hp) with
      |some h=>some (undef,h)
      |none=>none) k
     rw [Xo];simp only [Mu];cases dV (bC v) off size cs<;>rfl
   |map es=>cases Nat.beq (bC v).length n<;>rfl
   |dead=>cases Nat.beq (bC v).length n<;>rfl
   |loop=>cases Nat.beq (bC v).length n<;>rfl
def MB (t:TypeId) (x y:Operand):CO:=match ZC P t with
 |some n=>Bool.rec (motive:=fun _=>CO) ⟨fun _ tm h k=>cF ((bI x).f tm) (fun p=>yW p (fun a=>cF ((bI y).f tm) (fun v=>stA n a v h k)))⟩ (Mz P t x y) (Nat.beq n (nat_lit 1))
 |none=>Mz P t x y
theorem RY (t:TypeId) (x y:Operand) (call:Call) (tm:TM) (h:Hp) (k:Kt):(MB P t x y).f call tm h k=a_ (oR P t x y tm h) k:=by
 unfold MB;simp only [gU,jI,jk,oD,jj,eu,jl];cases e:aV P t with
 |none=>exact KL P t x y call tm h k
 |some n=>
  dsimp only;cases e1:Nat.beq n (nat_lit 1) with
  |true=>exact KL P t x y call tm h k
  |false=>
   show cF ((bI x).f tm) (fun p=>yW p (fun a=>cF ((bI y).f tm) (fun v=>stA n a v h k)))=_
   simp only [cE,ab9 P t n e];unfold oR WS sz1;rw [e];dsimp only;rw [e1];cases aL tm x with
   |none=>rfl
   |some p=>
    cases p with
    |pointer a=>
     cases a with
     |none=>rfl
     |some a=>cases aL tm y<;>rfl
    |_=>rfl
def cUn (op:UnOp) (x:Operand):CO:=match op with
 | .not=>⟨fun _ tm h k=>cF ((bI x).f tm) (fun v=>VB.rec (motive:=fun _=>iE) (a_ (RG P .not v h) k) (fun q=>k (.bool (Dc q)) h) (asBool v))⟩
 | .neg=>⟨fun _ tm h k=>cF ((bI x).f tm) (fun v=>Bh v (a_ (RG P .neg v h) k) (fun i n=>k (.int i (qK i (JF n))) h))⟩
 |op=>⟨fun _ tm h k=>a_ (wJ P op x tm h) k⟩
theorem ab_ (op:UnOp) (x:Operand) (call:Call) (tm:TM) (h:Hp) (k:Kt):(cUn P op x).f call tm h k=a_ (wJ P op x tm h) k:=by
 cases op with
 |not=>
  show cF ((bI x).f tm) (fun v=>VB.rec (motive:=fun _=>iE) (a_ (RG P .not v h) k) (fun q=>k (.bool (Dc q)) h) (asBool v))=_
  rw [cE];unfold wJ;cases aL tm x with
  |none=>rfl
  |some v=>cases v<;>rfl
 |neg=>
  show cF ((bI x).f tm) (fun v=>Bh v (a_ (RG P .neg v h) k) (fun i n=>k (.int i (qK i (JF n))) h))=_
  rw [cE];unfold wJ;cases aL tm x with
  |none=>rfl
  |some v=>cases v<;>rfl
 |_=>rfl
end
end Go.Sim
namespace Go.Sim
noncomputable section
structure cZ where
 i:Nat
 o:Oper
 cls:Nat
 mask:Nat
 looks:List Nat
structure Rc where
 inf:cZ
 sub:TM
 go:Bool
 v:Value
 id:Nat
def tmpsOf:List Operand→List Nat
 |[]=>[]
 | .tmp t::l=>t::tmpsOf l
 |_::l=>tmpsOf l
def ey (ops:List Oper):Option (Nat×Bool)→List Nat
 |none=>[]
 |some (j,_)=>match ops[j]? with
  |some o=>match o.dst with
   |some d=>[d]
   |none=>[]
  |none=>[]
def bF:List Edge→List Nat
 |[]=>[]
 |e::l=>match Region.binds .any e with
  |true=>e.on::bF l
  |false=>bF l
def z7 (acc:List Nat):List Nat→Nat
 |[]=>0
 |p::l=>(1 <<< p) ||| ((acc.getD p 0) ||| z7 acc l)
def jJ:List Oper→List Nat→List Nat
 |[],acc=>acc
 |o::l,acc=>jJ l (acc++[z7 acc (bF o.after.toList)])
def sB (tm:TM):List Nat→TM→TM
 |[],acc=>acc
 |t::l,acc=>match tm.get t with
  |some v=>sB tm l (acc.set t v)
  |none=>sB tm l acc
section
variable (P:Program) (G:Nat→Option (List Value))
def nX (o:Op):Nat:=match lC P o with
 |true=>0
 |false=>match su o with
  |true=>1
  |false=>2
def KO (ops:List Oper) (ms:List Nat):Nat→List Oper→List cZ
 |_,[]=>[]
 |i,o::l=>⟨i,o,nX P o.op,ms.getD i 0,tmpsOf o.op.operands.toList++ey ops o.guard⟩::KO ops ms (i+1) l
def bl (ops:List Oper):List cZ:=KO P ops (jJ ops []) 0 ops
def qH (mask:Nat):List cZ→Nat
 |[]=>0
 |f::l=>match mask.testBit f.i with
  |true=>qH mask l+1
  |false=>qH mask l
def dz:List cZ→List cZ
 |[]=>[]
 |f::l=>match Nat.beq f.cls 2 with
  |true=>f::dz l
  |false=>dz l
def ia (ws:List cZ) (s:Nat):List cZ→List cZ
 |[]=>[]
 |f::l=>match Nat.beq f.cls 2,Nat.beq (qH f.mask ws) s with
  |false,true=>f::ia ws s l
  |_,_=>ia ws s l
def dg (ops:List Oper) (nt:Nat):List cZ→TM→Hp→Option (TM×Hp×List Rc)
 |[],tm,h=>some (tm,h,[])
 |f::l,tm,h=>
  let sub:=sB tm f.looks .e
  match c8 ops sub f.o.guard with
  |some true=>match UM P G f.o.op sub h with
   |some (v,h')=>match mC tm f.o.dst nt v with
    |some dc=>match dg ops nt l dc (match Nat.beq f.cls 1 with
      |true=>h'
      |false=>h) with
     |some (nu,h2,rs)=>some (nu,h2,⟨f,sub,true,v,h.next⟩::rs)
     |none=>none
    |none=>none
   |none=>none
  |some false=>match mC tm f.o.dst nt undef with
   |some dc=>match dg ops nt l dc h with
    |some (nu,h2,rs)=>some (nu,h2,⟨f,sub,false,undef,h.next⟩::rs)
    |none=>none
   |none=>none
  |none=>none
def jZ (E:FuncId→List Value→Option Value) (call:Call) (ops:List Oper) (nt:Nat) (all oV:List cZ):List cZ→Nat→TM→Hp→Option (TM×List Hp×List Rc)
 |[],s,tm,h=>match dg P G ops nt (ia oV s all) tm h with
  |some (tm,h,rs)=>some (tm,[h],rs)
  |none=>none
 |f::ws,s,tm,h=>match dg P G ops nt (ia oV s all) tm h with
  |none=>none
  |some (tm,h1,rs)=>
   let sub:=sB tm f.looks .e
   match c8 ops sub f.o.guard with
   |some true=>match nT P G E call f.o.op sub h1 with
    |some (v,h2)=>match mC tm f.o.dst nt v with
     |some dc=>match jZ E call ops nt all oV ws (s+1) dc h2 with
      |some (nu,hs,EB)=>some (nu,h1::hs,rs++⟨f,sub,true,v,0⟩::EB)
      |none=>none
     |none=>none
    |none=>none
   |some false=>match mC tm f.o.dst nt undef with
    |some dc=>match jZ E call ops nt all oV ws (s+1) dc h1 with
     |some (nu,hs,EB)=>some (nu,h1::hs,rs++⟨f,sub,false,undef,0⟩::EB)
     |none=>none
    |none=>none
   |none=>none
mutual
def Bl:Value→Value→Bool
 | .bool a, .bool b=>a==b
 | .int k a, .int k' b=>decide (k=k')&&decide (a=b)
 | .float k a, .float k' b=>decide (k=k')&&Nat.beq a b
 | .string a, .string b=>uk a.data.toList b.data.toList
 | .pointer a, .pointer b=>decide (a=b)
 | .slice a n c, .slice b n' c'=>decide (a=b)&&(Nat.beq n n'&&Nat.beq c c')
 | .map a, .map b=>decide (a=b)
 | .func f ⟨a⟩ ⟨c⟩, .func g ⟨b⟩ ⟨d⟩=>decide (f=g)&&(MC a b&&MC c d)
 | .nilFunc, .nilFunc=>true
 | .iface t v, .iface u w=>Nat.beq t u&&Bl v w
 | .nilIface, .nilIface=>true
 | .agg ⟨a⟩, .agg ⟨b⟩=>MC a b
 | .tuple ⟨a⟩, .tuple ⟨b⟩=>MC a b
 |_,_=>false
def MC:List Value→List Value→Bool
 |[],[]=>true
 |v::a,w::b=>Bl v w&&MC a b
 |_,_=>false
end
def tg (a b:TM):List Nat→Bool
 |[]=>true
 |t::l=>match a.get t,b.get t with
  |some v,some u=>match Bl v u with
   |true=>tg a b l
   |false=>false
  |none,_=>tg a b l
  |_,_=>false
def abb (tm:TM) (dst:Option Nat) (v:Value):Bool:=match dst with
 |none=>true
 |some d=>match tm.get d with
  |some u=>Bl v u
  |none=>false
def Rd (r:Rc) (h:Hp):Bool:=match UM P G r.inf.o.op r.sub h with
 |some (v,_)=>Bl v r.v
 |none=>false
def Nm (r:Rc) (lo hi:Nat):Nat→List Hp→Bool
 |_,[]=>true
 |s,h::hs=>match Nat.ble lo s,Nat.ble s hi with
  |true,true=>match Rd P G r h with
   |true=>Nm r lo hi (s+1) hs
   |false=>false
  |_,_=>Nm r lo hi (s+1) hs
def qN (i:Nat):List cZ→Nat
 |[]=>0
 |f::l=>match f.mask.testBit i with
  |true=>qN i l
  |false=>qN i l+1
def Xq (ws:List cZ) (hs:List Hp) (tm:TM) (r:Rc):Bool:=
 tg r.sub tm r.inf.looks&&(abb tm r.inf.o.dst r.v&&(match Nat.beq r.inf.cls 0,r.go with
  |true,true=>Nm P G r (qH r.inf.mask ws) (qN r.inf.i ws) 0 hs
  |_,_=>true))
def TK (ws:List cZ) (hs:List Hp) (tm:TM):List Rc→Bool
 |[]=>true
 |r::l=>match Xq P G ws hs tm r with
  |true=>TK ws hs tm l
  |false=>false
def pS (mask:Nat) (looks:List Nat):List cZ→Bool
 |[]=>true
 |f::l=>match f.o.dst with
  |none=>pS mask looks l
  |some d=>match looks.contains d with
   |false=>pS mask looks l
   |true=>match mask.testBit f.i with
    |true=>pS mask looks l
    |false=>false
def sC:List cZ→Bool
 |[]=>true
 |f::l=>match l with
  |[]=>true
  |g::_=>match g.mask.testBit f.i with
   |true=>sC l
   |false=>false
def Bm (n:Nat):List Nat→Bool
 |[]=>true
 |p::l=>match Nat.blt p n with
  |true=>Bm n l
  |false=>false
def th (all:List cZ) (f:cZ):Bool:=Bm f.i (bF f.o.after.toList)&&pS f.mask f.looks all
def eO (all:List cZ):List cZ→Bool
 |[]=>true
 |f::l=>match th all f with
  |true=>eO all l
  |false=>false
def Bn:List Hp→Option Hp
 |[]=>none
 |[h]=>some h
 |_::l=>Bn l
def drawn (E:FuncId→List Value→Option Value) (call:Call) (ops:Array Oper) (nt:Nat) (tm:TM) (h:Hp):Option (TM×Hp):=
 let all:=bl P ops.toList
 let ws:=dz all
 match eO all all,sC ws with
 |true,true=>match jZ P G E call ops.toList nt all ws ws 0 tm h with
  |none=>none
  |some (nu,hs,rs)=>match TK P G ws hs nu rs,Bn hs with
   |true,some h2=>some (nu,h2)
   |_,_=>none
 |_,_=>none
end
end
end Go.Sim
namespace Go.Sim
noncomputable section
variable (P:Program) (G:Nat→Option (List Value))
def uE (v:Value) (k:Addr→Nat→iE):iE:=VS.rec (motive:=fun _=>iE) none (fun a n _=>Option.rec (motive:=fun _=>iE) none (fun a=>k a n) a) (asSlice v)
def z8 (t:TypeId) (x i:Operand):CO:=match JR P t with
 |some (.slice e)=>match ZC P e with
  |some size=>⟨fun _ tm h k=>cF ((bI x).f tm) (fun v=>uE v (fun a n=>cF ((bI i).f tm) (fun j=>abX (asNat j) (fun j=>
    Bool.rec (motive:=fun _=>iE) none (k (.pointer (some ⟨a.block,Nat.add a.off (Nat.mul j size),none⟩)) h) (Nat.ble (Nat.succ j) n)))))⟩
  |none=>dead
 |_=>⟨fun _ tm h k=>a_ (jU P t x i tm h) k⟩
theorem JT (t:TypeId) (x i:Operand) (call:Call) (tm:TM) (h:Hp) (k:Kt):(z8 P t x i).f call tm h k=a_ (jU P t x i tm h) k:=by
 unfold z8;simp only [gU,jI,jk,oD,jj,eu,jl];cases e1:P.underlying t with
 |none=>rfl
 |some d=>
  cases d with
  |slice e=>
   dsimp only;have OA: ∀ (a:Addr) (m:Nat),dB {a with spot:=none} m=⟨a.block,Nat.add a.off m,none⟩:=by
    intro a m;unfold dB;cases hm:Nat.beq m 0 with
    |true=>rw [show m=0 from br hm]; rfl
    |false=>rfl
   cases e2:aV P e with
   |none=>
    show none=_
    unfold jU;rw [e1];cases aL tm x with
    |none=>rfl
    |some v=>
     cases v with
     |slice a n c=>
      cases a with
      |none=>cases aL tm i<;>rfl
      |some a=>
       cases aL tm i with
       |none=>rfl
       |some j=>dsimp only; rw [e2]; cases cm j<;>rfl
     |pointer a=>cases a<;>cases aL tm i<;>rfl
     |_=>cases aL tm i<;>rfl
   |some size=>
    show cF ((bI x).f tm) (fun v=>uE v (fun a n=>cF ((bI i).f tm) (fun j=>abX (asNat j) (fun j=>
     Bool.rec (motive:=fun _=>iE) none (k (.pointer (some ⟨a.block,Nat.add a.off (Nat.mul j size),none⟩)) h) (Nat.ble (Nat.succ j) n)))))=_
    simp only [cE,Xd];unfold jU;rw [e1];cases aL tm x with
    |none=>rfl
    |some v=>
     cases v with
     |slice a n c=>
      cases a with
      |none=>cases aL tm i<;>rfl
      |some a=>
       cases aL tm i with
       |none=>rfl
       |some j=>
        dsimp only;rw [e2];show abX (cm j) (fun j=>Bool.rec (motive:=fun _=>iE) none (k (.pointer (some ⟨a.block,Nat.add a.off (Nat.mul j size),none⟩)) h) (Nat.ble (Nat.succ j) n))=_
        cases cm j with
        |none=>rfl
        |some j=>
         show Bool.rec (motive:=fun _=>iE) none (k (.pointer (some ⟨a.block,Nat.add a.off (Nat.mul j size),none⟩)) h) (Nat.ble (Nat.succ j) n)=a_ (match Nat.blt j n with
          |true=>some (.pointer (some (dB {a with spot:=none} (j*size))),h)
          |false=>none) k
         rw [OA];show _=a_ (match Nat.ble (Nat.succ j) n with
          |true=>some (.pointer (some ⟨a.block,Nat.add a.off (Nat.mul j size),none⟩),h)
          |false=>none) k
         cases Nat.ble (Nat.succ j) n<;>rfl
     |pointer a=>cases a<;>cases aL tm i<;>rfl
     |_=>cases aL tm i<;>rfl
  |_=>rfl
def agJ (x:Operand) (t:TypeId) (d:Option TypeDesc):Option CO:=match d with
 |some (.slice _)=>some ⟨fun _ tm h k=>cF ((bI x).f tm) (fun v=>VS.rec (motive:=fun _=>iE) none (fun _ n _=>k (.int .i64 (.ofNat n)) h) (asSlice v))⟩
 |_=>none
def cMM (b:Builtin) (least:Bool) (x y:Operand) (ts:List TypeId):CO:=⟨fun _ tm h k=>cF ((bI x).f tm) (fun a=>cF ((bI y).f tm) (fun c=>
 Bh a (a_ (dZ P G b [a,c] ts h) k) (fun i n=>Bh c (a_ (dZ P G b [a,c] ts h) k) (fun _ m=>k (Zy (Bool.rec (motive:=fun _=>Bool) (GF m n) (GF n m) least) i n m) h))))⟩
theorem Xr (b:Builtin) (least:Bool) (hb:(b= .min∧least=true)∨(b= .max∧least=false)) (x y:Operand) (ts:List TypeId) (call:Call) (tm:TM) (h:Hp) (k:Kt):
  (cMM P G b least x y ts).f call tm h k=wv (cO tm [x,y]) (fun l=>a_ (dZ P G b l ts h) k):=by
 show cF ((bI x).f tm) (fun a=>cF ((bI y).f tm) (fun c=>
  Bh a (a_ (dZ P G b [a,c] ts h) k) (fun i n=>Bh c (a_ (dZ P G b [a,c] ts h) k) (fun _ m=>k (Zy (Bool.rec (motive:=fun _=>Bool) (GF m n) (GF n m) least) i n m) h))))=_
 simp only [cE];rw [jF,jF,C8];cases aL tm x with
 |none=>rfl
 |some a=>
  cases aL tm y with
  |none=>rfl
  |some c=>
   show Bh a _ _=a_ (dZ P G b [a,c] ts h) k
   rcases hb with ⟨rfl,rfl⟩|⟨rfl,rfl⟩
   ·cases a with
    |int i n=>cases c<;>rfl
    |_=>rfl
   ·cases a with
    |int i n=>cases c<;>rfl
    |_=>rfl
def Dq (b:Builtin) (l:CVs) (ts:List TypeId):CO:=match b with
 | .append=>⟨fun _ tm h k=>wv (l.f tm) (fun l=>a_ (Ot P G l ts h) k)⟩
 | .min=>⟨fun _ tm h k=>wv (l.f tm) (fun l=>a_ (Tt P l h) k)⟩
 | .max=>⟨fun _ tm h k=>wv (l.f tm) (fun l=>a_ (Tu P l h) k)⟩
 |b=>⟨fun _ tm h k=>wv (l.f tm) (fun l=>a_ (dZ P G b l ts h) k)⟩
theorem MD (b:Builtin) (l:CVs) (ts:List TypeId) (call:Call) (tm:TM) (h:Hp) (k:Kt):(Dq P G b l ts).f call tm h k=wv (l.f tm) (fun l=>a_ (dZ P G b l ts h) k):=by cases b<;>rfl
def lenOf (b:Builtin) (args:List Operand) (ts:List TypeId):Option CO:=match b with
 | .len=>match args with
  |[x]=>match ts with
   |t::_=>agJ x t (JR P t)
   |[]=>none
  |_=>none
 | .min=>match args with
  |[x,y]=>some (cMM P G .min true x y ts)
  |_=>none
 | .max=>match args with
  |[x,y]=>some (cMM P G .max false x y ts)
  |_=>none
 |_=>none
theorem Xs {b:Builtin} {args:List Operand} {ts:List TypeId} {c:CO} (e:lenOf P G b args ts=some c) (call:Call) (tm:TM) (h:Hp) (k:Kt):c.f call tm h k=wv (cO tm args) (fun l=>a_ (dZ P G b l ts h) k):=by
 cases b with
 |len=>
  unfold lenOf at e;simp only [gU] at e;split at e
  ·rename_i x
   split at e
   ·rename_i t ts
    cases hd:P.underlying t with
    |none=>rw [hd] at e; cases e
    |some d=>
     rw [hd] at e;cases d with
     |slice el=>
      cases e;show cF ((bI x).f tm) _=_
      rw [cE,jF,C8];cases aL tm x with
      |none=>rfl
      |some v=>
       show VS.rec (motive:=fun _=>iE) none (fun _ n _=>k (.int .i64 (.ofNat n)) h) (asSlice v)=a_ (WT P [v] (t::ts) h) k
       unfold WT;dsimp only;rw [hd];cases v<;>rfl
     |_=>cases e
   ·cases e
  ·cases e
 |min=>
  unfold lenOf at e;dsimp only at e;split at e
  ·cases e; exact Xr P G .min true (.inl ⟨rfl,rfl⟩) ..
  ·cases e
 |max=>
  unfold lenOf at e;dsimp only at e;split at e
  ·cases e; exact Xr P G .max false (.inr ⟨rfl,rfl⟩) ..
  ·cases e
 |_=>cases e
def Bo (b:Builtin) (args:List Operand) (ts:List TypeId):CO:=match lenOf P G b args ts with
 |some c=>c
 |none=>Dq P G b (wT args) ts
theorem Pb (b:Builtin) (args:Array Operand) (ts:Array TypeId) (call:Call) (tm:TM) (h:Hp) (k:Kt):(Bo P G b args.toList ts.toList).f call tm h k=a_ (gG P G b args ts tm h) k:=by
 have e2:a_ (gG P G b args ts tm h) k=wv (cO tm args.toList) (fun l=>a_ (dZ P G b l ts.toList h) k):=by
  unfold gG;cases cO tm args.toList<;>rfl
 rw [e2];unfold Bo;cases e:lenOf P G b args.toList ts.toList with
 |none=>show (Dq P G b (wT args.toList) ts.toList).f call tm h k=_; rw [MD,yA]
 |some c=>exact Xs P G e call tm h k
variable (E:FuncId→List Value→Option Value)
def cFn (g:FuncId) (args:List Operand) (c:Go.Call):CO:=match Xf P g with
 |some fn=>match fn.body with
  |some _=>⟨fun call tm h k=>wv ((wT args).f tm) (fun l=>a_ (call (.fn g) l h) k)⟩
  |none=>Xh P G E (.call c)
 |none=>Xh P G E (.call c)
theorem acd (g:FuncId) (args:Array Operand) (ts:Array TypeId) (call:Call) (tm:TM) (h:Hp) (k:Kt):
  (cFn P G E g args.toList ⟨.value (.func g),args,ts⟩).f call tm h k=a_ (nT P G E call (.call ⟨.value (.func g),args,ts⟩) tm h) k:=by
 unfold cFn;simp only [gU,jI,jk,oD,jj,eu,jl];cases hf:P.funcs[g]? with
 |none=>rfl
 |some fn=>
  dsimp only;cases hb:fn.body with
  |none=>rfl
  |some c=>
   show wv ((wT args.toList).f tm) (fun l=>a_ (call (.fn g) l h) k)=a_ (A1 P E call (some (.func (.func g) #[] #[])) (cO tm args.toList) h) k
   rw [yA];unfold A1;cases cO tm args.toList with
   |none=>rfl
   |some l=>
    dsimp only;have ht:target (.func (.func g) #[] #[]) l=some (.fn g,l):=by show some (Tg.fn g,[]++l++[])=_; simp
    rw [ht];dsimp only;rw [hf];dsimp only;rw [hb];rfl
def KP (b:Builtin) (args:Array Operand) (ts:Array TypeId):CO:=match b with
 | .clear=>Xh P G E (.call ⟨.builtin .clear,args,ts⟩)
 |b=>Bo P G b args.toList ts.toList
theorem ME (b:Builtin) (args:Array Operand) (ts:Array TypeId) (call:Call) (tm:TM) (h:Hp) (k:Kt):(KP P G E b args ts).f call tm h k=a_ (nT P G E call (.call ⟨.builtin b,args,ts⟩) tm h) k:=by
 have main:b≠ .clear→(Bo P G b args.toList ts.toList).f call tm h k=a_ (jG P G b args ts tm h) k:=by
  intro hb;rw [Pb];unfold jG;have:oI P (.call ⟨.builtin b,args,ts⟩) tm h=none:=by cases b<;>first|rfl|exact absurd rfl hb
  rw [this];cases gG P G b args ts tm h<;>rfl
 cases b with
 |clear=>rfl
 |_=>exact main (by intro hh; cases hh)
inductive VF where
 |no
 |at (g:Nat) (first captured:List Value)
 |vM (r:Nat)
def fnV (g:Fn) (a c:List Value):VF:=match g with
 | .func g=> .at g a c
 | .yield r=>List.rec (motive:=fun _=>VF) (List.rec (motive:=fun _=>VF) (.vM r) (fun _ _ _=> .no) c) (fun _ _ _=> .no) a
 |_=> .no
def ace (v:Value):VF:=Value.rec (motive_1:=fun _=>VF) (motive_2:=fun _=>VF) (motive_3:=fun _=>VF) (fun _=> .no) (fun _ _=> .no) (fun _ _=> .no) (fun _ _ _=> .no) (fun _=> .no) (fun _=> .no) (fun _ _ _=> .no) (fun _=> .no) (fun _=> .no) (fun g a c _ _=>fnV g a.toList c.toList) .no (fun _ _ _=> .no) .no (fun _ _=> .no) (fun _ _=> .no) (fun _ _=> .no) .no (fun _ _ _ _=> .no) v
def JU (a b:List Value):List Value:=List.rec (motive:=fun _=>List Value) b (fun x _ ih=>x::ih) a
theorem MF: ∀ a b:List Value,JU a b=a++b
 |[],b=>rfl
 |x::a,b=>by show x::JU a b=_; rw [MF a b]; rfl
structure CG where
 f:Call→List Value→Hp→Kt→iE
def cG (g:FuncId):CG:=match Xf P g with
 |some fn=>match fn.body with
  |some _=>⟨fun call l h k=>a_ (call (.fn g) l h) k⟩
  |none=>⟨fun _ l h k=>cF (E g l) (fun v=>k v h)⟩
 |none=>⟨fun _ _ _ _=>none⟩
def cFv (x:Operand) (args:List Operand):CO:=⟨fun call tm h k=>cF ((bI x).f tm) (fun fv=>wv ((wT args).f tm) (fun l=>VF.rec (motive:=fun _=>iE) none (fun g a c=>(cG P E g).f call (JU a (JU l c)) h k) (fun r=>a_ (call (.vM r) l h) k) (ace fv)))⟩
theorem acf (x:Operand) (args:Array Operand) (call:Call) (tm:TM) (h:Hp) (k:Kt):(cFv P E x args.toList).f call tm h k=a_ (A1 P E call (aL tm x) (cO tm args.toList) h) k:=by
 show cF ((bI x).f tm) (fun fv=>wv ((wT args.toList).f tm) (fun l=>VF.rec (motive:=fun _=>iE) none (fun g a c=>(cG P E g).f call (JU a (JU l c)) h k) (fun r=>a_ (call (.vM r) l h) k) (ace fv)))=_
 simp only [cE,yA];unfold A1;cases aL tm x with
 |none=>rfl
 |some fv=>
  cases cO tm args.toList with
  |none=>rfl
  |some l=>
   show VF.rec (motive:=fun _=>iE) none (fun g a c=>(cG P E g).f call (JU a (JU l c)) h k) (fun r=>a_ (call (.vM r) l h) k) (ace fv)=_
   cases fv with
   |func g a c=>
    obtain ⟨a⟩:=a;obtain ⟨c⟩:=c;cases g with
    |func g=>
     show (cG P E g).f call (JU a (JU l c)) h k=_
     dsimp only;have ht:target (.func (.func g) ⟨a⟩ ⟨c⟩) l=some (.fn g,a++l++c):=rfl;rw [ht];dsimp only;rw [MF,MF, ←List.append_assoc];unfold cG;simp only [gU,jI,jk,oD,jj,eu,jl];cases P.funcs[g]? with
     |none=>rfl
     |some fn=>
      dsimp only;cases fn.body with
      |some b=>rfl
      |none=>
       show cF (E g (a++l++c)) (fun v=>k v h)=a_ (match E g (a++l++c) with
        |some v=>some (v,h)
        |none=>none) k
       cases E g (a++l++c)<;>rfl
    |yield r=>
     cases a with
     |nil=>cases c<;>rfl
     |cons _ _=>rfl
    |_=>rfl
   |_=>rfl
def aee (c:Go.Call):CO:=match c with
 |{callee:= .value (.func g),args,argTypes}=>cFn P G E g args.toList ⟨.value (.func g),args,argTypes⟩
 |{callee:= .builtin b,args,argTypes}=>KP P G E b args argTypes
 |{callee:= .value f,args,argTypes:=_}=>cFv P E f args.toList
 |c=>Xh P G E (.call c)
def Xt (s d:TypeId) (x:Operand):CO:=match JR P s with
 |some _=>match JR P d with
  |some (.int k2)=>⟨fun _ tm h k=>cF ((bI x).f tm) (fun v=>Bh v (a_ (Dd P G s d v h) k) (fun _ n=>k (.int k2 (qK k2 n)) h))⟩
  |_=>⟨fun _ tm h k=>a_ (jV P G s d x tm h) k⟩
 |none=>⟨fun _ tm h k=>a_ (jV P G s d x tm h) k⟩
theorem Xu (s d:TypeId) (x:Operand) (call:Call) (tm:TM) (h:Hp) (k:Kt):(Xt P G s d x).f call tm h k=a_ (jV P G s d x tm h) k:=by
 unfold Xt;simp only [gU,jI,jk,oD,jj,eu,jl];cases e1:P.underlying s with
 |none=>rfl
 |some d1=>
  dsimp only;cases e2:P.underlying d with
  |none=>rfl
  |some d2=>
   cases d2 with
   |int k2=>
    show cF ((bI x).f tm) (fun v=>Bh v (a_ (Dd P G s d v h) k) (fun _ n=>k (.int k2 (qK k2 n)) h))=_
    rw [cE];unfold jV;cases aL tm x with
    |none=>rfl
    |some v=>
     cases v with
     |int i n=>
      show k (.int k2 (qK k2 n)) h=a_ (Dd P G s d (.int i n) h) k
      unfold Dd yy;dsimp only;rw [e1,e2];rfl
     |_=>rfl
   |_=>rfl
inductive OV where
 |move (x:Operand)
 |pick (a b c:Operand)
 |alloc (t:TypeId)
 |box (t:TypeId) (x:Operand)
 |load (t:TypeId) (x:Operand)
 |store (t:TypeId) (x y:Operand)
 |bin (op:BinOp) (t:TypeId) (x y:Operand)
 |fieldAddr (s:TypeId) (x:Operand) (f:Nat)
 |indexAddr (t:TypeId) (x i:Operand)
 |extract (x:Operand) (i:Nat)
 |iface (t:TypeId) (x:Operand)
 |conv (s d:TypeId) (x:Operand)
 |build (t:TypeId) (ps:Array (Nat×Operand))
 |un (op:UnOp) (x:Operand)
 |call (c:Go.Call)
 |other
def opV (o:Op):OV:=Op.rec (motive:=fun _=>OV) (fun a0=> .move a0) (fun a0=> .move a0) (fun a0 a1 a2=> .pick a0 a1 a2) (fun a0=> .alloc a0) (fun a0 a1=> .box a0 a1) (fun a0 a1=> .build a0 a1) (fun _ _ _=> .other) (fun _ _ _ _=> .other) (fun a0 a1=> .load a0 a1) (fun a0 a1 a2=> .store a0 a1 a2) (fun _=> .other) (fun _=> .other) (fun _=> .other) (fun a0 a1 a2 a3 _=> .bin a0 a1 a2 a3) (fun a0 _ a2=> .un a0 a2) (fun a0 a1 a2=> .conv a0 a1 a2) (fun _ _=> .other) (fun a0 a1=> .iface a0 a1) (fun _ _ _=> .other) (fun _ _=> .other) (fun _ _=> .other) (fun _ _ _=> .other) (fun _ _ _ _ _=> .other) (fun a0 a1 a2=> .fieldAddr a0 a1 a2) (fun _ _ _=> .other) (fun a0 a1 a2=> .indexAddr a0 a1 a2) (fun _ _ _=> .other) (fun _ _ _ _=> .other) (fun _ _ _ _=> .other) (fun _ _ _=> .other) (fun _ _ _ _=> .other) (fun _ _=> .other) (fun _ _=> .other) (fun _=> .other) (fun _ _ _ _=> .other) (fun a0 a1=> .extract a0 a1) (fun a0=> .call a0) (fun _=> .other) (fun _=> .other) (fun _=> .other) (fun _ _=> .other) (fun _ _ _=> .other) (fun _ _=> .other) o
def qc (op:Op):CO:=OV.rec (motive:=fun _=>CO) aa5 aa7 (RV P) aea (Xi P G) (MB P) (aec P) (z6 P) (z8 P) O6 (RW P) (Xt P G) (RX P) (cUn P) (aee P G E) (Xh P G E op) (opV op)
theorem Dr (op:Op) (call:Call) (tm:TM) (h:Hp) (k:Kt):(qc P G E op).f call tm h k=a_ (nT P G E call op tm h) k:=by
 cases op with
 |move x=>exact O5 x call tm h k
 |assign x=>exact O5 x call tm h k
 |pick a b c=>exact Xg a b c call tm h k
 |alloc t=>exact UZ P t call tm h k
 |box t x=>exact Z9 t x call tm h k
 |load t x=>exact Xj P G t x call tm h k
 |store t x y=>exact RY P t x y call tm h k
 |build t ps=>exact U2 P t ps call tm h k
 |unOp op t x=>exact ab_ P op x call tm h k
 |binOp a b c d e=>exact aad P a b c d call tm h k
 |fieldAddr s x f=>exact JS P s x f call tm h k
 |indexAddr t x i=>exact JT P t x i call tm h k
 |extract x i=>exact O7 x i call tm h k
 |makeInterface t x=>exact U1 P t x call tm h k
 |convert s d x=>exact Xu P G s d x call tm h k
 |call c=>
  obtain ⟨callee,args,ts⟩:=c;cases callee with
  |value f=>
   cases f with
   |func g=>exact acd P G E g args ts call tm h k
   |_=>exact acf P E _ args call tm h k
  |builtin b=>exact ME P G E b args ts call tm h k
  |invoke x n=>rfl
 |_=>rfl
def Xv (d:Option Nat) (nt:Nat) (c:CO) (rest:CL):CL:=match d with
 |none=>⟨fun call tm h=>c.f call tm h (fun _ h=>rest.f call tm h)⟩
 |some d=>Bool.rec (motive:=fun _=>CL) ⟨fun _ _ _=>none⟩ ⟨fun call tm h=>c.f call tm h (fun v h=>rest.f call ((wz (Nat.succ d) d).f tm v) h)⟩ (Nat.ble (Nat.succ d) nt)
def Pc (d:Option Nat) (nt:Nat) (rest:CL):CL:=match d with
 |none=>rest
 |some d=>Bool.rec (motive:=fun _=>CL) ⟨fun _ _ _=>none⟩ ⟨fun call tm h=>rest.f call ((wz (Nat.succ d) d).f tm undef) h⟩ (Nat.ble (Nat.succ d) nt)
def MG (c:Option Bool) (a b:iE):iE:=Option.rec (motive:=fun _=>iE) none (fun q=>Bool.rec (motive:=fun _=>iE) b a q) c
def qd (all:List Oper) (nt:Nat) (o:Oper) (rest:CL):CL:=match o.guard with
 |none=>Xv o.dst nt (qc P G E o.op) rest
 |some g=>⟨fun call tm h=>MG (c8 all tm (some g)) ((Xv o.dst nt (qc P G E o.op) rest).f call tm h) ((Pc o.dst nt rest).f call tm h)⟩
def nw (all:List Oper) (nt:Nat) (l:List Oper):CL:=List.rec (motive:=fun _=>CL) ⟨fun _ tm h=>some (tm,h)⟩ (fun o _ ih=>qd P G E all nt o ih) l
theorem TL (d:Option Nat) (nt:Nat) (op:Op) (rest:CL) (call:Call) (tm:TM) (h:Hp):
  (Xv d nt (qc P G E op) rest).f call tm h=match nT P G E call op tm h with
   |some (v,h)=>match mC tm d nt v with
    |some tm=>rest.f call tm h
    |none=>none
   |none=>none:=by
 cases d with
 |none=>
  show (qc P G E op).f call tm h (fun _ h=>rest.f call tm h)=_
  rw [Dr];cases nT P G E call op tm h with
  |none=>rfl
  |some p=>obtain ⟨v,h⟩:=p; rfl
 |some d=>
  show (Bool.rec (motive:=fun _=>CL) ⟨fun _ _ _=>none⟩ ⟨fun call tm h=>(qc P G E op).f call tm h (fun v h=>rest.f call ((wz (Nat.succ d) d).f tm v) h)⟩ (Nat.ble (Nat.succ d) nt):CL).f call tm h=(match nT P G E call op tm h with
   |some (v,h)=>match (match Nat.ble (Nat.succ d) nt with|true=>some (tm.set d v)|false=>none) with
    |some tm=>rest.f call tm h
    |none=>none
   |none=>none)
  cases Nat.ble (Nat.succ d) nt with
  |false=>cases nT P G E call op tm h<;>rfl
  |true=>
   show (qc P G E op).f call tm h (fun v h=>rest.f call ((wz (Nat.succ d) d).f tm v) h)=_
   rw [Dr];simp only [Bf];cases nT P G E call op tm h with
   |none=>rfl
   |some p=>obtain ⟨v,h⟩:=p; rfl
theorem Pd (d:Option Nat) (nt:Nat) (rest:CL) (call:Call) (tm:TM) (h:Hp):
  (Pc d nt rest).f call tm h=match mC tm d nt undef with
    |some tm=>rest.f call tm h
    |none=>none:=by
 cases d with
 |none=>rfl
 |some d=>
  show (Bool.rec (motive:=fun _=>CL) ⟨fun _ _ _=>none⟩ ⟨fun call tm h=>rest.f call ((wz (Nat.succ d) d).f tm undef) h⟩ (Nat.ble (Nat.succ d) nt):CL).f call tm h=(match (match Nat.ble (Nat.succ d) nt with|true=>some (tm.set d undef)|false=>none) with
    |some tm=>rest.f call tm h
    |none=>none)
  cases Nat.ble (Nat.succ d) nt with
  |false=>rfl
  |true=>show rest.f call ((wz (Nat.succ d) d).f tm undef) h=_; rw [Bf]
theorem uF (all:List Oper) (nt:Nat) (call:Call): ∀ (l:List Oper) (tm:TM) (h:Hp),(nw P G E all nt l).f call tm h=uq P G E call all nt l tm h
 |[],tm,h=>rfl
 |o::l,tm,h=>by
  rw [wK];show (qd P G E all nt o (nw P G E all nt l)).f call tm h=_
  have ih:=uF all nt call l;unfold qd;cases hg:o.guard with
  |none=>
   show (Xv o.dst nt (qc P G E o.op) (nw P G E all nt l)).f call tm h=_
   rw [TL];simp only [ih];rfl
  |some g=>
   show MG (c8 all tm (some g)) ((Xv o.dst nt (qc P G E o.op) (nw P G E all nt l)).f call tm h) ((Pc o.dst nt (nw P G E all nt l)).f call tm h)=_
   rw [TL,Pd];simp only [ih];cases c8 all tm (some g) with
   |none=>rfl
   |some q=>cases q<;>rfl
structure CC where
 f:Call→Rec→TM→Hp→uo
def Xw (DC:Array Oper→Nat→CL) (c:Code) (nt:Nat):CC:=match c with
 | .skip=>⟨fun _ _ tm h=>some (.normal,tm,h)⟩
 | .label _=>⟨fun _ _ tm h=>some (.normal,tm,h)⟩
 | .ret=>⟨fun _ _ tm h=>some (.ret,tm,h)⟩
 | .exit id=>⟨fun _ _ tm h=>some (.exit id,tm,h)⟩
 | .region _ ops d=>Bool.rec (motive:=fun _=>CC) ⟨fun call _ tm h=>pZ ((nw P G E ops.toList nt ops.toList).f call tm h)⟩ ⟨fun call _ tm h=>pZ ((DC ops nt).f call tm h)⟩ d
 | .seq a b=>⟨fun _ bT tm h=>Df bT b nt (bT a nt tm h)⟩
 | .cond c a b=>⟨fun _ bT tm h=>Option.rec (motive:=fun _=>uo) none (fun v=>VB.rec (motive:=fun _=>uo) none (fun q=>Bool.rec (motive:=fun _=>uo) (bT b nt tm h) (bT a nt tm h) q) (asBool v)) ((bI c).f tm)⟩
 | .block id b=>⟨fun _ bT tm h=>Ma id (bT b nt tm h)⟩
 | .loop b=>⟨fun _ bT tm h=>Df bT (.loop b) nt (bT b nt tm h)⟩
 | .rangeFunc g ps a b=>⟨fun call _ tm h=>Ou P call g ps.toList a b nt tm h⟩
 |_=>⟨fun _ _ _ _=>none⟩
theorem Xx (DC:Array Oper→Nat→CL) (c:Code) (nt:Nat) (call:Call) (bT:Rec) (tm:TM) (h:Hp):(Xw P G E DC c nt).f call bT tm h=Ov P G E (fun call ops nt tm h=>(DC ops nt).f call tm h) call bT c nt tm h:=by
 cases c with
 |region id ops d=>
  cases d with
  |false=>
   show pZ ((nw P G E ops.toList nt ops.toList).f call tm h)=pZ (uq P G E call ops.toList nt ops.toList tm h)
   rw [uF]
  |true=>rfl
 |cond c a b=>
  show Option.rec (motive:=fun _=>uo) none (fun v=>VB.rec (motive:=fun _=>uo) none (fun q=>Bool.rec (motive:=fun _=>uo) (bT b nt tm h) (bT a nt tm h) q) (asBool v)) ((bI c).f tm)=RI bT a b nt tm h (aL tm c)
  rw [cE];cases aL tm c with
  |none=>rfl
  |some v=>cases v<;>rfl
 |_=>rfl
structure CF where
 f:Rec→List Value→Hp→Option (Value×Hp)
structure CR where
 f:TM→Hp→Option (List Value)
def abc (t:TypeId) (h:Hp) (v:Option Value):Option Value:=Option.rec (motive:=fun _=>Option Value) none (fun v=>VP.rec (motive:=fun _=>Option Value) none (fun a=>ld P G t h a) (KK v)) v
def RZ (l:List ResultVar):CR:=List.rec (motive:=fun _=>CR) ⟨fun _ _=>some []⟩ (fun r _ ih=>match r with
 | .tmp t=>⟨fun tm h=>Bg ((O0 (Nat.succ t) t).f tm) (ih.f tm h)⟩
 | .cell a t=>⟨fun tm h=>Bg (abc P G t h ((O0 (Nat.succ a) a).f tm)) (ih.f tm h)⟩) l
theorem MH (tm:TM) (h:Hp): ∀ (l:List ResultVar),(RZ P G l).f tm h=AX P G tm h l
 |[]=>rfl
 | .tmp t::l=>by
  show Bg ((O0 (Nat.succ t) t).f tm) ((RZ P G l).f tm h)=_
  rw [Mx _ _ _ (Nat.lt_succ_self t),MH tm h l];simp only [AX];cases tm.get t<;>cases AX P G tm h l<;>rfl
 | .cell a t::l=>by
  show Bg (abc P G t h ((O0 (Nat.succ a) a).f tm)) ((RZ P G l).f tm h)=_
  rw [Mx _ _ _ (Nat.lt_succ_self a),MH tm h l];simp only [AX];cases tm.get a with
  |none=>rfl
  |some v=>
   cases v with
   |pointer p=>
    cases p with
    |none=>rfl
    |some p=>
     show Bg (ld P G t h p) (AX P G tm h l)=_
     dsimp only;cases ld P G t h p<;>cases AX P G tm h l<;>rfl
   |_=>rfl
def oneOf (l:List Value) (h:Hp):Value×Hp:=List.rec (motive:=fun _=>Value×Hp) (.tuple ⟨[]⟩,h) (fun v r _=>List.rec (motive:=fun _=>Value×Hp) (v,h) (fun u r' _=>(.tuple ⟨v::u::r'⟩,h)) r) l
def acg (r:Option (List Value)) (h:Hp):Option (Value×Hp):=Option.rec (motive:=fun _=>Option (Value×Hp)) none (fun l=>some (oneOf l h)) r
theorem TN (tm:TM) (h:Hp) (l:List ResultVar):acg ((RZ P G l).f tm h) h=finish P G tm h l:=by
 rw [MH];unfold finish;cases AX P G tm h l with
 |none=>rfl
 |some l=>
  cases l with
  |nil=>rfl
  |cons v l=>cases l<;>rfl
def ach (l:CR) (r:uo):Option (Value×Hp):=Option.rec (motive:=fun _=>Option (Value×Hp)) none (fun p=>Prod.rec (motive:=fun _=>Option (Value×Hp)) (fun e q=>Prod.rec (motive:=fun _=>Option (Value×Hp)) (fun tm h=>
 Ex.rec (motive:=fun _=>Option (Value×Hp)) (acg (l.f tm h) h) (fun _=>none) (fun _=>none) (acg (l.f tm h) h) e) q) p) r
def aci (l:List Value) (k:Nat) (t:TM):TM:=List.rec (motive:=fun _=>Nat→TM→TM) (fun _ t=>t) (fun v _ ih k t=>ih (Nat.succ k) ((wz (Nat.succ k) k).f t v)) l k t
theorem TO: ∀ (l:List Value) (k:Nat) (t:TM),aci l k t=Tr.iX t k l
 |[],k,t=>rfl
 |v::l,k,t=>by
  rw [Tr.sY, ←Bf];exact TO l (k+1) _
def Xy (f:FuncId):CF:=match Xf P f with
 |none=>⟨fun _ _ _=>none⟩
 |some fn=>match fn.body with
  |none=>⟨fun _ _ _=>none⟩
  |some c=>⟨fun bT args h=>Bool.rec (motive:=fun _=>Option (Value×Hp)) none (ach (RZ P G fn.results.toList) (bT c fn.ntmps (aci args (nat_lit 0) .e) h)) (Nat.ble (FC args) fn.ntmps)⟩
theorem Xz (bT:Rec) (f:FuncId) (args:List Value) (h:Hp):(Xy P G f).f bT args h=GO P G bT f args h:=by
 unfold Xy GO;simp only [gU,jI,jk,oD,jj,eu,jl];cases P.funcs[f]? with
 |none=>rfl
 |some fn=>
  dsimp only;cases fn.body with
  |none=>rfl
  |some c=>
   show Bool.rec (motive:=fun _=>Option (Value×Hp)) none (ach (RZ P G fn.results.toList) (bT c fn.ntmps (aci args 0 .e) h)) (Nat.ble (FC args) fn.ntmps)=_
   rw [uD,TO];cases Nat.ble args.length fn.ntmps with
   |false=>rfl
   |true=>
    show ach (RZ P G fn.results.toList) (bT c fn.ntmps (Tr.iX .e 0 args) h)=(match bT c fn.ntmps (Tr.iX .e 0 args) h with
     |some (.normal,tm,h)=>finish P G tm h fn.results.toList
     |some (.ret,tm,h)=>finish P G tm h fn.results.toList
     |_=>none)
    cases bT c fn.ntmps (Tr.iX .e 0 args) h with
    |none=>rfl
    |some p=>
     obtain ⟨e,tm,h⟩:=p;cases e with
     |normal=>exact TN P G tm h _
     |ret=>exact TN P G tm h _
     |_=>rfl
def XA (bT:Rec):Call:=fun t args h=>Tg.rec (motive:=fun _=>Option (Value×Hp)) (fun f=>(Xy P G f).f bT args h) (fun r=>ZS bT r args h) t
theorem XB (bT:Rec):XA P G bT=Tw P G bT:=by
 funext t args h
 cases t with
 |fn f=>exact Xz P G bT f args h
 |vM r=>rfl
end
end Go.Sim
