/-
  Proved here: parts of the evaluator of the model's code on given values: its data, and what single operations do under the model. No condition.
-/
import Derived.Calls
import Derived.Orders
import Derived.IntWalk
import Derived.Below
import Derived.Laws.Append
import Derived.Laws.Slices
set_option linter.unusedVariables false
set_option linter.unusedSimpArgs false
namespace Go.Sim
inductive Tr (α:Type) where
 |e
 |n (l:Tr α) (v:Option α) (r:Tr α)
noncomputable section
def Tr.get {α:Type} (t:Tr α) (k:Nat):Option α:=
 Tr.rec (motive:=fun _=>Nat→Option α) (fun _=>none) (fun _ v _ gl gr k=>Bool.rec (Bool.rec (gr (Nat.sub (Nat.div k (nat_lit 2)) (nat_lit 1))) (gl (Nat.div k (nat_lit 2))) (Nat.beq (Nat.mod k (nat_lit 2)) (nat_lit 1))) v (Nat.beq k (nat_lit 0))) t k
theorem Tr.Oh {α:Type} (l:Tr α) (v:Option α) (r:Tr α) (k:Nat):(Tr.n l v r).get k=match Nat.beq k 0 with
  |true=>v
  |false=>match Nat.beq (k%2) 1 with
   |true=>l.get (k/2)
   |false=>r.get (k/2 - 1):=by
 show Bool.rec (motive:=fun _=>Option α) (Bool.rec (motive:=fun _=>Option α) (r.get (k/2 - 1)) (l.get (k/2)) (Nat.beq (k%2) 1)) v (Nat.beq k 0)=_
 cases Nat.beq k 0<;>cases Nat.beq (k%2) 1<;>rfl
def Tr.parts {α β:Type} (f:Tr α→Option α→Tr α→β) (t:Tr α):β:=Tr.rec (motive:=fun _=>β) (f .e none .e) (fun l v r _ _=>f l v r) t
def Tr.pX {α:Type} (v:α) (f:Nat) (t:Tr α) (k:Nat):Tr α:=
 Nat.rec (motive:=fun _=>Tr α→Nat→Tr α) (fun t _=>t) (fun _ ih t k=>
  Bool.rec (Bool.rec (Tr.parts (fun l u r=> .n l u (ih r (Nat.sub (Nat.div k (nat_lit 2)) (nat_lit 1)))) t) (Tr.parts (fun l u r=> .n (ih l (Nat.div k (nat_lit 2))) u r) t) (Nat.beq (Nat.mod k (nat_lit 2)) (nat_lit 1))) (Tr.parts (fun l _ r=> .n l (some v) r) t) (Nat.beq k (nat_lit 0))) f t k
theorem Tr.mM {α:Type} (v:α) (f:Nat) (t:Tr α) (k:Nat):Tr.pX v (f+1) t k=
  match Nat.beq k 0,t with
  |true, .e=> .n .e (some v) .e
  |true, .n l _ r=> .n l (some v) r
  |false,t=>match Nat.beq (k%2) 1,t with
   |true, .e=> .n (Tr.pX v f .e (k/2)) none .e
   |true, .n l u r=> .n (Tr.pX v f l (k/2)) u r
   |false, .e=> .n .e none (Tr.pX v f .e (k/2 - 1))
   |false, .n l u r=> .n l u (Tr.pX v f r (k/2 - 1)):=by
 show Bool.rec (motive:=fun _=>Tr α) (Bool.rec (motive:=fun _=>Tr α) (Tr.parts (fun l u r=> .n l u (Tr.pX v f r (k/2 - 1))) t) (Tr.parts (fun l u r=> .n (Tr.pX v f l (k/2)) u r) t) (Nat.beq (k%2) 1)) (Tr.parts (fun l _ r=> .n l (some v) r) t) (Nat.beq k 0)=_
 cases Nat.beq k 0<;>cases Nat.beq (k%2) 1<;>cases t<;>rfl
def Tr.set {α:Type} (t:Tr α) (k:Nat) (v:α):Tr α:=Tr.pX v (Nat.succ k) t k
def Tr.iX {α:Type} (t:Tr α) (k:Nat) (l:List α):Tr α:=
 List.rec (motive:=fun _=>Tr α→Nat→Tr α) (fun t _=>t) (fun v _ ih t k=>ih (t.set k v) (Nat.succ k)) l t k
theorem Tr.Oi {α:Type} (t:Tr α) (k:Nat):t.iX k []=t:=rfl
theorem Tr.sY {α:Type} (t:Tr α) (k:Nat) (v:α) (l:List α):t.iX k (v::l)=(t.set k v).iX (k+1) l:=rfl
inductive Jmp where
 |ret
 |exit (id:Nat)
inductive dA where
 |cells (size:Nat) (ty:TypeId) (cs:Tr Value)
 |map (es:List (Value×Value))
 |dead
 |loop (nt:Nat) (tm:Tr Value) (ps:List Nat) (assign body:Code) (st:Nat) (jmp:Option Jmp)
structure Hp where
 next:Nat
 bs:Tr dA
abbrev TM:=Tr Value
def bL:Value→Bool
 | .bool _| .int _ _| .float _ _| .complex _ _ _| .string _| .pointer none| .map none| .chan none| .nilFunc| .nilIface=>true
 | .slice none 0 0=>true
 | .agg ⟨l⟩=>iV l
 | .tuple ⟨l⟩=>iV l
 |_=>false
 where iV:List Value→Bool
 |[]=>true
 |v::l=>match bL v with
  |true=>iV l
  |false=>false
def aL (tm:TM):Operand→Option Value
 | .tmp t=>tm.get t
 | .const v=>match bL v with
  |true=>some v
  |false=>none
 | .global g=>some (.pointer (some ⟨2*g+1,0,none⟩))
 | .func f=>some (.func (.func f) #[] #[])
def cO (tm:TM) (l:List Operand):Option (List Value):=
 List.rec (motive:=fun _=>Option (List Value)) (some []) (fun x _ ih=>match aL tm x with
  |none=>none
  |some v=>match ih with
   |none=>none
   |some vs=>some (v::vs)) l
theorem C8 (tm:TM):cO tm []=some []:=rfl
theorem jF (tm:TM) (x:Operand) (l:List Operand):cO tm (x::l)=match aL tm x with
  |none=>none
  |some v=>match cO tm l with
   |none=>none
   |some vs=>some (v::vs):=rfl
inductive Bk where|new (i:Nat)|old (g:Nat)
def bk (b:Nat):Bk:=match Nat.beq (Nat.mod b (nat_lit 2)) (nat_lit 0) with
 |true=> .new (Nat.div b (nat_lit 2))
 |false=> .old (Nat.div b (nat_lit 2))
section
variable (P:Program) (G:Nat→Option (List Value))
def aV (t:TypeId):Option Nat:=match P.info? t with
 |some i=>some i.size
 |none=>none
def bM (t:TypeId):Option Bool:=match P.underlying t with
 |some (.struct _)=>some true
 |some (.array _ _)=>some true
 |some _=>some false
 |none=>none
def bA (t:TypeId):Option Value:=match P.info? t with
 |some i=>i.zero
 |none=>none
def fk (h:Hp) (a:Addr) (k:Nat):Option Value:=
 match bk a.block with
 | .new i=>match h.bs.get i with
  |some (.cells _ _ cs)=>cs.get (Nat.add a.off k)
  |_=>none
 | .old g=>match G g with
  |some l=>l[a.off+k]?
  |none=>none
def eg (h:Hp) (a:Addr) (k n:Nat):Option (List Value):=
 Nat.rec (motive:=fun _=>Nat→Option (List Value)) (fun _=>some []) (fun _ ih k=>match fk G h a k with
  |none=>none
  |some v=>match ih (Nat.succ k) with
   |none=>none
   |some l=>some (v::l)) n k
theorem AT (h:Hp) (a:Addr) (k:Nat):eg G h a k 0=some []:=rfl
theorem gd (h:Hp) (a:Addr) (k n:Nat):eg G h a k (n+1)=match fk G h a k with
  |none=>none
  |some v=>match eg G h a (k+1) n with
   |none=>none
   |some l=>some (v::l):=rfl
def ld (t:TypeId) (h:Hp) (a:Addr):Option Value:=
 match bM P t with
 |none=>none
 |some true=>match aV P t with
  |none=>none
  |some n=>match eg G h a 0 n with
   |none=>none
   |some l=>some (.agg ⟨l⟩)
 |some false=>fk G h a 0
def bC:Value→List Value
 | .agg ⟨l⟩=>l
 |v=>[v]
def dU:Value→Bool
 | .agg _=>false
 | .tuple _=>false
 |_=>true
def dV (l:List Value) (k size:Nat) (cs:Tr Value):Option (Tr Value):=
 List.rec (motive:=fun _=>Nat→Tr Value→Option (Tr Value)) (fun _ cs=>some cs) (fun v _ ih k cs=>
  match Nat.blt k size with
  |true=>match dU v with
   |true=>ih (Nat.succ k) (cs.set k v)
   |false=>none
  |false=>none) l k cs
theorem Oj (k size:Nat) (cs:Tr Value):dV [] k size cs=some cs:=rfl
theorem oQ (v:Value) (l:List Value) (k size:Nat) (cs:Tr Value):dV (v::l) k size cs=
  match Nat.blt k size,dU v with
  |true,true=>dV l (k+1) size (cs.set k v)
  |_,_=>none:=by
 show (match Nat.blt k size with
  |true=>match dU v with
   |true=>dV l (k+1) size (cs.set k v)
   |false=>none
  |false=>none)=_
 cases Nat.blt k size<;>cases dU v<;>rfl
def st (t:TypeId) (h:Hp) (a:Addr) (v:Value):Option Hp:=
 match bk a.block with
 | .old _=>none
 | .new i=>match h.bs.get i,aV P t with
  |some (.cells size ty cs),some n=>
   match Nat.beq (bC v).length n with
   |false=>none
   |true=>match dV (bC v) a.off size cs with
    |none=>none
    |some cs'=>some {h with bs:=h.bs.set i (.cells size ty cs')}
  |_,_=>none
def qF (h:Hp) (ty:TypeId) (l:List Value):Value×Hp:=
 (.pointer (some ⟨2*h.next,0,none⟩),{next:=h.next+1,bs:=h.bs.set h.next (.cells l.length ty (Tr.iX .e 0 l))})
def AU:List Value→List Value→List Value
 |cs,[]=>cs
 |[],_=>[]
 |_::cs,v::l=>v::AU cs l
def putAt (l:List Value):Nat→List Value→List Value
 |0,cs=>AU cs l
 |_+1,[]=>[]
 |k+1,c::cs=>c::putAt l k cs
def jT:List (Nat×List Value)→List Value→Option (List Value)
 |[],cs=>some cs
 |(off,l)::rest,cs=>
  match Nat.ble (off+l.length) cs.length with
  |false=>none
  |true=>jT rest (putAt l off cs)
def bw {α:Type}:Sem α→Option α
 | .pure a=>some a
 | .program k=>bw (k P)
 | .mark _ k=>bw k
 |_=>none
end
end
end Go.Sim
namespace Go.Sim
noncomputable section
section
variable (P:Program) (G:Nat→Option (List Value))
def cm:Value→Option Nat
 | .int _ (.ofNat n)=>some n
 |_=>none
def ah2:Value→Option Addr
 | .pointer (some a)=>some a
 |_=>none
def bH (tm:TM) (fs:List Field):List (Nat×Operand)→Option (List (Nat×List Value))
 |[]=>some []
 |(i,x)::l=>match fs[i]?,aL tm x,bH tm fs l with
  |some f,some v,some r=>match aV P f.type with
   |some n=>match Nat.beq (bC v).length n with
    |true=>some ((f.offset,bC v)::r)
    |false=>none
   |none=>none
  |_,_,_=>none
def fO:List Field→Bool
 |[]=>true
 |f::l=>match aV P f.type with
  |some _=>fO l
  |none=>false
def cy (tm:TM) (size:Nat):List (Nat×Operand)→Option (List (Nat×List Value))
 |[]=>some []
 |(i,x)::l=>match aL tm x,cy tm size l with
  |some v,some r=>match Nat.beq (bC v).length size with
   |true=>some ((i*size,bC v)::r)
   |false=>none
  |_,_=>none
def zeroCells (t:TypeId):Option (List Value):=match bA P t with
 |some z=>match bL z with
  |true=>some (bC z)
  |false=>none
 |none=>none
def eo:Nat→List Value→List Value
 |0,_=>[]
 |n+1,l=>l++eo n l
def dB (a:Addr) (n:Nat):Addr:=match Nat.beq n 0 with
 |true=>a
 |false=>{a with off:=a.off+n}
def iF:List UInt8→List UInt8→Bool
 |_,[]=>false
 |[],_::_=>true
 |a::x,b::y=>match Nat.blt a.toNat b.toNat with
  |true=>true
  |false=>match Nat.beq a.toNat b.toNat with
   |true=>iF x y
   |false=>false
def uk:List UInt8→List UInt8→Bool
 |[],[]=>true
 |a::x,b::y=>match Nat.beq a.toNat b.toNat with
  |true=>uk x y
  |false=>false
 |_,_=>false
def Ti (op:BinOp) (x y:ByteArray):Option Value:=
 match op with
 | .add=>match Nat.ble (x.size+y.size) 9223372036854775807 with
  |true=>some (.string ⟨⟨x.data.toList++y.data.toList⟩⟩)
  |false=>none
 | .eql=>some (.bool (uk x.data.toList y.data.toList))
 | .neq=>some (.bool (!uk x.data.toList y.data.toList))
 | .lss=>some (.bool (iF x.data.toList y.data.toList))
 | .geq=>some (.bool (!iF x.data.toList y.data.toList))
 | .gtr=>some (.bool (iF y.data.toList x.data.toList))
 | .leq=>some (.bool (!iF y.data.toList x.data.toList))
 |_=>none
def wF:Operand→Bool
 | .const _=>true
 |_=>false
def RB (d:TypeDesc) (x y:Operand) (a b:Value):Option Bool:=
 match d with
 | .slice _=>match a,b with
  | .slice none _ _, .slice none _ _=>some true
  | .slice none _ _, .slice (some _) _ _=>some false
  | .slice (some _) _ _, .slice none _ _=>some false
  |_,_=>none
 | .pointer _=>match a,b with
  | .pointer none, .pointer none=>some true
  | .pointer none, .pointer (some _)=>some false
  | .pointer (some _), .pointer none=>some false
  |_,_=>none
 | .map _ _=>match a,b with
  | .map none, .map none=>some true
  | .map none, .map (some _)=>some false
  | .map (some _), .map none=>some false
  |_,_=>none
 | .func _ _ _=>match a,b with
  | .nilFunc, .nilFunc=>some true
  | .nilFunc, .func _ _ _=>some false
  | .func _ _ _, .nilFunc=>some false
  |_,_=>none
 | .interface _=>match a,b with
  | .nilIface, .nilIface=>match wF x,wF y with
   |false,false=>none
   |_,_=>some true
  | .nilIface, .iface _ _=>some false
  | .iface _ _, .nilIface=>some false
  |_,_=>none
 |_=>none
def guarded (x:Option Value):Option Value:=match x with
 |some v=>match bL v with
  |true=>some v
  |false=>none
 |none=>none
def L0 (a b:Addr):Bool:=match a.spot,b.spot with
 |none,none=>match Nat.beq a.block b.block,Nat.beq a.off b.off with
  |true,true=>true
  |_,_=>false
 |_,_=>false
def RC (op:BinOp) (T:TypeId) (a b:Addr):Option Value:=match L0 a b,P.underlying T with
 |true,some (.pointer e)=>match aV P e with
  |some _=>match op with
   | .eql=>some (.bool true)
   | .neq=>some (.bool false)
   |_=>none
  |none=>none
 |_,_=>none
def Gz (op:BinOp) (T:TypeId) (x y:Operand) (a b:Value):Option Value:=
 match a,b with
 | .int _ _, .int _ _=>guarded (bw P (binOp op T a b))
 | .string s, .string t=>Ti op s t
 | .bool _, .bool _=>guarded (bw P (binOp op T a b))
 | .agg _, .agg _=>match bL a,bL b with
  |true,true=>guarded (bw P (do eqGuard op T x y a b; binOp op T a b))
  |_,_=>none
 | .pointer (some a), .pointer (some b)=>RC P op T a b
 |a,b=>match P.underlying T with
  |none=>none
  |some d=>match RB d x y a b with
   |none=>none
   |some q=>match op with
    | .eql=>some (.bool q)
    | .neq=>some (.bool (!q))
    |_=>none
def Ge (t:TypeId) (x:Value) (lo hi mx:Option Value):Option Value:=
 match x with
 | .string s=>
  match P.underlying t with
  |some .string=>match mx,cm (hi.getD (.int .i64 s.size)),cm (lo.getD (.int .i64 0)) with
   |none,some h,some l=>match Nat.ble h s.size,Nat.ble l h with
    |true,true=>some (.string ⟨⟨(s.data.toList.drop l).take (h - l)⟩⟩)
    |_,_=>none
   |_,_,_=>none
  |_=>none
 | .slice a len cap=>
  match P.underlying t with
  |some (.slice elem)=>
   match aV P elem,cm (mx.getD (.int .i64 cap)),cm (hi.getD (.int .i64 len)),cm (lo.getD (.int .i64 0)) with
   |some size,some m,some h,some l=>match Nat.ble m cap,Nat.ble h m,Nat.ble l h with
    |true,true,true=>
     match mx.isSome,hi.isSome with
     |true,false=>none
     |_,_=>match a with
     |none=>some (.slice none (h - l) (m - l))
     |some a=>match mx.isSome,Nat.beq m l with
      |true,true=>some (.slice (some {a with spot:=none}) (h - l) (m - l))
      |true,false=>some (.slice (some (dB {a with spot:=none} (l*size))) (h - l) (m - l))
      |false,true=>match a.spot with
       |none=>some (.slice (some a) (h - l) (m - l))
       |some _=>none
      |false,false=>some (.slice (some (dB a (l*size))) (h - l) (m - l))
    |_,_,_=>none
   |_,_,_,_=>none
  |_=>none
 | .pointer (some a)=>
  match P.underlying t with
  |some (.array n elem)=>
   match aV P elem,cm (mx.getD (.int .i64 n)),cm (hi.getD (.int .i64 n)),cm (lo.getD (.int .i64 0)) with
   |some size,some m,some h,some l=>match Nat.ble m n,Nat.ble h m,Nat.ble l h with
    |true,true,true=>match mx.isSome,hi.isSome,a.spot with
     |true,false,_=>none
     |_,_,some _=>none
     |_,_,none=>some (.slice (some (match Nat.beq m l with
      |true=>a
      |false=>dB a (l*size))) (h - l) (m - l))
    |_,_,_=>none
   |_,_,_,_=>none
  |_=>none
 |_=>none
def GB:Value→Option Nat
 | .slice _ n _=>some n
 | .string s=>some s.size
 |_=>none
def sZ (size:Nat) (h:Hp) (n:Nat):Value→Option (List Value)
 | .slice none _ _=>some []
 | .slice (some a) _ _=>eg G h a 0 (n*size)
 | .string s=>some ((s.data.toList.take n).map (fun b=> .int .u8 b.toNat))
 |_=>none
def L1:List Value→Bool
 |[]=>true
 |v::l=>match dU v with
  |true=>L1 l
  |false=>false
def fP (t:TypeId):Option Nat:=match P.info? t with
 |some i=>some i.bytes
 |none=>none
def C9 (size:Nat) (elem:TypeId) (h:Hp) (base:Option Addr) (cap:Nat):Option (Tr dA):=match base with
 |none=>some h.bs
 |some a=>match bk a.block,a.spot with
  | .new i,some _=>match h.bs.get i with
   |some (.cells sz ty _)=>match Nat.beq ty elem,Nat.beq (a.off+cap*size) sz with
    |true,true=>some (h.bs.set i .dead)
    |_,_=>none
   |_=>none
  |_,_=>some h.bs
def lB:List TypeId→Bool
 |_::t::_=>match P.underlying t with
  |some (.slice _)=>true
  |some .string=>true
  |_=>false
 |_=>false
def AW (T:TypeId) (h:Hp) (s x:Value):Option (Value×Hp):=
 match P.underlying T with
 |some (.slice elem)=>
  match aV P elem,s,GB x with
  |some size, .slice base sl sc,some n=>
   match sZ G size h n x with
   |none=>none
   |some new=>
    match Nat.ble (sl+n) sc with
    |true=>match base with
     |none=>some (.slice none (sl+n) sc,h)
     |some a=>match bk a.block with
      | .old _=>match n,new with
       |0,[]=>some (s,h)
       |_,_=>none
      | .new i=>match h.bs.get i with
       |some (.cells sz ty cs)=>match dV new (a.off+sl*size) sz cs with
        |some cs'=>some (.slice base (sl+n) sc,{h with bs:=h.bs.set i (.cells sz ty cs')})
        |none=>none
       |_=>none
    |false=>
     match sZ G size h sl s,fP P elem,bA P elem with
     |some old,some bytes,some z=>match Nat.ble ((sl+n)*bytes+(sl+n)) 140737488355328,bL z,Nat.beq (bC z).length size,L1 new,Nat.beq new.length (n*size),Nat.beq old.length (sl*size),Nat.blt T P.types.size with
      |true,true,true,true,true,true,true=>match C9 size elem h base sc with
       |some bs=>some (.slice (some ⟨2*h.next,0,some 0⟩) (sl+n) (sl+n),
        {next:=h.next+1,bs:=bs.set h.next (.cells ((sl+n)*size) elem (Tr.iX .e 0 (old++new)))})
       |none=>none
      |_,_,_,_,_,_,_=>none
     |_,_,_=>none
  |_,_,_=>none
 |_=>none
def Tj (h:Hp):TypeDesc→Value→Option Value
 | .string, .string s=>some (.int .i64 s.size)
 | .slice _, .slice _ n _=>some (.int .i64 n)
 | .map _ _, .map none=>some (.int .i64 0)
 | .map _ _, .map (some r)=>match bk r with
  | .new i=>match h.bs.get i with
   |some (.map es)=>some (.int .i64 es.length)
   |_=>none
  | .old _=>none
 |_,_=>none
def eM:Value→Value→Option Bool
 | .int k a, .int k' b=>match decide (k=k') with
  |true=>some (decide (a=b))
  |false=>none
 | .string a, .string b=>some (uk a.data.toList b.data.toList)
 | .bool a, .bool b=>some (a==b)
 |_,_=>none
def kindOk:Option TypeDesc→Value→Bool
 |some (.int _), .int _ _=>true
 |some .string, .string _=>true
 |some .bool, .bool _=>true
 |_,_=>false
def um (k:Value):List (Value×Value)→Option (Option Value)
 |[]=>some none
 |(k',v)::l=>match eM k k' with
  |none=>none
  |some true=>some (some v)
  |some false=>um k l
def C_ (k v:Value):List (Value×Value)→Option (List (Value×Value))
 |[]=>some [(k,v)]
 |(k',v')::l=>match eM k k' with
  |none=>none
  |some true=>some ((k,v)::l)
  |some false=>match C_ k v l with
   |some r=>some ((k',v')::r)
   |none=>none
def mapOf (h:Hp):Option Nat→Option (List (Value×Value))
 |none=>some []
 |some r=>match bk r with
  | .old _=>none
  | .new j=>match h.bs.get j with
   |some (.map es)=>some es
   |_=>none
def s6 (t:TypeId) (r:Nat) (k v:Value) (h:Hp):Option (Value×Hp):=
 match P.underlying t with
 |some (.map kt _)=>match kindOk (P.underlying kt) k,bk r with
  |true, .new j=>match h.bs.get j with
   |some (.map es)=>match C_ k v es with
    |some es=>some (undef,{h with bs:=h.bs.set j (.map es)})
    |none=>none
   |_=>none
  |_,_=>none
 |_=>none
def bytesOf:List Value→Option (List UInt8)
 |[]=>some []
 | .int .u8 (.ofNat n)::l=>match bytesOf l with
  |some r=>some (UInt8.ofNat n::r)
  |none=>none
 |_=>none
def L2 (ty:TypeId):Bool:=P.types.toList.all fun i=>match i.desc with
 | .slice e=> !Nat.beq e ty
 | .named _ u=>Nat.blt u P.types.size
 |_=>true
def L3 (src dst:TypeId) (a:Addr) (h:Hp):Bool:=match bk a.block,a.spot with
 | .new i,none=>match h.bs.get i with
  |some (.cells size ty _)=>match P.underlying src,P.underlying dst with
   |some (.pointer t),some .unsafePointer=>match aV P t with
    |some n=>match Nat.blt 0 n,Nat.blt a.off size with
     |true,true=>true
     |_,_=>false
    |none=>false
   |some .unsafePointer,some (.pointer u)=>match aV P u,L2 P ty with
    |some _,true=>liesAt P P.depth ty (Nat.div size (P.cellsOf ty)) a.off u 1
    |_,_=>false
   |_,_=>false
  |_=>false
 |_,_=>false
def wG (src dst:TypeId) (v:Value) (h:Hp):Option (Value×Hp):=
 match v with
 | .int k n=>match guarded (bw P (convert src dst (.int k n))) with
  |some v=>some (v,h)
  |none=>none
 | .string s=>match P.underlying src,P.underlying dst with
  |some .string,some .string=>some (.string s,h)
  |some .string,some (.slice e)=>match P.underlying e,aV P e,Nat.blt dst P.types.size with
   |some (.int .u8),some 1,true=>
    some (.slice (some ⟨2*h.next,0,some 0⟩) s.size s.size,{next:=h.next+1,bs:=h.bs.set h.next (.cells s.size e (Tr.iX .e 0 (s.data.toList.map (fun b=> .int .u8 b.toNat))))})
   |_,_,_=>none
  |_,_=>none
 | .slice a n c=>match P.underlying src,P.underlying dst with
  |some (.slice e),some .string=>match P.underlying e with
   |some (.int .u8)=>match a with
    |none=>some (.string ⟨⟨[]⟩⟩,h)
    |some a=>match eg G h a 0 n with
     |some l=>match bytesOf l with
      |some bs=>some (.string ⟨⟨bs⟩⟩,h)
      |none=>none
     |none=>none
   |_=>none
  |_,_=>none
 | .pointer (some a)=>match L3 P src dst a h with
  |true=>some (.pointer (some a),h)
  |false=>none
 |_=>none
def wH (t:TypeId) (cs:List Value) (off:Nat):Option Value:=
 match bM P t,aV P t with
 |some true,some n=>match Nat.ble (off+n) cs.length with
  |true=>some (.agg ⟨(cs.drop off).take n⟩)
  |false=>none
 |some false,_=>cs[off]?
 |_,_=>none
def eF (tm:TM):Option Operand→Option (Option Value)
 |none=>some none
 |some x=>match aL tm x with
  |some v=>some (some v)
  |none=>none
def Da (l:List Value) (h:Hp):Option (Value×Hp):=match l with
 |[.slice none _ _]=>some (.pointer none,h)
 |[.slice (some a) _ c]=>match Nat.beq c 0 with
  |true=>none
  |false=>some (.pointer (some {a with spot:=none}),h)
 |_=>none
def L4 (l:List Value) (ts:List TypeId) (h:Hp):Option (Value×Hp):=match l,ts with
 |[.pointer p, .int .i64 (.ofNat n)],[t,_]=>match Nat.beq n 0 with
  |true=>some (.string ⟨⟨[]⟩⟩,h)
  |false=>match p with
   |none=>none
   |some a=>match bk a.block,a.spot with
    | .new i,none=>match h.bs.get i,P.underlying t with
     |some (.cells size ty _),some (.pointer e)=>match Nat.beq e ty,Nat.beq (P.cellsOf ty) 1,Nat.ble (a.off+n) size,Nat.ble n 9223372036854775807 with
      |true,true,true,true=>match eg G h a 0 n with
       |some l=>match bytesOf l with
        |some bs=>some (.string ⟨⟨bs⟩⟩,{h with bs:=h.bs.set i .dead})
        |none=>none
       |none=>none
      |_,_,_,_=>none
     |_,_=>none
    |_,_=>none
 |_,_=>none
def FB (b:Builtin) (l:List Value) (ts:List TypeId) (h:Hp):Option (Value×Hp):=
 match b with
 | .len=>match l with
  |[v]=>match ts with
   |t::_=>match P.underlying t with
    |some d=>match Tj h d v with
     |some v=>some (v,h)
     |none=>none
    |none=>none
   |[]=>none
  |_=>none
 | .append=>match l with
  |[s,x]=>match ts with
   |t::u::ts=>match lB P (t::u::ts) with
    |true=>AW P G t h s x
    |false=>none
   |_=>none
  |_=>none
 | .min=>match bL (.tuple ⟨l⟩) with
  |true=>match guarded (bw P (Builtin.min_ #[] 0 ⟨l⟩)) with
   |some v=>some (v,h)
   |none=>none
  |false=>none
 | .max=>match bL (.tuple ⟨l⟩) with
  |true=>match guarded (bw P (Builtin.max_ #[] 0 ⟨l⟩)) with
   |some v=>some (v,h)
   |none=>none
  |false=>none
 | .copy=>match l with
  |[d,x]=>match ts with
   |t::_=>match P.underlying t with
    |some (.slice e)=>match aV P e,d,GB x with
     |some size, .slice (some a) n _,some q=>match sZ G size h (Nat.min q n) x with
      |some l=>match bk a.block with
       | .old _=>none
       | .new i=>match h.bs.get i with
        |some (.cells sz ty cs)=>match dV l a.off sz cs with
         |some cs'=>some (.int .i64 (Nat.min q n),{h with bs:=h.bs.set i (.cells sz ty cs')})
         |none=>none
        |_=>none
      |none=>none
     |_,_,_=>none
    |_=>none
   |[]=>none
  |_=>none
 | .unsafeSliceData=>Da l h
 | .unsafeString=>L4 P G l ts h
 |_=>none
def L5 (a:TypeId):Option Value:=match bA P a with
 |some z=>match bL z with
  |true=>some (.tuple ⟨[z, .bool false]⟩)
  |false=>none
 |none=>none
def ZJ (a:TypeId) (v:Value):Option Value:=match P.underlying a with
 |none=>none
 |some (.interface _)=>none
 |some _=>match v with
  | .iface t u=>match Nat.beq t a with
   |true=>some (.tuple ⟨[u, .bool true]⟩)
   |false=>L5 P a
  | .nilIface=>L5 P a
  |_=>none
def dr (o:Op) (tm:TM) (h:Hp):Option (Value×Hp):=
 match o with
 | .move x=>match aL tm x with|some v=>some (v,h)|none=>none
 | .assign x=>match aL tm x with|some v=>some (v,h)|none=>none
 | .pick c a b=>match aL tm c with
  |some (.bool true)=>match aL tm a with|some v=>some (v,h)|none=>none
  |some (.bool false)=>match aL tm b with|some v=>some (v,h)|none=>none
  |_=>none
 | .alloc t=>match zeroCells P t with
  |some l=>some (qF h t l)
  |none=>none
 | .box t x=>match aL tm x with
  |some v=>some (qF h t (bC v))
  |none=>none
 | .build t parts=>match zeroCells P t,P.underlying t with
  |some z,some (.struct fs)=>match fO P fs.toList,bH P tm fs.toList parts.toList with
   |true,some ps=>match jT ps z with
    |some l=>some (.agg ⟨l⟩,h)
    |none=>none
   |_,_=>none
  |some z,some (.array _ e)=>match aV P e with
   |some size=>match cy tm size parts.toList with
    |some ps=>match jT ps z with
     |some l=>some (.agg ⟨l⟩,h)
     |none=>none
    |none=>none
   |none=>none
  |_,_=>none
 | .buildSlice t len parts=>match P.underlying t with
  |some (.slice e)=>match aV P e,zeroCells P e with
   |some size,some z=>match cy tm size parts.toList,Nat.beq z.length size,Nat.ble (len*size) 16777216 with
    |some ps,true,true=>match jT ps (eo len z) with
     |some l=>match qF h e l with
      |(.pointer a,h)=>some (.slice a len len,h)
      |_=>none
     |none=>none
    |_,_,_=>none
   |_,_=>none
  |_=>none
 | .load t x=>match aL tm x with
  |some (.pointer (some a))=>match ld P G t h a with
   |some v=>some (v,h)
   |none=>none
  |_=>none
 | .store t x y=>match aL tm x,aL tm y with
  |some (.pointer (some a)),some v=>match st P t h a v with
   |some h=>some (undef,h)
   |none=>none
  |_,_=>none
 | .nilCheck x=>match aL tm x with
  |some (.pointer none)=>none
  |some .nilIface=>none
  |some .nilFunc=>none
  |some (.func (.method _) _ _)=>none
  |some v=>some (v,h)
  |none=>none
 | .binOp op t x y _=>match aL tm x,aL tm y with
  |some a,some b=>match Gz P op t x y a b with
   |some v=>some (v,h)
   |none=>none
  |_,_=>none
 | .unOp op _ x=>match aL tm x with
  |some a=>match bL a with
   |true=>match guarded (bw P (Op.unary op a)) with
    |some v=>some (v,h)
    |none=>none
   |false=>none
  |none=>none
 | .convert s d x=>match aL tm x with
  |some v=>wG P G s d v h
  |none=>none
 | .makeInterface t x=>match aL tm x,P.underlying t with
  |some _,some (.interface _)=>none
  |some v,some _=>some (.iface t v,h)
  |_,_=>none
 | .makeFunc fn f c=>match fn with
  | .func g=>match cO tm f.toList,cO tm c.toList with
   |some f,some c=>some (.func (.func g) ⟨f⟩ ⟨c⟩,h)
   |_,_=>none
  |_=>none
 | .makeMap _ none=>some (.map (some (2*h.next)),{next:=h.next+1,bs:=h.bs.set h.next (.map [])})
 | .makeMap t (some x)=>match aL tm x,P.underlying t with
  |some (.int _ _),some (.map _ _)=>some (.map (some (2*h.next)),{next:=h.next+1,bs:=h.bs.set h.next (.map [])})
  |_,_=>none
 | .makeSlice t l c=>match P.underlying t with
  |some (.slice e)=>match aL tm l,aL tm c,zeroCells P e,aV P e,fP P e with
   |some l,some c,some z,some size,some bytes=>match cm l,cm c with
    |some l,some c=>match Nat.ble l c,Nat.ble (bytes*c+c) 281474976710656,Nat.beq z.length size with
     |true,true,true=>match qF h e (eo c z) with
      |(.pointer a,h)=>some (.slice a l c,h)
      |_=>none
     |_,_,_=>none
    |_,_=>none
   |_,_,_,_,_=>none
  |_=>none
 | .slice t x lo hi mx=>match aL tm x,eF tm lo,eF tm hi,eF tm mx with
  |some v,some lo,some hi,some mx=>match Ge P t v lo hi mx with
   |some v=>some (v,h)
   |none=>none
  |_,_,_,_=>none
 | .fieldAddr s x f=>match aL tm x,P.underlying s with
  |some (.pointer (some a)),some (.struct fs)=>match fs.toList[f]? with
   |some fd=>match aV P fd.type with
    |some 0=>none
    |some _=>some (.pointer (some (dB a fd.offset)),h)
    |none=>none
   |none=>none
  |_,_=>none
 | .field t x f=>match aL tm x,P.underlying t with
  |some (.agg ⟨cs⟩),some (.struct fs)=>match fs.toList[f]? with
   |some fd=>match wH P fd.type cs fd.offset with
    |some v=>some (v,h)
    |none=>none
   |none=>none
  |_,_=>none
 | .indexAddr t x i=>match aL tm x,aL tm i,P.underlying t with
  |some (.slice (some a) n _),some i,some (.slice e)=>match cm i,aV P e with
   |some i,some size=>match Nat.blt i n with
    |true=>some (.pointer (some (dB {a with spot:=none} (i*size))),h)
    |false=>none
   |_,_=>none
  |some (.pointer (some a)),some i,some (.array n e)=>match cm i,aV P e with
   |some i,some size=>match Nat.blt i n with
    |true=>some (.pointer (some (dB a (i*size))),h)
    |false=>none
   |_,_=>none
  |_,_,_=>none
 | .index t x i=>match aL tm x,aL tm i,P.underlying t with
  |some (.string s),some i,some .string=>match cm i with
   |some i=>match s.data.toList[i]? with
    |some b=>some (.int .u8 b.toNat,h)
    |none=>none
   |none=>none
  |some (.agg ⟨cs⟩),some i,some (.array n e)=>match cm i,aV P e with
   |some i,some size=>match Nat.blt i n with
    |true=>match wH P e cs (i*size) with
     |some v=>some (v,h)
     |none=>none
    |false=>none
   |_,_=>none
  |_,_,_=>none
 | .lookup t x i ok=>match aL tm x,aL tm i,P.underlying t with
  |some (.map r),some k,some (.map kt e)=>
   match mapOf h r,kindOk (P.underlying kt) k with
   |none,_=>none
   |some [],false=>match bL k with
    |true=>match guarded (bw P (Instr.lookup t (.map none) k ok)) with
     |some v=>some (v,h)
     |none=>none
    |false=>none
   |some (_::_),false=>none
   |some es,true=>match um k es with
    |none=>none
    |some (some v)=>match ok with
     |true=>some (.tuple ⟨[v, .bool true]⟩,h)
     |false=>some (v,h)
    |some none=>match bA P e with
     |none=>none
     |some z=>match bL z,ok with
      |true,true=>some (.tuple ⟨[z, .bool false]⟩,h)
      |true,false=>some (z,h)
      |false,_=>none
  |_,_,_=>none
 | .mapUpdate t m k v=>match aL tm m,aL tm k,aL tm v with
  |some (.map (some r)),some k,some v=>s6 P t r k v h
  |_,_,_=>none
 | .insert t m k v=>match aL tm m,aL tm k,aL tm v with
  |some (.map (some r)),some k,some v=>s6 P t r k v h
  |_,_,_=>none
 | .extract x i=>match aL tm x with
  |some (.tuple ⟨l⟩)=>match l[i]? with
   |some v=>some (v,h)
   |none=>none
  |_=>none
 | .typeAssert x _ a ok=>match ok with
  |true=>match aL tm x with
   |some v=>match ZJ P a v with
    |some r=>some (r,h)
    |none=>none
   |none=>none
  |false=>none
 | .call {callee:= .builtin b,args,argTypes}=>
  match cO tm args.toList with
  |some l=>FB P G b l argTypes.toList h
  |none=>none
 |_=>none
def su:Op→Bool
 | .alloc _| .box _ _| .buildSlice _ _ _| .makeSlice _ _ _| .makeMap _ _=>true
 |_=>false
def lC:Op→Bool
 | .move _| .assign _| .pick _ _ _| .build _ _| .load _ _| .nilCheck _| .binOp _ _ _ _ _| .unOp _ _ _| .makeInterface _ _| .typeAssert _ _ _ _| .makeFunc _ _ _| .slice _ _ _ _ _| .fieldAddr _ _ _| .field _ _ _
 | .indexAddr _ _ _| .index _ _ _| .lookup _ _ _ _| .extract _ _=>true
 | .convert _ d _=>match P.underlying d with
  |some (.slice _)=>false
  |_=>true
 | .call {callee:= .builtin b,args:=_,argTypes:=_}=>match b with
  | .len=>true
  | .min=>true
  | .max=>true
  |_=>false
 |_=>false
inductive Ex where|normal|exit (id:Nat)|goto (l:Nat)|ret
inductive Tg where
 |fn (f:FuncId)
 |vM (r:Nat)
def target:Value→List Value→Option (Tg×List Value)
 | .func (.func f) ⟨first⟩ ⟨captured⟩,args=>some (.fn f,first++args++captured)
 | .func (.yield r) ⟨[]⟩ ⟨[]⟩,args=>some (.vM r,args)
 |_,_=>none
def AX (tm:TM) (h:Hp):List ResultVar→Option (List Value)
 |[]=>some []
 | .tmp t::l=>match tm.get t,AX tm h l with
  |some v,some r=>some (v::r)
  |_,_=>none
 | .cell a t::l=>match tm.get a with
  |some (.pointer (some a))=>match ld P G t h a,AX tm h l with
   |some v,some r=>some (v::r)
   |_,_=>none
  |_=>none
abbrev uo:=Option (Ex×TM×Hp)
def c8 (ops:List Oper) (tm:TM):Option (Nat×Bool)→Option Bool
 |none=>some true
 |some (j,want)=>match ops[j]? with
  |some o=>match o.dst with
   |some d=>match tm.get d with
    |some (.bool b)=>some (b==want)
    |some (.tuple _)=>some false
    |_=>none
   |none=>none
  |none=>none
def mC (tm:TM) (dst:Option Nat) (nt:Nat) (v:Value):Option TM:=
 match dst with
 |none=>some tm
 |some d=>match Nat.blt d nt with
  |true=>some (tm.set d v)
  |false=>none
abbrev Call:=Tg→List Value→Hp→Option (Value×Hp)
def GC (t:TypeId) (x:Value) (lo hi:Option Value) (h:Hp):Option (Value×Hp):=match x with
 | .slice (some a) len cap=>match a.spot,P.underlying t with
  |some _,some (.slice elem)=>match aV P elem,cm (hi.getD (.int .i64 len)),cm (lo.getD (.int .i64 (0:Nat))) with
   |some _,some q,some l=>match Nat.beq l cap,Nat.beq q cap with
    |true,true=>some (.slice (some ⟨2*h.next,0,some 0⟩) 0 0,{next:=h.next+1,bs:=h.bs.set h.next .dead})
    |_,_=>none
   |_,_,_=>none
  |_,_=>none
 |_=>none
def L6 (t:TypeId) (x:Value) (h:Hp):Option (Value×Hp):=match x with
 | .slice none _ _=>match P.underlying t with
  |some _=>some (.tuple ⟨[]⟩,h)
  |none=>none
 | .slice (some a) n _=>match P.underlying t with
  |some (.slice elem)=>match Nat.beq n 0 with
   |true=>some (.tuple ⟨[]⟩,h)
   |false=>match zeroCells P elem,bk a.block with
    |some z, .new i=>match h.bs.get i with
     |some (.cells sz ty cs)=>match dV (eo n z) a.off sz cs with
      |some cs'=>some (.tuple ⟨[]⟩,{h with bs:=h.bs.set i (.cells sz ty cs')})
      |none=>none
     |_=>none
    |_,_=>none
  |_=>none
 |_=>none
def oI (o:Op) (tm:TM) (h:Hp):Option (Value×Hp):=match o with
 | .call {callee:= .builtin .clear,args,argTypes}=>match cO tm args.toList,argTypes.toList with
  |some [x],t::_=>L6 P t x h
  |_,_=>none
 | .slice t x lo hi none=>match aL tm x,eF tm lo,eF tm hi with
  |some x,some lo,some hi=>GC P t x lo hi h
  |_,_,_=>none
 |_=>none
def abN (t:TypeId) (name:String):Option FuncId:=match P.info? t with
 |some info=>match info.methods.find? (fun m=>m.name==name) with
  |some m=>match m.path.toList,m.func with
   |[],some (f,false)=>match P.underlying t with
    |some (.struct _)=>some f
    |_=>none
   |_,_=>none
  |none=>none
 |none=>none
def WK (call:Call) (t:TypeId) (v:Value) (name:String) (args:List Value) (h:Hp):Option (Value×Hp):=match abN P t name with
 |some f=>match P.funcs[f]? with
  |some fn=>match fn.body with
   |some _=>call (.fn f) (v::args) h
   |none=>none
  |none=>none
 |none=>none
def sw (E:FuncId→List Value→Option Value) (call:Call) (o:Oper) (tm:TM) (h:Hp):Option (Value×Hp):=
 match o.op with
 | .call {callee:= .value f,args,argTypes:=_}=>match aL tm f,cO tm args.toList with
  |some f,some args=>match target f args with
   |some (.fn f,args)=>match P.funcs[f]? with
    |some fn=>match fn.body with
     |some _=>call (.fn f) args h
     |none=>match E f args with
      |some v=>some (v,h)
      |none=>none
    |none=>none
   |some (.vM r,args)=>call (.vM r) args h
   |none=>none
  |_,_=>none
 | .call {callee:= .invoke x name,args,argTypes:=_}=>match aL tm x,cO tm args.toList with
  |some (.iface t v),some args=>WK P call t v name args h
  |_,_=>none
 |op=>match dr P G op tm h with
  |some r=>some r
  |none=>oI P op tm h
end
end
end Go.Sim
namespace Go.Sim
noncomputable section
def aa0 (k:IntKind):Nat:=IntKind.rec (motive:=fun _=>Nat) (nat_lit 0) (nat_lit 1) (nat_lit 2) (nat_lit 3) (nat_lit 4) (nat_lit 5) (nat_lit 6) (nat_lit 7) k
def L7 (k l:IntKind):Bool:=Nat.beq (aa0 k) (aa0 l)
theorem Tk {k l:IntKind} (h:L7 k l=true):k=l:=by
 cases k<;>cases l<;>first|rfl|(exact absurd h (by decide))
def UI (k:IntKind):Nat:=IntKind.rec (motive:=fun _=>Nat) (nat_lit 128) (nat_lit 32768) (nat_lit 2147483648) (nat_lit 9223372036854775808) (nat_lit 256) (nat_lit 65536) (nat_lit 4294967296) (nat_lit 18446744073709551616) k
def abO (k:IntKind):Nat:=IntKind.rec (motive:=fun _=>Nat) (nat_lit 128) (nat_lit 32768) (nat_lit 2147483648) (nat_lit 9223372036854775808) (nat_lit 0) (nat_lit 0) (nat_lit 0) (nat_lit 0) k
def isU (k:IntKind):Bool:=IntKind.rec (motive:=fun _=>Bool) false false false false true true true true k
def GD (k:IntKind) (m:Nat):Int:=Bool.rec (motive:=fun _=>Int) (Bool.rec (motive:=fun _=>Int) (k.wrap (.ofNat m)) (.ofNat (Nat.mod m (UI k))) (isU k)) (.ofNat m) (Nat.ble (Nat.succ m) (UI k))
def WL (k:IntKind) (m:Nat):Int:=Bool.rec (motive:=fun _=>Int) (k.wrap (.negSucc m)) (.negSucc m) (Nat.ble (Nat.succ m) (abO k))
def qK (k:IntKind) (n:Int):Int:=Int.rec (motive:=fun _=>Int) (GD k) (WL k) n
theorem JD {k:IntKind} (h:isU k=true) (m:Nat):k.wrap (.ofNat m)= .ofNat (m%UI k):=by
 cases k<;>first|(exact absurd h (by decide))|skip
 all_goals
  unfold IntKind.wrap;simp only [IntKind.bits,IntKind.signed,Bool.false_and,Bool.false_eq_true,if_false,UI];rfl
set_option maxRecDepth 20000 in
theorem pY (k:IntKind) (n:Int):qK k n=k.wrap n:=by
 cases n with
 |ofNat m=>
  show GD k m=_
  unfold GD;cases hb:Nat.ble (Nat.succ m) (UI k) with
  |true=>
   have:m<UI k:=Nat.le_of_ble_eq_true hb;show Int.ofNat m=_
   cases k with
   |i8=>have h:m<128:=this; exact (Go.IntWalk.i8_in _ (by simp only [Int.ofNat_eq_natCast]; omega)).symm
   |i16=>have h:m<32768:=this; exact (Go.IntWalk.i16_in _ (by simp only [Int.ofNat_eq_natCast]; omega)).symm
   |i32=>have h:m<2147483648:=this; exact (Go.IntWalk.i32_in _ (by simp only [Int.ofNat_eq_natCast]; omega)).symm
   |i64=>have h:m<9223372036854775808:=this; exact (Go.IntWalk.i64_in _ (by simp only [Int.ofNat_eq_natCast]; omega)).symm
   |u8=>have h:m<256:=this; exact (Go.IntWalk.u8_in _ (by simp only [Int.ofNat_eq_natCast]; omega)).symm
   |u16=>have h:m<65536:=this; exact (Go.IntWalk.u16_in _ (by simp only [Int.ofNat_eq_natCast]; omega)).symm
   |u32=>have h:m<4294967296:=this; exact (Go.IntWalk.u32_in _ (by simp only [Int.ofNat_eq_natCast]; omega)).symm
   |u64=>have h:m<18446744073709551616:=this; exact (Go.IntWalk.u64_in _ (by simp only [Int.ofNat_eq_natCast]; omega)).symm
  |false=>
   cases hu:isU k with
   |false=>rfl
   |true=>exact (JD hu m).symm
 |negSucc m=>
  show WL k m=_
  unfold WL;cases hb:Nat.ble (Nat.succ m) (abO k) with
  |true=>
   have:m<abO k:=Nat.le_of_ble_eq_true hb;show Int.negSucc m=_
   cases k with
   |i8=>have h:m<128:=this; exact (Go.IntWalk.i8_in _ (by omega)).symm
   |i16=>have h:m<32768:=this; exact (Go.IntWalk.i16_in _ (by omega)).symm
   |i32=>have h:m<2147483648:=this; exact (Go.IntWalk.i32_in _ (by omega)).symm
   |i64=>have h:m<9223372036854775808:=this; exact (Go.IntWalk.i64_in _ (by omega)).symm
   |u8=>exact absurd this (Nat.not_lt_zero _)
   |u16=>exact absurd this (Nat.not_lt_zero _)
   |u32=>exact absurd this (Nat.not_lt_zero _)
   |u64=>exact absurd this (Nat.not_lt_zero _)
  |false=>rfl
def JE (m n:Nat):Int:=Bool.rec (motive:=fun _=>Int) (.negSucc (Nat.pred (Nat.sub n m))) (.ofNat (Nat.sub m n)) (Nat.ble n m)
theorem Gf (m n:Nat):JE m n=(m:Int) - (n:Int):=by
 unfold JE;cases h:Nat.ble n m with
 |true=>
  have:n≤m:=Nat.le_of_ble_eq_true h;show Int.ofNat (m - n)=_
  simp only [Int.ofNat_eq_natCast];omega
 |false=>
  have: ¬ n≤m:=fun hh=>by rw [Nat.ble_eq_true_of_le hh] at h; cases h
  show Int.negSucc (n - m).pred=_
  rw [Int.negSucc_eq];have:(n - m).pred+1=n - m:=by rw [Nat.pred_eq_sub_one]; omega
  omega
def WM (a b:Int):Int:=Int.rec (motive:=fun _=>Int)
 (fun m=>Int.rec (motive:=fun _=>Int) (fun n=> .ofNat (Nat.add m n)) (fun n=>JE m (Nat.succ n)) b)
 (fun m=>Int.rec (motive:=fun _=>Int) (fun n=>JE n (Nat.succ m)) (fun n=> .negSucc (Nat.succ (Nat.add m n))) b) a
theorem Tl (a b:Int):WM a b=a+b:=by
 cases a with
 |ofNat m=>
  cases b with
  |ofNat n=>rfl
  |negSucc n=>show JE m (Nat.succ n)=_; rw [Gf]; simp only [Int.ofNat_eq_natCast]; omega
 |negSucc m=>
  cases b with
  |ofNat n=>show JE n (Nat.succ m)=_; rw [Gf]; simp only [Int.ofNat_eq_natCast]; omega
  |negSucc n=>rfl
def JF (a:Int):Int:=Int.rec (motive:=fun _=>Int) (fun m=>JE (nat_lit 0) m) (fun m=> .ofNat (Nat.succ m)) a
theorem Gg (a:Int):JF a= -a:=by
 cases a with
 |ofNat m=>show JE 0 m=_; rw [Gf]; simp only [Int.ofNat_eq_natCast]; omega
 |negSucc m=>rfl
def abP (a b:Int):Int:=Int.rec (motive:=fun _=>Int)
 (fun m=>Int.rec (motive:=fun _=>Int) (fun n=>JE m n) (fun n=> .ofNat (Nat.add m (Nat.succ n))) b)
 (fun m=>WM (.negSucc m) (JF b)) a
theorem ZK (a b:Int):abP a b=a - b:=by
 cases a with
 |ofNat m=>
  cases b with
  |ofNat n=>show JE m n=_; rw [Gf]; rfl
  |negSucc n=>show Int.ofNat (m+(n+1))=_; simp only [Int.ofNat_eq_natCast]; omega
 |negSucc m=>show WM (.negSucc m) (JF b)=_; rw [Tl,Gg]; omega
def abQ (a b:Int):Int:=Int.rec (motive:=fun _=>Int)
 (fun m=>Int.rec (motive:=fun _=>Int) (fun n=> .ofNat (Nat.mul m n)) (fun n=>JF (.ofNat (Nat.mul m (Nat.succ n)))) b)
 (fun m=>Int.rec (motive:=fun _=>Int) (fun n=>JF (.ofNat (Nat.mul (Nat.succ m) n))) (fun n=> .ofNat (Nat.mul (Nat.succ m) (Nat.succ n))) b) a
theorem ZL (a b:Int):abQ a b=a*b:=by
 cases a with
 |ofNat m=>
  cases b with
  |ofNat n=>rfl
  |negSucc n=>show JF (.ofNat (m*(n+1)))=_; rw [Gg]; rfl
 |negSucc m=>
  cases b with
  |ofNat n=>show JF (.ofNat ((m+1)*n))=_; rw [Gg]; rfl
  |negSucc n=>rfl
def leN (a:Nat) (b:Int):Bool:=Int.rec (motive:=fun _=>Bool) (fun n=>Nat.ble a n) (fun _=>false) b
def leM (m:Nat) (b:Int):Bool:=Int.rec (motive:=fun _=>Bool) (fun _=>true) (fun n=>Nat.ble n m) b
def GF (a b:Int):Bool:=Int.rec (motive:=fun _=>Bool) (fun m=>leN m b) (fun m=>leM m b) a
theorem Db (a b:Int):GF a b=decide (a≤b):=by
 have hb: ∀ (x y:Nat),Nat.ble x y=decide (x≤y):=fun x y=>by
  by_cases h:x≤y
  ·rw [Nat.ble_eq_true_of_le h,decide_eq_true h]
  ·rw [decide_eq_false h]
   cases e:Nat.ble x y with
   |false=>rfl
   |true=>exact absurd (Nat.le_of_ble_eq_true e) h
 cases a with
 |ofNat m=>
  cases b with
  |ofNat n=>show Nat.ble m n=_; rw [hb]; exact decide_eq_decide.mpr (by first|omega|(simp only [Int.ofNat_eq_natCast]; omega))
  |negSucc n=>show false=_; exact (decide_eq_false (by first|omega|(simp only [Int.ofNat_eq_natCast]; omega))).symm
 |negSucc m=>
  cases b with
  |ofNat n=>show true=_; exact (decide_eq_true (by first|omega|(simp only [Int.ofNat_eq_natCast]; omega))).symm
  |negSucc n=>show Nat.ble n m=_; rw [hb]; exact decide_eq_decide.mpr (by first|omega|(simp only [Int.ofNat_eq_natCast]; omega))
def Dc (b:Bool):Bool:=Bool.rec (motive:=fun _=>Bool) true false b
theorem Gh (b:Bool):Dc b= !b:=by cases b<;>rfl
def UJ (a b:Int):Bool:=Int.rec (motive:=fun _=>Bool)
 (fun m=>Int.rec (motive:=fun _=>Bool) (fun n=>Nat.beq m n) (fun _=>false) b)
 (fun m=>Int.rec (motive:=fun _=>Bool) (fun _=>false) (fun n=>Nat.beq m n) b) a
theorem RD (a b:Int):UJ a b=(a==b):=by
 have hb: ∀ (x y:Nat),Nat.beq x y=decide (x=y):=fun x y=>by
  by_cases h:x=y
  ·subst h; simp
  ·rw [decide_eq_false h]
   cases e:Nat.beq x y with
   |false=>rfl
   |true=>exact absurd (Nat.eq_of_beq_eq_true e) h
 rw [show (a==b)=decide (a=b) from rfl];cases a with
 |ofNat m=>
  cases b with
  |ofNat n=>show Nat.beq m n=_; rw [hb]; exact decide_eq_decide.mpr (by first|omega|(simp only [Int.ofNat_eq_natCast]; omega))
  |negSucc n=>show false=_; exact (decide_eq_false (by first|omega|(simp only [Int.ofNat_eq_natCast]; omega))).symm
 |negSucc m=>
  cases b with
  |ofNat n=>show false=_; exact (decide_eq_false (by first|omega|(simp only [Int.ofNat_eq_natCast]; omega))).symm
  |negSucc n=>show Nat.beq m n=_; rw [hb]; exact decide_eq_decide.mpr (by first|omega|(simp only [Int.ofNat_eq_natCast]; omega))
def L8 (f:Nat→Nat→Option Value) (a b:Int):Option Value:=Int.rec (motive:=fun _=>Option Value)
 (fun m=>Int.rec (motive:=fun _=>Option Value) (fun n=>f m n) (fun _=>none) b) (fun _=>none) a
theorem yq {f:Nat→Nat→Option Value} {a b:Int} {v:Value} (h:L8 f a b=some v): ∃ m n:Nat,a= .ofNat m∧b= .ofNat n∧f m n=some v:=by
 cases a with
 |ofNat m=>
  cases b with
  |ofNat n=>exact ⟨m,n,rfl,rfl,h⟩
  |negSucc n=>cases h
 |negSucc m=>cases h
def ZM (k:IntKind) (m n:Nat):Option Value:=Bool.rec (motive:=fun _=>Option Value) (some (.int k (GD k (Nat.div m n)))) none (Nat.beq n (nat_lit 0))
def ZN (k:IntKind) (m n:Nat):Option Value:=Bool.rec (motive:=fun _=>Option Value) (some (.int k (.ofNat (Nat.mod m n)))) none (Nat.beq n (nat_lit 0))
def ZO (k:IntKind) (m n:Nat):Option Value:=Bool.rec (motive:=fun _=>Option Value) none (some (.int k (GD k (Nat.mul m (Nat.pow (nat_lit 2) n))))) (Nat.ble n k.bits)
def ZP (k:IntKind) (m n:Nat):Option Value:=Bool.rec (motive:=fun _=>Option Value) none (some (.int k (.ofNat (Nat.div m (Nat.pow (nat_lit 2) n))))) (Nat.ble n k.bits)
def ZQ (op:BinOp) (k:IntKind) (a b:Int):Option Value:=match op with
 | .add=>some (.int k (qK k (WM a b)))
 | .sub=>some (.int k (qK k (abP a b)))
 | .mul=>some (.int k (qK k (abQ a b)))
 | .eql=>some (.bool (UJ a b))
 | .neq=>some (.bool (Dc (UJ a b)))
 | .lss=>some (.bool (Dc (GF b a)))
 | .leq=>some (.bool (GF a b))
 | .gtr=>some (.bool (Dc (GF a b)))
 | .geq=>some (.bool (GF b a))
 | .quo=>L8 (ZM k) a b
 | .rem=>L8 (ZN k) a b
 | .shl=>L8 (ZO k) a b
 | .shr=>L8 (ZP k) a b
 |_=>none
theorem RE (P:Program) {op:BinOp} {k:IntKind} {a b:Int} {v:Value} (h:ZQ op k a b=some v) (T:TypeId):guarded (bw P (binOp op T (.int k a) (.int k b)))=some v:=by
 have pr: ∀ (x:Value),bw P (pure x:Sem Value)=some x:=fun x=>rfl
 have bz: ∀ n:Nat,Nat.beq n (nat_lit 0)=false→(Int.ofNat n)≠0:=by
  intro n hn h0;have:n=0:=by simp only [Int.ofNat_eq_natCast] at h0; omega
  subst this;cases hn
 cases op with
 |add=>cases h; simp [binOp,Op.intArith,bw,guarded,bL,pY,Tl,pr]
 |sub=>cases h; simp [binOp,Op.intArith,bw,guarded,bL,pY,ZK,pr]
 |mul=>cases h; simp [binOp,Op.intArith,bw,guarded,bL,pY,ZL,pr]
 |eql=>cases h; simp [binOp,Op.intCmp,bw,guarded,bL,RD,pr]
 |neq=>cases h; simp [binOp,Op.intCmp,bw,guarded,bL,RD,Gh,pr,bne]
 |lss=>
  cases h;have:Dc (GF b a)=decide (a<b):=by rw [Gh,Db, ←decide_not]; exact decide_eq_decide.mpr (by first|omega|(simp only [Int.ofNat_eq_natCast]; omega))
  simp [binOp,Op.intCmp,bw,guarded,bL,this,pr]
 |leq=>cases h; simp [binOp,Op.intCmp,bw,guarded,bL,Db,pr]
 |gtr=>
  cases h;have:Dc (GF a b)=decide (a>b):=by rw [Gh,Db, ←decide_not]; exact decide_eq_decide.mpr (by first|omega|(simp only [Int.ofNat_eq_natCast]; omega))
  simp [binOp,Op.intCmp,bw,guarded,bL,this,pr]
 |geq=>cases h; simp [binOp,Op.intCmp,bw,guarded,bL,Db,pr]
 |quo=>
  obtain ⟨m,n,rfl,rfl,h2⟩:=yq (f:=ZM k) h;clear h;have h:=h2;clear h2;unfold ZM at h;cases hn:Nat.beq n (nat_lit 0) with
  |true=>rw [hn] at h; cases h
  |false=>
   rw [hn] at h;cases h;have h0:=bz n hn;have:GD k (Nat.div m n)=k.wrap ((Int.ofNat m).tdiv (Int.ofNat n)):=by rw [← pY]; rfl
   simp only [binOp,Op.intDiv,ne_eq,not_true_eq_false,if_false,if_neg h0,this,pr,guarded,bL]
 |rem=>
  obtain ⟨m,n,rfl,rfl,h2⟩:=yq (f:=ZN k) h;clear h;have h:=h2;clear h2;unfold ZN at h;cases hn:Nat.beq n (nat_lit 0) with
  |true=>rw [hn] at h; cases h
  |false=>
   rw [hn] at h;cases h;have h0:=bz n hn;have:(Int.ofNat (Nat.mod m n))=((Int.ofNat m).tmod (Int.ofNat n)):=rfl;simp only [binOp,Op.intDiv,ne_eq,not_true_eq_false,if_false,if_neg h0,this,pr,guarded,bL]
 |shl=>
  obtain ⟨m,n,rfl,rfl,h2⟩:=yq (f:=ZO k) h;clear h;have h:=h2;clear h2;unfold ZO at h;cases hn:Nat.ble n k.bits with
  |false=>rw [hn] at h; cases h
  |true=>
   rw [hn] at h;cases h;have hle:n≤k.bits:=Nat.le_of_ble_eq_true hn;have h0: ¬ (Int.ofNat n)<0:=by simp only [Int.ofNat_eq_natCast]; omega
   have:GD k (Nat.mul m (Nat.pow 2 n))=k.wrap ((Int.ofNat m)*2 ^ (min (Int.ofNat n).toNat k.bits)):=by
    rw [← pY];have e:min (Int.ofNat n).toNat k.bits=n:=by simp; omega
    rw [e];have:(Int.ofNat m)*2 ^ n=Int.ofNat (m*2 ^ n):=by simp
    rw [this]; rfl
   simp only [binOp,Op.shift,if_neg h0,pr,guarded,bL,this]
 |shr=>
  obtain ⟨m,n,rfl,rfl,h2⟩:=yq (f:=ZP k) h;clear h;have h:=h2;clear h2;unfold ZP at h;cases hn:Nat.ble n k.bits with
  |false=>rw [hn] at h; cases h
  |true=>
   rw [hn] at h;cases h;have hle:n≤k.bits:=Nat.le_of_ble_eq_true hn;have h0: ¬ (Int.ofNat n)<0:=by simp only [Int.ofNat_eq_natCast]; omega
   have:(Int.ofNat (Nat.div m (Nat.pow 2 n)))=(Int.ofNat m).fdiv (2 ^ (min (Int.ofNat n).toNat k.bits)):=by
    have e:min (Int.ofNat n).toNat k.bits=n:=by simp; omega
    rw [e];have:(2:Int) ^ n=Int.ofNat (2 ^ n):=by simp
    rw [this];show _=Int.fdiv (m:Int) ((2 ^ n:Nat):Int)
    rw [Int.fdiv_eq_ediv_of_nonneg _ (Int.natCast_nonneg _)];rfl
   simp only [binOp,Op.shift,if_neg h0,pr,guarded,bL,this]
 |_=>cases h
def GG {α:Type} (f:IntKind→Int→α) (z:α) (v:Value):α:=match v with
 | .int k n=>f k n
 |_=>z
def aa1 (op:BinOp) (k:IntKind) (a:Int) (l:IntKind) (b:Int):Option Value:=Bool.rec (motive:=fun _=>Option Value) none (ZQ op k a b) (L7 k l)
def UK (op:BinOp) (a b:Value):Option Value:=GG (fun k n=>GG (fun l m=>aa1 op k n l m) none b) none a
theorem RF (P:Program) {op:BinOp} {a b:Value} {v:Value} (h:UK op a b=some v) (T:TypeId) (x y:Operand):Gz P op T x y a b=some v:=by
 unfold UK GG at h;split at h
 ·rename_i k n
  split at h
  ·rename_i l m
   dsimp only at h;unfold aa1 at h;cases he:L7 k l with
   |false=>rw [he] at h; cases h
   |true=>
    rw [he] at h;obtain rfl:=Tk he;exact RE P h T
  ·cases h
 ·cases h
def Ol (P:Program) (op:BinOp) (T:TypeId) (x y:Operand) (a b:Value):Option Value:=Option.rec (motive:=fun _=>Option Value) (Gz P op T x y a b) (fun v=>some v) (UK op a b)
theorem WN (P:Program) (op:BinOp) (T:TypeId) (x y:Operand) (a b:Value):Ol P op T x y a b=Gz P op T x y a b:=by
 unfold Ol;cases h:UK op a b with
 |none=>rfl
 |some v=>exact (RF P h T x y).symm
end
end Go.Sim
namespace Go.Sim
noncomputable section
section
variable (P:Program) (G:Nat→Option (List Value))
def L9 (x:Operand) (tm:TM) (h:Hp):Option (Value×Hp):=match aL tm x with|some v=>some (v,h)|none=>none
def Om (x:Operand) (tm:TM) (h:Hp):Option (Value×Hp):=match aL tm x with|some v=>some (v,h)|none=>none
def L_ (c:Operand) (a:Operand) (b:Operand) (tm:TM) (h:Hp):Option (Value×Hp):=match aL tm c with
  |some (.bool true)=>match aL tm a with|some v=>some (v,h)|none=>none
  |some (.bool false)=>match aL tm b with|some v=>some (v,h)|none=>none
  |_=>none
def Gi (t:TypeId) (tm:TM) (h:Hp):Option (Value×Hp):=match zeroCells P t with
  |some l=>some (qF h t l)
  |none=>none
def Tm (t:TypeId) (x:Operand) (tm:TM) (h:Hp):Option (Value×Hp):=match aL tm x with
  |some v=>some (qF h t (bC v))
  |none=>none
def yu (t:TypeId) (parts:Array (Nat×Operand)) (tm:TM) (h:Hp):Option (Value×Hp):=match zeroCells P t,P.underlying t with
  |some z,some (.struct fs)=>match fO P fs.toList,bH P tm fs.toList parts.toList with
   |true,some ps=>match jT ps z with
    |some l=>some (.agg ⟨l⟩,h)
    |none=>none
   |_,_=>none
  |some z,some (.array _ e)=>match aV P e with
   |some size=>match cy tm size parts.toList with
    |some ps=>match jT ps z with
     |some l=>some (.agg ⟨l⟩,h)
     |none=>none
    |none=>none
   |none=>none
  |_,_=>none
def AY (t:TypeId) (len:Nat) (parts:Array (Nat×Operand)) (tm:TM) (h:Hp):Option (Value×Hp):=match P.underlying t with
  |some (.slice e)=>match aV P e,zeroCells P e with
   |some size,some z=>match cy tm size parts.toList,Nat.beq z.length size,Nat.ble (len*size) 16777216 with
    |some ps,true,true=>match jT ps (eo len z) with
     |some l=>match qF h e l with
      |(.pointer a,h)=>some (.slice a len len,h)
      |_=>none
     |none=>none
    |_,_,_=>none
   |_,_=>none
  |_=>none
def On (t:TypeId) (m:Operand) (k:Operand) (v:Operand) (tm:TM) (h:Hp):Option (Value×Hp):=match aL tm m,aL tm k,aL tm v with
  |some (.map (some r)),some k,some v=>s6 P t r k v h
  |_,_,_=>none
def wI (t:TypeId) (x:Operand) (tm:TM) (h:Hp):Option (Value×Hp):=match aL tm x with
  |some (.pointer (some a))=>match ld P G t h a with
   |some v=>some (v,h)
   |none=>none
  |_=>none
def Tn (t:TypeId) (x:Operand) (y:Operand) (tm:TM) (h:Hp):Option (Value×Hp):=match aL tm x,aL tm y with
  |some (.pointer (some a)),some v=>match st P t h a v with
   |some h=>some (undef,h)
   |none=>none
  |_,_=>none
def GH (x:Operand) (tm:TM) (h:Hp):Option (Value×Hp):=match aL tm x with
  |some (.pointer none)=>none
  |some .nilIface=>none
  |some .nilFunc=>none
  |some (.func (.method _) _ _)=>none
  |some v=>some (v,h)
  |none=>none
def To (op:BinOp) (t:TypeId) (x:Operand) (y:Operand) (ah5:TypeId) (tm:TM) (h:Hp):Option (Value×Hp):=match aL tm x,aL tm y with
  |some a,some b=>match Gz P op t x y a b with
   |some v=>some (v,h)
   |none=>none
  |_,_=>none
def WO (op:UnOp) (ah6:TypeId) (x:Operand) (tm:TM) (h:Hp):Option (Value×Hp):=match aL tm x with
  |some a=>match bL a with
   |true=>match guarded (bw P (Op.unary op a)) with
    |some v=>some (v,h)
    |none=>none
   |false=>none
  |none=>none
def Ky (s:TypeId) (d:TypeId) (x:Operand) (tm:TM) (h:Hp):Option (Value×Hp):=match aL tm x with
  |some v=>wG P G s d v h
  |none=>none
def AZ (x:Operand) (a:TypeId) (ok:Bool) (tm:TM) (h:Hp):Option (Value×Hp):=match ok with
  |true=>match aL tm x with
   |some v=>match ZJ P a v with
    |some r=>some (r,h)
    |none=>none
   |none=>none
  |false=>none
def ji (t:TypeId) (x:Operand) (tm:TM) (h:Hp):Option (Value×Hp):=match aL tm x,P.underlying t with
  |some _,some (.interface _)=>none
  |some v,some _=>some (.iface t v,h)
  |_,_=>none
def GI (fn:Fn) (f:Array Operand) (c:Array Operand) (tm:TM) (h:Hp):Option (Value×Hp):=match fn with
  | .func g=>match cO tm f.toList,cO tm c.toList with
   |some f,some c=>some (.func (.func g) ⟨f⟩ ⟨c⟩,h)
   |_,_=>none
  |_=>none
def En (t:TypeId) (l:Operand) (c:Operand) (tm:TM) (h:Hp):Option (Value×Hp):=match P.underlying t with
  |some (.slice e)=>match aL tm l,aL tm c,zeroCells P e,aV P e,fP P e with
   |some l,some c,some z,some size,some bytes=>match cm l,cm c with
    |some l,some c=>match Nat.ble l c,Nat.ble (bytes*c+c) 281474976710656,Nat.beq z.length size with
     |true,true,true=>match qF h e (eo c z) with
      |(.pointer a,h)=>some (.slice a l c,h)
      |_=>none
     |_,_,_=>none
    |_,_=>none
   |_,_,_,_,_=>none
  |_=>none
def Tp (t:TypeId) (x:Operand) (lo:Option Operand) (hi:Option Operand) (mx:Option Operand) (tm:TM) (h:Hp):Option (Value×Hp):=match aL tm x,eF tm lo,eF tm hi,eF tm mx with
  |some v,some lo,some hi,some mx=>match Ge P t v lo hi mx with
   |some v=>some (v,h)
   |none=>none
  |_,_,_,_=>none
def nS (s:TypeId) (x:Operand) (f:Nat) (tm:TM) (h:Hp):Option (Value×Hp):=match aL tm x,P.underlying s with
  |some (.pointer (some a)),some (.struct fs)=>match fs.toList[f]? with
   |some fd=>match aV P fd.type with
    |some 0=>none
    |some _=>some (.pointer (some (dB a fd.offset)),h)
    |none=>none
   |none=>none
  |_,_=>none
def Tq (t:TypeId) (x:Operand) (f:Nat) (tm:TM) (h:Hp):Option (Value×Hp):=match aL tm x,P.underlying t with
  |some (.agg ⟨cs⟩),some (.struct fs)=>match fs.toList[f]? with
   |some fd=>match wH P fd.type cs fd.offset with
    |some v=>some (v,h)
    |none=>none
   |none=>none
  |_,_=>none
def jU (t:TypeId) (x:Operand) (i:Operand) (tm:TM) (h:Hp):Option (Value×Hp):=match aL tm x,aL tm i,P.underlying t with
  |some (.slice (some a) n _),some i,some (.slice e)=>match cm i,aV P e with
   |some i,some size=>match Nat.blt i n with
    |true=>some (.pointer (some (dB {a with spot:=none} (i*size))),h)
    |false=>none
   |_,_=>none
  |some (.pointer (some a)),some i,some (.array n e)=>match cm i,aV P e with
   |some i,some size=>match Nat.blt i n with
    |true=>some (.pointer (some (dB a (i*size))),h)
    |false=>none
   |_,_=>none
  |_,_,_=>none
def Ts (t:TypeId) (x:Operand) (i:Operand) (tm:TM) (h:Hp):Option (Value×Hp):=match aL tm x,aL tm i,P.underlying t with
  |some (.string s),some i,some .string=>match cm i with
   |some i=>match s.data.toList[i]? with
    |some b=>some (.int .u8 b.toNat,h)
    |none=>none
   |none=>none
  |some (.agg ⟨cs⟩),some i,some (.array n e)=>match cm i,aV P e with
   |some i,some size=>match Nat.blt i n with
    |true=>match wH P e cs (i*size) with
     |some v=>some (v,h)
     |none=>none
    |false=>none
   |_,_=>none
  |_,_,_=>none
def Oo (t:TypeId) (x:Operand) (i:Operand) (ok:Bool) (tm:TM) (h:Hp):Option (Value×Hp):=match aL tm x,aL tm i,P.underlying t with
  |some (.map r),some k,some (.map kt e)=>
   match mapOf h r,kindOk (P.underlying kt) k with
   |none,_=>none
   |some [],false=>match bL k with
    |true=>match guarded (bw P (Instr.lookup t (.map none) k ok)) with
     |some v=>some (v,h)
     |none=>none
    |false=>none
   |some (_::_),false=>none
   |some es,true=>match um k es with
    |none=>none
    |some (some v)=>match ok with
     |true=>some (.tuple ⟨[v, .bool true]⟩,h)
     |false=>some (v,h)
    |some none=>match bA P e with
     |none=>none
     |some z=>match bL z,ok with
      |true,true=>some (.tuple ⟨[z, .bool false]⟩,h)
      |true,false=>some (z,h)
      |false,_=>none
  |_,_,_=>none
def Eo (t:TypeId) (m:Operand) (k:Operand) (v:Operand) (tm:TM) (h:Hp):Option (Value×Hp):=match aL tm m,aL tm k,aL tm v with
  |some (.map (some r)),some k,some v=>s6 P t r k v h
  |_,_,_=>none
def yw (x:Operand) (i:Nat) (tm:TM) (h:Hp):Option (Value×Hp):=match aL tm x with
  |some (.tuple ⟨l⟩)=>match l[i]? with
   |some v=>some (v,h)
   |none=>none
  |_=>none
def yx (op:BinOp) (t:TypeId) (x y:Operand) (tm:TM) (h:Hp):Option (Value×Hp):=match aL tm x with
 |some a=>match aL tm y with
  |some b=>match Ol P op t x y a b with
   |some v=>some (v,h)
   |none=>none
  |none=>none
 |none=>none
theorem GJ (op:BinOp) (t:TypeId) (x y:Operand) (z:TypeId) (tm:TM) (h:Hp):yx P op t x y tm h=To P op t x y z tm h:=by
 unfold yx To;simp only [WN];cases aL tm x<;>cases aL tm y<;>rfl
def ad2 (a:Value):Option Value:=match a with
 | .bool b=>some (.bool (Dc b))
 |_=>none
def ad3 (a:Value):Option Value:=match a with
 | .int k n=>some (.int k (qK k (JF n)))
 |_=>none
def WQ (op:UnOp) (a:Value):Option Value:=match op with
 | .not=>ad2 a
 | .neg=>ad3 a
 |_=>none
theorem Oq {op:UnOp} {a v:Value} (e:WQ op a=some v):bL a=true∧guarded (bw P (Op.unary op a))=some v:=by
 have pr: ∀ (x:Value),bw P (pure x:Sem Value)=some x:=fun x=>rfl
 cases op with
 |not=>
  cases a with
  |bool b=>cases e; exact ⟨rfl,by simp only [Op.unary,pr,guarded,bL,Gh]⟩
  |_=>cases e
 |neg=>
  cases a with
  |int k n=>cases e; exact ⟨rfl,by simp only [Op.unary,Op.intArith,pr,guarded,bL,pY,Gg,Int.zero_sub]⟩
  |_=>cases e
 |_=>cases e
def RG (op:UnOp) (a:Value) (h:Hp):Option (Value×Hp):=match WQ op a with
 |some v=>some (v,h)
 |none=>match bL a with
  |true=>match guarded (bw P (Op.unary op a)) with
   |some v=>some (v,h)
   |none=>none
  |false=>none
def wJ (op:UnOp) (x:Operand) (tm:TM) (h:Hp):Option (Value×Hp):=match aL tm x with
 |some a=>RG P op a h
 |none=>none
theorem Kz (op:UnOp) (t:TypeId) (x:Operand) (tm:TM) (h:Hp):wJ P op x tm h=WO P op t x tm h:=by
 unfold wJ WO;cases aL tm x with
 |none=>rfl
 |some a=>
  show RG P op a h=(match bL a with
   |true=>match guarded (bw P (Op.unary op a)) with
    |some v=>some (v,h)
    |none=>none
   |false=>none)
  unfold RG;cases e:WQ op a with
  |none=>rfl
  |some v=>
   obtain ⟨h1,h2⟩:=Oq P e;rw [h1,h2]
def yy (s d:TypeId) (n:Int):Option Value:=match P.underlying s with
 |some _=>match P.underlying d with
  |some (.int k)=>some (.int k (qK k n))
  |_=>none
 |none=>none
theorem JG {s d:TypeId} {k:IntKind} {n:Int} {v:Value} (e:yy P s d n=some v):guarded (bw P (convert s d (.int k n)))=some v:=by
 unfold yy at e;cases h1:P.underlying s with
 |none=>rw [h1] at e; cases e
 |some d1=>
  rw [h1] at e;dsimp only at e;cases h2:P.underlying d with
  |none=>rw [h2] at e; cases e
  |some d2=>
   rw [h2] at e;cases d2 with
   |int k2=>
    cases e;rw [pY];simp only [convert,underlying,program,bw,bind,Sem.bind,h1,h2,Conv.intToInt,pure,guarded,bL]
   |_=>cases e
def Dd (s d:TypeId) (v:Value) (h:Hp):Option (Value×Hp):=match v with
 | .int k n=>match yy P s d n with
  |some v=>some (v,h)
  |none=>match guarded (bw P (convert s d (.int k n))) with
   |some v=>some (v,h)
   |none=>none
 |v=>wG P G s d v h
theorem UL (s d:TypeId) (v:Value) (h:Hp):Dd P G s d v h=wG P G s d v h:=by
 cases v with
 |int k n=>
  show (match yy P s d n with
   |some v=>some (v,h)
   |none=>match guarded (bw P (convert s d (.int k n))) with
    |some v=>some (v,h)
    |none=>none)=(match guarded (bw P (convert s d (.int k n))) with
    |some v=>some (v,h)
    |none=>none)
  cases e:yy P s d n with
  |none=>rfl
  |some v=>rw [JG P (k:=k) e]
 |_=>rfl
def jV (s d:TypeId) (x:Operand) (tm:TM) (h:Hp):Option (Value×Hp):=match aL tm x with
 |some v=>Dd P G s d v h
 |none=>none
theorem A0 (s d:TypeId) (x:Operand) (tm:TM) (h:Hp):jV P G s d x tm h=Ky P G s d x tm h:=by
 unfold jV Ky;simp only [UL]
def WR (i:Nat) (off:Nat) (v:Value) (o:Option dA) (h:Hp):Option (Value×Hp):=match o with
 |some (.cells size ty cs)=>Bool.rec (motive:=fun _=>Option (Value×Hp)) none (some (undef,{h with bs:=h.bs.set i (.cells size ty (cs.set off v))})) (Nat.ble (Nat.succ off) size)
 |_=>none
def GK (b:Bk) (off:Nat) (v:Value) (h:Hp):Option (Value×Hp):=match b with
 | .new i=>WR i off v (h.bs.get i) h
 | .old _=>none
def sz1 (t:TypeId):Bool:=match aV P t with
 |some n=>Nat.beq n (nat_lit 1)
 |none=>false
def g_ (t:TypeId) (a:Addr) (v:Value) (h:Hp):Option (Value×Hp):=match st P t h a v with
 |some h=>some (undef,h)
 |none=>none
def WS (t:TypeId) (a:Addr) (v:Value) (h:Hp):Option (Value×Hp):=Bool.rec (motive:=fun _=>Option (Value×Hp)) (g_ P t a v h)
 (Bool.rec (motive:=fun _=>Option (Value×Hp)) (g_ P t a v h) (GK (bk a.block) a.off v h) (dU v)) (sz1 P t)
theorem ZR (t:TypeId) (a:Addr) (v:Value) (h:Hp):WS P t a v h=g_ P t a v h:=by
 unfold WS;cases e1:sz1 P t with
 |false=>rfl
 |true=>
  cases e2:dU v with
  |false=>rfl
  |true=>
   show GK (bk a.block) a.off v h=_
   unfold sz1 at e1;cases e3:aV P t with
   |none=>rw [e3] at e1; cases e1
   |some n=>
    rw [e3] at e1;have hn:n=1:=Nat.eq_of_beq_eq_true e1;subst hn;have hc:bC v=[v]:=by cases v<;>first|rfl|cases e2
    unfold g_ st GK;cases bk a.block with
    |old g=>rfl
    |new i=>
     dsimp only;rw [e3];unfold WR;cases h.bs.get i with
     |none=>rfl
     |some o=>
      cases o with
      |map es=>rfl
      |dead=>rfl
      |loop=>rfl
      |cells size ty cs=>
       dsimp only;rw [hc];show _=(match (match dV [v] a.off size cs with
        |none=>none
        |some cs'=>some {h with bs:=h.bs.set i (.cells size ty cs')}:Option Hp) with
        |some h=>some (undef,h)
        |none=>none)
       rw [oQ,e2];show _=(match (match (match Nat.blt a.off size,true with
        |true,true=>dV [] (a.off+1) size (cs.set a.off v)
        |_,_=>none) with
        |none=>none
        |some cs'=>some {h with bs:=h.bs.set i (.cells size ty cs')}:Option Hp) with
        |some h=>some (undef,h)
        |none=>none)
       show Bool.rec (motive:=fun _=>Option (Value×Hp)) _ _ (Nat.blt a.off size)=_
       cases Nat.blt a.off size<;>rfl
def oR (t:TypeId) (x y:Operand) (tm:TM) (h:Hp):Option (Value×Hp):=match aL tm x with
 |some (.pointer (some a))=>match aL tm y with
  |some v=>WS P t a v h
  |none=>none
 |_=>none
theorem GM (t:TypeId) (x y:Operand) (tm:TM) (h:Hp):oR P t x y tm h=Tn P t x y tm h:=by
 unfold oR Tn;simp only [ZR,g_];cases aL tm x with
 |none=>rfl
 |some u=>
  cases u with
  |pointer a=>
   cases a with
   |none=>rfl
   |some a=>cases aL tm y<;>rfl
  |_=>rfl
def WT (l:List Value) (ts:List TypeId) (h:Hp):Option (Value×Hp):=match l with
 |[v]=>match ts with
  |t::_=>match P.underlying t with
   |some d=>match Tj h d v with
    |some v=>some (v,h)
    |none=>none
   |none=>none
  |[]=>none
 |_=>none
def Ot (l:List Value) (ts:List TypeId) (h:Hp):Option (Value×Hp):=match l with
 |[s,x]=>match ts with
  |t::u::ts=>match lB P (t::u::ts) with
   |true=>AW P G t h s x
   |false=>none
  |_=>none
 |_=>none
def Zy (w:Bool) (k:IntKind) (a b:Int):Value:= .int k (Bool.rec (motive:=fun _=>Int) b a w)
def mm (least:Bool) (l:List Value):Option Value:=match l with
 |[a,b]=>GG (fun k n=>GG (fun _ m=>some (Zy (Bool.rec (motive:=fun _=>Bool) (GF m n) (GF n m) least) k n m)) none b) none a
 |_=>none
def Tt (l:List Value) (h:Hp):Option (Value×Hp):=match mm true l with
 |some v=>some (v,h)
 |none=>match bL (.tuple ⟨l⟩) with
  |true=>match guarded (bw P (Builtin.min_ #[] 0 ⟨l⟩)) with
   |some v=>some (v,h)
   |none=>none
  |false=>none
def Tu (l:List Value) (h:Hp):Option (Value×Hp):=match mm false l with
 |some v=>some (v,h)
 |none=>match bL (.tuple ⟨l⟩) with
  |true=>match guarded (bw P (Builtin.max_ #[] 0 ⟨l⟩)) with
   |some v=>some (v,h)
   |none=>none
  |false=>none
theorem Tv {b:Bool} {l:List Value} {v:Value} (e:mm b l=some v): ∃ k n k' m,l=[.int k n, .int k' m]∧v=Zy (Bool.rec (motive:=fun _=>Bool) (GF m n) (GF n m) b) k n m:=by
 unfold mm at e;split at e
 ·rename_i x y
  cases x with
  |int k n=>
   cases y with
   |int k' m=>cases e; exact ⟨k,n,k',m,rfl,rfl⟩
   |_=>cases e
  |_=>cases e
 ·cases e
theorem WU (l:List Value) (ts:List TypeId) (h:Hp):Tt P l h=FB P G .min l ts h:=by
 unfold Tt;cases e:mm true l with
 |none=>rfl
 |some v=>
  obtain ⟨k,n,k',m,rfl,rfl⟩:=Tv e;have h1:bL (.tuple ⟨[.int k n, .int k' m]⟩)=true:=by simp [bL,bL.iV]
  have h2:guarded (bw P (Builtin.min_ #[] 0 ⟨[.int k n, .int k' m]⟩))=some (Zy (GF n m) k n m):=by
   have:Zy (GF n m) k n m= .int k (if m<n then m else n):=by
    unfold Zy;rw [Db];by_cases hle:n≤m
    ·rw [decide_eq_true hle,if_neg (by omega)]
    ·rw [decide_eq_false hle,if_pos (by omega)]
   rw [this];rfl
  show some _=FB P G .min _ ts h
  unfold FB;simp only [h1,h2]
theorem WV (l:List Value) (ts:List TypeId) (h:Hp):Tu P l h=FB P G .max l ts h:=by
 unfold Tu;cases e:mm false l with
 |none=>rfl
 |some v=>
  obtain ⟨k,n,k',m,rfl,rfl⟩:=Tv e;have h1:bL (.tuple ⟨[.int k n, .int k' m]⟩)=true:=by simp [bL,bL.iV]
  have h2:guarded (bw P (Builtin.max_ #[] 0 ⟨[.int k n, .int k' m]⟩))=some (Zy (GF m n) k n m):=by
   have:Zy (GF m n) k n m= .int k (if m>n then m else n):=by
    unfold Zy;rw [Db];by_cases hle:m≤n
    ·rw [decide_eq_true hle,if_neg (by omega)]
    ·rw [decide_eq_false hle,if_pos (by omega)]
   rw [this];rfl
  show some _=FB P G .max _ ts h
  unfold FB;simp only [h1,h2]
def dZ (b:Builtin) (l:List Value) (ts:List TypeId) (h:Hp):Option (Value×Hp):=match b with
 | .len=>WT P l ts h
 | .append=>Ot P G l ts h
 | .min=>Tt P l h
 | .max=>Tu P l h
 |b=>FB P G b l ts h
theorem JH (b:Builtin) (l:List Value) (ts:List TypeId) (h:Hp):dZ P G b l ts h=FB P G b l ts h:=by
 cases b with
 |min=>exact WU P G l ts h
 |max=>exact WV P G l ts h
 |_=>rfl
def gG (b:Builtin) (args:Array Operand) (ts:Array TypeId) (tm:TM) (h:Hp):Option (Value×Hp):=match cO tm args.toList with
 |some l=>dZ P G b l ts.toList h
 |none=>none
def KA (t:TypeId) (x:Option Operand) (tm:TM) (h:Hp):Option (Value×Hp):=match x with
 |none=>some (.map (some (2*h.next)),{next:=h.next+1,bs:=h.bs.set h.next (.map [])})
 |some x=>match aL tm x,P.underlying t with
  |some (.int _ _),some (.map _ _)=>some (.map (some (2*h.next)),{next:=h.next+1,bs:=h.bs.set h.next (.map [])})
  |_,_=>none
def WW (t:TypeId) (x:Operand) (lo hi mx:Option Operand) (tm:TM) (h:Hp):Option (Value×Hp):=match Tp P t x lo hi mx tm h with
 |some r=>some r
 |none=>oI P (.slice t x lo hi mx) tm h
def A1 (E:FuncId→List Value→Option Value) (call:Call) (f:Option Value) (args:Option (List Value)) (h:Hp):Option (Value×Hp):=match f,args with
 |some f,some args=>match target f args with
  |some (.fn f,args)=>match P.funcs[f]? with
   |some fn=>match fn.body with
    |some _=>call (.fn f) args h
    |none=>match E f args with
     |some v=>some (v,h)
     |none=>none
   |none=>none
  |some (.vM r,args)=>call (.vM r) args h
  |none=>none
 |_,_=>none
def KB (b:Builtin) (args:Array Operand) (ts:Array TypeId) (tm:TM) (h:Hp):Option (Value×Hp):=match cO tm args.toList with
 |some l=>FB P G b l ts.toList h
 |none=>none
theorem A2 (b:Builtin) (args:Array Operand) (ts:Array TypeId) (tm:TM) (h:Hp):gG P G b args ts tm h=KB P G b args ts tm h:=by
 unfold gG KB;simp only [JH]
def jG (b:Builtin) (args:Array Operand) (ts:Array TypeId) (tm:TM) (h:Hp):Option (Value×Hp):=match gG P G b args ts tm h with
 |some r=>some r
 |none=>oI P (.call ⟨.builtin b,args,ts⟩) tm h
def abR (E:FuncId→List Value→Option Value) (call:Call) (c:Go.Call) (tm:TM) (h:Hp):Option (Value×Hp):=match c with
 |{callee:= .value f,args,argTypes:=_}=>A1 P E call (aL tm f) (cO tm args.toList) h
 |{callee:= .builtin b,args,argTypes}=>jG P G b args argTypes tm h
 |{callee:= .invoke x name,args,argTypes:=_}=>match aL tm x,cO tm args.toList with
  |some (.iface t v),some args=>WK P call t v name args h
  |_,_=>none
def nT (E:FuncId→List Value→Option Value) (call:Call) (o:Op) (tm:TM) (h:Hp):Option (Value×Hp):=
 match o with
 | .move a=>L9 a tm h
 | .assign a=>Om a tm h
 | .pick a b c=>L_ a b c tm h
 | .alloc a=>Gi P a tm h
 | .box a b=>Tm a b tm h
 | .build a b=>yu P a b tm h
 | .buildSlice a b c=>AY P a b c tm h
 | .insert a b c d=>On P a b c d tm h
 | .load a b=>wI P G a b tm h
 | .store a b c=>oR P a b c tm h
 | .nilCheck a=>GH a tm h
 | .binOp a b c d _=>yx P a b c d tm h
 | .unOp a _ c=>wJ P a c tm h
 | .convert a b c=>jV P G a b c tm h
 | .makeInterface a b=>ji P a b tm h
 | .typeAssert a _ b c=>AZ P a b c tm h
 | .makeFunc a b c=>GI a b c tm h
 | .makeMap a b=>KA P a b tm h
 | .makeSlice a b c=>En P a b c tm h
 | .slice a b c d e=>WW P a b c d e tm h
 | .fieldAddr a b c=>nS P a b c tm h
 | .field a b c=>Tq P a b c tm h
 | .indexAddr a b c=>jU P a b c tm h
 | .index a b c=>Ts P a b c tm h
 | .lookup a b c d=>Oo P a b c d tm h
 | .mapUpdate a b c d=>Eo P a b c d tm h
 | .extract a b=>yw a b tm h
 | .call c=>abR P G E call c tm h
 |_=>none
theorem A3 (E:FuncId→List Value→Option Value) (call:Call) (o:Oper) (tm:TM) (h:Hp):nT P G E call o.op tm h=sw P G E call o tm h:=by
 obtain ⟨dst,op,type,pos,after,guard⟩:=o;unfold sw;have one: ∀ (op:Op),nT P G E call op tm h=dr P G op tm h→oI P op tm h=none→nT P G E call op tm h=(match dr P G op tm h with|some r=>some r|none=>oI P op tm h):=by
  intro op h1 h2;rw [h1,h2];cases dr P G op tm h<;>rfl
 cases op with
 |call c=>
  obtain ⟨callee,args,ts⟩:=c;cases callee with
  |value f=>rfl
  |invoke x n=>rfl
  |builtin b=>
   show jG P G b args ts tm h=_
   unfold jG;rw [A2];rfl
 |slice t x lo hi mx=>rfl
 |makeMap t r=>
  cases r with
  |none=>rfl
  |some x=>exact one _ rfl rfl
 |binOp op t x y z=>exact one _ (GJ P op t x y z tm h) rfl
 |unOp op t x=>exact one _ (Kz P op t x tm h) rfl
 |convert s d x=>exact one _ (A0 P G s d x tm h) rfl
 |store t x y=>exact one _ (GM P t x y tm h) rfl
 |_=>exact one _ rfl rfl
def UM (o:Op) (tm:TM) (h:Hp):Option (Value×Hp):=
 match o with
 | .move a=>L9 a tm h
 | .assign a=>Om a tm h
 | .pick a b c=>L_ a b c tm h
 | .alloc a=>Gi P a tm h
 | .box a b=>Tm a b tm h
 | .build a b=>yu P a b tm h
 | .buildSlice a b c=>AY P a b c tm h
 | .insert a b c d=>On P a b c d tm h
 | .load a b=>wI P G a b tm h
 | .store a b c=>oR P a b c tm h
 | .nilCheck a=>GH a tm h
 | .binOp a b c d _=>yx P a b c d tm h
 | .unOp a _ c=>wJ P a c tm h
 | .convert a b c=>jV P G a b c tm h
 | .makeInterface a b=>ji P a b tm h
 | .typeAssert a _ b c=>AZ P a b c tm h
 | .makeFunc a b c=>GI a b c tm h
 | .makeMap a b=>KA P a b tm h
 | .makeSlice a b c=>En P a b c tm h
 | .slice a b c d e=>Tp P a b c d e tm h
 | .fieldAddr a b c=>nS P a b c tm h
 | .field a b c=>Tq P a b c tm h
 | .indexAddr a b c=>jU P a b c tm h
 | .index a b c=>Ts P a b c tm h
 | .lookup a b c d=>Oo P a b c d tm h
 | .mapUpdate a b c d=>Eo P a b c d tm h
 | .extract a b=>yw a b tm h
 | .call {callee:= .builtin b,args,argTypes}=>gG P G b args argTypes tm h
 |_=>none
theorem A4 (o:Op) (tm:TM) (h:Hp):UM P G o tm h=dr P G o tm h:=by
 cases o with
 |call c=>
  obtain ⟨callee,args,ts⟩:=c;cases callee with
  |builtin b=>exact A2 P G b args ts tm h
  |_=>rfl
 |makeMap t r=>cases r<;>rfl
 |binOp op t x y z=>exact GJ P op t x y z tm h
 |unOp op t x=>exact Kz P op t x tm h
 |convert s d x=>exact A0 P G s d x tm h
 |store t x y=>exact GM P t x y tm h
 |_=>rfl
end
end
end Go.Sim
namespace Go.Sim
noncomputable section
section
variable (P:Program) (G:Nat→Option (List Value))
def uq (E:FuncId→List Value→Option Value) (call:Call) (all:List Oper) (nt:Nat) (l:List Oper) (tm:TM) (h:Hp):Option (TM×Hp):=
 List.rec (motive:=fun _=>TM→Hp→Option (TM×Hp)) (fun tm h=>some (tm,h)) (fun o _ ih tm h=>match c8 all tm o.guard with
  |some true=>match nT P G E call o.op tm h with
   |some (v,h)=>match mC tm o.dst nt v with
    |some tm=>ih tm h
    |none=>none
   |none=>none
  |some false=>match mC tm o.dst nt undef with
   |some tm=>ih tm h
   |none=>none
  |none=>none) l tm h
theorem RH (E:FuncId→List Value→Option Value) (call:Call) (all:List Oper) (nt:Nat) (tm:TM) (h:Hp):uq P G E call all nt [] tm h=some (tm,h):=rfl
theorem wK (E:FuncId→List Value→Option Value) (call:Call) (all:List Oper) (nt:Nat) (o:Oper) (l:List Oper) (tm:TM) (h:Hp):uq P G E call all nt (o::l) tm h=match c8 all tm o.guard with
  |some true=>match nT P G E call o.op tm h with
   |some (v,h)=>match mC tm o.dst nt v with
    |some tm=>uq P G E call all nt l tm h
    |none=>none
   |none=>none
  |some false=>match mC tm o.dst nt undef with
   |some tm=>uq P G E call all nt l tm h
   |none=>none
  |none=>none:=rfl
abbrev Rec:=Code→Nat→TM→Hp→uo
abbrev KC:=Call→Array Oper→Nat→TM→Hp→Option (TM×Hp)
def nU:Code→Bool
 | .rangeFunc _ _ _ _=>false
 | .seq a b=>match nU a with
  |true=>nU b
  |false=>false
 | .cond _ a b=>match nU a with
  |true=>nU b
  |false=>false
 | .block _ b=>nU b
 | .loop b=>nU b
 | .scope b=>nU b
 |_=>true
def exJ:Ex→Option (Option Jmp)
 | .normal=>some none
 | .ret=>some (some .ret)
 | .exit id=>some (some (.exit id))
 | .goto _=>none
def jEx:Option Jmp→Ex
 |none=> .normal
 |some .ret=> .ret
 |some (.exit id)=> .exit id
def GN (tm:TM):List Nat→List Value→Option TM
 |[],[]=>some tm
 |p::ps,v::l=>GN (tm.set p v) ps l
 |_,_=>none
def De (nt:Nat):List Nat→Bool
 |[]=>true
 |p::l=>match Nat.blt p nt with
  |true=>De nt l
  |false=>false
def aa2 (tm:TM) (i:Nat) (r:Option (Value×Hp)):uo:=match r with
 |some (_,h)=>match h.bs.get i with
  |some (.loop _ _ _ _ _ st j)=>match Nat.beq st 1 with
   |true=>none
   |false=>some (jEx j,tm,{h with bs:=h.bs.set i .dead})
  |_=>none
 |none=>none
def Ou (call:Call) (g:Operand) (ps:List Nat) (assign body:Code) (nt:Nat) (tm:TM) (h:Hp):uo:=match aL tm g with
 |some (.func (.func gf) ⟨[]⟩ ⟨lb⟩)=>match nU assign,nU body,De nt ps,P.funcs[gf]? with
  |true,true,true,some fn=>match fn.body with
   |some _=>aa2 tm h.next (call (.fn gf) (.func (.yield (2*h.next)) ⟨[]⟩ ⟨[]⟩::lb) {next:=h.next+1,bs:=h.bs.set h.next (.loop nt tm ps assign body 0 none)})
   |none=>none
  |_,_,_,_=>none
 |_=>none
def eW (E:FuncId→List Value→Option Value) (D:KC) (call:Call) (bT:Rec) (c:Code) (nt:Nat) (tm:TM) (h:Hp):uo:=
 match c with
 | .skip=>some (.normal,tm,h)
 | .label _=>some (.normal,tm,h)
 | .ret=>some (.ret,tm,h)
 | .exit id=>some (.exit id,tm,h)
 | .region _ ops false=>match uq P G E call ops.toList nt ops.toList tm h with
  |some (tm,h)=>some (.normal,tm,h)
  |none=>none
 | .region _ ops true=>match D call ops nt tm h with
  |some (tm,h)=>some (.normal,tm,h)
  |none=>none
 | .seq a b=>match bT a nt tm h with
  |some (.normal,tm,h)=>bT b nt tm h
  |r=>r
 | .cond c a b=>match aL tm c with
  |some (.bool true)=>bT a nt tm h
  |some (.bool false)=>bT b nt tm h
  |_=>none
 | .block id b=>match bT b nt tm h with
  |some (.exit id',tm,h)=>match Nat.beq id' id with
   |true=>some (.normal,tm,h)
   |false=>some (.exit id',tm,h)
  |r=>r
 | .loop b=>match bT b nt tm h with
  |some (.normal,tm,h)=>bT (.loop b) nt tm h
  |r=>r
 | .rangeFunc g ps a b=>Ou P call g ps.toList a b nt tm h
 |_=>none
def pZ (r:Option (TM×Hp)):uo:=Option.rec (motive:=fun _=>uo) none (fun p=>some (.normal,p)) r
def WX (E:FuncId→List Value→Option Value) (D:KC) (call:Call) (ops:Array Oper) (d:Bool) (nt:Nat) (tm:TM) (h:Hp):uo:=
 Bool.rec (motive:=fun _=>uo) (pZ (uq P G E call ops.toList nt ops.toList tm h)) (pZ (D call ops nt tm h)) d
def Df (bT:Rec) (b:Code) (nt:Nat) (r:uo):uo:=Option.rec (motive:=fun _=>uo) none (fun p=>Prod.rec (motive:=fun _=>uo) (fun e q=>Prod.rec (motive:=fun _=>uo) (fun tm h=>Ex.rec (motive:=fun _=>uo) (bT b nt tm h) (fun id=>some (.exit id,tm,h)) (fun l=>some (.goto l,tm,h)) (some (.ret,tm,h)) e) q) p) r
def abS (v:Value) (a b:uo):uo:=match v with
 | .bool c=>Bool.rec (motive:=fun _=>uo) b a c
 |_=>none
def RI (bT:Rec) (a b:Code) (nt:Nat) (tm:TM) (h:Hp) (v:Option Value):uo:=Option.rec (motive:=fun _=>uo) none (fun v=>abS v (bT a nt tm h) (bT b nt tm h)) v
def Ma (id:Nat) (r:uo):uo:=Option.rec (motive:=fun _=>uo) none (fun p=>Prod.rec (motive:=fun _=>uo) (fun e q=>Ex.rec (motive:=fun _=>uo) (some (.normal,q)) (fun id'=>Bool.rec (motive:=fun _=>uo) (some (.exit id',q)) (some (.normal,q)) (Nat.beq id' id)) (fun l=>some (.goto l,q)) (some (.ret,q)) e) p) r
def Ov (E:FuncId→List Value→Option Value) (D:KC) (call:Call) (bT:Rec) (c:Code) (nt:Nat) (tm:TM) (h:Hp):uo:=
 match c with
 | .skip=>some (.normal,tm,h)
 | .label _=>some (.normal,tm,h)
 | .ret=>some (.ret,tm,h)
 | .exit id=>some (.exit id,tm,h)
 | .region _ ops d=>WX P G E D call ops d nt tm h
 | .seq a b=>Df bT b nt (bT a nt tm h)
 | .cond c a b=>RI bT a b nt tm h (aL tm c)
 | .block id b=>Ma id (bT b nt tm h)
 | .loop b=>Df bT (.loop b) nt (bT b nt tm h)
 | .rangeFunc g ps a b=>Ou P call g ps.toList a b nt tm h
 |_=>none
theorem Ow (E:FuncId→List Value→Option Value) (D:KC) (call:Call) (bT:Rec) (c:Code) (nt:Nat) (tm:TM) (h:Hp):Ov P G E D call bT c nt tm h=eW P G E D call bT c nt tm h:=by
 cases c with
 |region id ops d=>
  have nm: ∀ (r:Option (TM×Hp)),pZ r=(match r with|some (tm,h)=>some (.normal,tm,h)|none=>none):=by
   intro r;cases r<;>rfl
  cases d
  ·exact nm _
  ·exact nm _
 |cond c a b=>
  have nm: ∀ (r:Option Value),RI bT a b nt tm h r=(match r with|some (.bool true)=>bT a nt tm h|some (.bool false)=>bT b nt tm h|_=>none):=by
   intro r;cases r with
   |none=>rfl
   |some v=>
    cases v with
    |bool b=>cases b<;>rfl
    |_=>rfl
  exact nm _
 |seq a b=>
  have nm: ∀ (r:uo),Df bT b nt r=(match r with
   |some (.normal,tm,h)=>bT b nt tm h
   |r=>r):=by
   intro r;cases r with
   |none=>rfl
   |some p=>
    obtain ⟨e,tm,h⟩:=p;cases e<;>rfl
  exact nm _
 |loop b=>
  have nm: ∀ (r:uo),Df bT (.loop b) nt r=(match r with
   |some (.normal,tm,h)=>bT (.loop b) nt tm h
   |r=>r):=by
   intro r;cases r with
   |none=>rfl
   |some p=>
    obtain ⟨e,tm,h⟩:=p;cases e<;>rfl
  exact nm _
 |block id b=>
  have nm: ∀ (r:uo),Ma id r=(match r with
   |some (.exit id',tm,h)=>match Nat.beq id' id with
    |true=>some (.normal,tm,h)
    |false=>some (.exit id',tm,h)
   |r=>r):=by
   intro r;cases r with
   |none=>rfl
   |some p=>
    obtain ⟨e,tm,h⟩:=p;cases e with
    |exit j=>
     show Bool.rec (motive:=fun _=>uo) _ _ (Nat.beq j id)=(match Nat.beq j id with
      |true=>some (.normal,tm,h)
      |false=>some (.exit j,tm,h))
     cases Nat.beq j id<;>rfl
    |_=>rfl
  exact nm _
 |_=>rfl
def finish (tm:TM) (h:Hp) (l:List ResultVar):Option (Value×Hp):=
 match AX P G tm h l with
 |some [v]=>some (v,h)
 |some l=>some (.tuple ⟨l⟩,h)
 |none=>none
def WY (i:Nat) (r:uo):Option (Value×Hp):=match r with
 |some (ex,_,h)=>match h.bs.get i,exJ ex with
  |some (.loop nt tm ps assign body 1 _),some j=>some (.bool j.isNone,{h with bs:=h.bs.set i (.loop nt tm ps assign body (match j with|none=>0|some _=>2) j)})
  |_,_=>none
 |none=>none
def ZS (bT:Rec) (r:Nat) (args:List Value) (h:Hp):Option (Value×Hp):=match bk r with
 | .old _=>none
 | .new i=>match h.bs.get i with
  |some (.loop nt tm ps assign body 0 _)=>match nU assign,nU body,De nt ps,GN tm ps args with
   |true,true,true,some tm0=>match bT assign nt tm0 h with
    |some (.normal,iY,h1)=>match h1.bs.get i with
     |some (.loop nt2 nu ps2 assign2 ad4 0 j2)=>WY i (bT body nt iY {h1 with bs:=h1.bs.set i (.loop nt2 nu ps2 assign2 ad4 1 j2)})
     |_=>none
    |_=>none
   |_,_,_,_=>none
  |_=>none
def GO (bT:Rec) (f:FuncId) (args:List Value) (h:Hp):Option (Value×Hp):=
 match P.funcs[f]? with
 |none=>none
 |some fn=>match fn.body with
  |none=>none
  |some c=>match Nat.ble args.length fn.ntmps with
   |false=>none
   |true=>match bT c fn.ntmps (Tr.iX .e 0 args) h with
    |some (.normal,tm,h)=>finish P G tm h fn.results.toList
    |some (.ret,tm,h)=>finish P G tm h fn.results.toList
    |_=>none
def Tw (bT:Rec):Call:=fun t args h=>match t with
 | .fn f=>GO P G bT f args h
 | .vM r=>ZS bT r args h
end
end
end Go.Sim
namespace Go.Sim
theorem ef {a b:Nat} (h:a≠b):Nat.beq a b=false:=by
 cases e:Nat.beq a b with
 |false=>rfl
 |true=>exact absurd (Nat.eq_of_beq_eq_true e) h
theorem br {a b:Nat} (h:Nat.beq a b=true):a=b:=Nat.eq_of_beq_eq_true h
theorem cx {a b:Nat} (h:Nat.ble a b=true):a≤b:=Nat.le_of_ble_eq_true h
theorem cY {a b:Nat} (h:Nat.blt a b=true):a<b:=Nat.le_of_ble_eq_true h
section
variable {α:Type}
theorem Tr.WZ (v:α): ∀ (f:Nat) (t:Tr α) (k j:Nat),k<f→(Tr.pX v f t k).get j=if k=j then some v else t.get j:=by
 intro f;induction f with
 |zero=>intro t k j h; omega
 |succ f ih=>
  intro t k j h;have Mb: ∀ (l:Tr α) (u:Option α) (r:Tr α) (j:Nat),(Tr.n l u r).get j=
    if j=0 then u else if j%2=1 then l.get (j/2) else r.get (j/2 - 1):=by
   intro l u r j;rw [Tr.Oh];by_cases h0:j=0
   ·subst h0; rfl
   ·have:Nat.beq j 0=false:=ef h0
    rw [this,if_neg h0];by_cases h1:j%2=1
    ·have:Nat.beq (j%2) 1=true:=by simp [h1]
     rw [this,if_pos h1]
    ·have:Nat.beq (j%2) 1=false:=ef h1
     rw [this,if_neg h1]
  have zS: ∀ j,(Tr.e:Tr α).get j=none:=fun _=>rfl
  by_cases h0:k=0
  ·subst h0
   cases t with
   |e=>
    show (Tr.n .e (some v) .e).get j=_
    rw [Mb];by_cases hj:j=0
    ·subst hj; simp
    ·rw [if_neg hj,if_neg (Ne.symm hj)]; simp [zS]
   |n l u r=>
    show (Tr.n l (some v) r).get j=_
    rw [Mb,Mb];by_cases hj:j=0
    ·subst hj; simp
    ·rw [if_neg hj,if_neg (Ne.symm hj),if_neg hj]
  ·have hb:Nat.beq k 0=false:=ef h0
   by_cases h1:k%2=1
   ·have zV:Nat.beq (k%2) 1=true:=by simp [h1]
    have hk:k/2<f:=by omega
    cases t with
    |e=>
     have:Tr.pX v (f+1) .e k= .n (Tr.pX v f .e (k/2)) none .e:=by rw [Tr.mM,hb,zV]
     rw [this,Mb,zS];by_cases hj:j=0
     ·subst hj; first|(simp [h0]; done)|simp [h0,zS]
     ·rw [if_neg hj]
      by_cases pP:j%2=1
      ·rw [if_pos pP,ih _ _ _ hk,zS]
       by_cases e:k=j
       ·subst e; simp
       ·rw [if_neg e,if_neg (by omega)]; try simp [zS]
      ·rw [if_neg pP,zS,if_neg (by rintro rfl; exact pP h1)]; try simp [zS]
    |n l u r=>
     have:Tr.pX v (f+1) (.n l u r) k= .n (Tr.pX v f l (k/2)) u r:=by rw [Tr.mM,hb,zV]
     rw [this,Mb,Mb];by_cases hj:j=0
     ·subst hj; simp [h0]
     ·rw [if_neg hj,if_neg hj]
      by_cases pP:j%2=1
      ·rw [if_pos pP,if_pos pP,ih _ _ _ hk]
       by_cases e:k=j
       ·subst e; simp
       ·rw [if_neg e,if_neg (by omega)]; try simp [zS]
      ·rw [if_neg pP,if_neg pP,if_neg (by rintro rfl; exact pP h1)]
   ·have zV:Nat.beq (k%2) 1=false:=ef h1
    have hk:k/2 - 1<f:=by omega
    cases t with
    |e=>
     have:Tr.pX v (f+1) .e k= .n .e none (Tr.pX v f .e (k/2 - 1)):=by rw [Tr.mM,hb,zV]
     rw [this,Mb,zS];by_cases hj:j=0
     ·subst hj; first|(simp [h0]; done)|simp [h0,zS]
     ·rw [if_neg hj]
      by_cases pP:j%2=1
      ·rw [if_pos pP,zS,if_neg (by rintro rfl; exact h1 pP)]; try simp [zS]
      ·rw [if_neg pP,ih _ _ _ hk,zS]
       by_cases e:k=j
       ·subst e; simp
       ·rw [if_neg e,if_neg (by omega)]; try simp [zS]
    |n l u r=>
     have:Tr.pX v (f+1) (.n l u r) k= .n l u (Tr.pX v f r (k/2 - 1)):=by rw [Tr.mM,hb,zV]
     rw [this,Mb,Mb];by_cases hj:j=0
     ·subst hj; simp [h0]
     ·rw [if_neg hj,if_neg hj]
      by_cases pP:j%2=1
      ·rw [if_pos pP,if_pos pP,if_neg (by rintro rfl; exact h1 pP)]
      ·rw [if_neg pP,if_neg pP,ih _ _ _ hk]
       by_cases e:k=j
       ·subst e; simp
       ·rw [if_neg e,if_neg (by omega)]; try simp [zS]
theorem Tr.bn (t:Tr α) (k:Nat) (v:α) (j:Nat):(t.set k v).get j=if k=j then some v else t.get j:=
 Tr.WZ v (k+1) t k j (Nat.lt_succ_self k)
theorem Tr.Ep (j:Nat):(Tr.e:Tr α).get j=none:=rfl
theorem Tr.wL: ∀ (l:List α) (t:Tr α) (k j:Nat),(t.iX k l).get j=if k≤j∧j<k+l.length then l[j - k]? else t.get j
 |[],t,k,j=>by rw [Tr.Oi]; simp only [List.length_nil]; rw [if_neg (by omega)]
 |v::l,t,k,j=>by
  rw [Tr.sY,Tr.wL l,Tr.bn];simp only [List.length_cons];by_cases h:k=j
  ·subst h
   rw [if_neg (by omega),if_pos rfl,if_pos (by omega)]; simp
  ·rw [if_neg h]
   by_cases h2:k+1≤j∧j<k+1+l.length
   ·rw [if_pos h2,if_pos (by omega),show j - k=(j - (k+1))+1 by omega,List.getElem?_cons_succ]
   ·rw [if_neg h2,if_neg (by omega)]
theorem Tr.Er: ∀ (l l':List α) (t:Tr α) (k:Nat),t.iX k (l++l')=(t.iX k l).iX (k+l.length) l'
 |[],l',t,k=>by simp [Tr.Oi]
 |v::l,l',t,k=>by
  simp only [List.cons_append,Tr.sY,List.length_cons];rw [Tr.Er l l',show k+1+l.length=k+(l.length+1) by omega]
end
structure BI where
 af:Nat
 sh:Nat
 ex:Nat
abbrev aa:=Nat→Option BI
def aa.up (m:aa) (n:Nat) (b:BI):aa:=fun i=>if i=n then some b else m i
def iG (m:aa) (a:Addr):Option Addr:=match bk a.block with
 | .old g=>match a.spot with
  |none=>some ⟨g,a.off,none⟩
  |some _=>none
 | .new i=>match m i with
  |some b=>some ⟨b.af,b.sh+a.off,none⟩
  |none=>none
def yz (m:aa) (a:Addr):Nat:=match bk a.block,a.spot with
 | .new i,some _=>match m i with
  |some b=>b.ex
  |none=>0
 |_,_=>0
def A5 (m:aa):Fn→Option Fn
 | .yield r=>match bk r with
  | .old _=>none
  | .new i=>match m i with
   |some b=>some (.yield b.af)
   |none=>none
 |fn=>some fn
mutual
def aF (m:aa):Value→Option Value
 | .bool b=>some (.bool b)
 | .int k n=>some (.int k n)
 | .float k n=>some (.float k n)
 | .complex k a b=>some (.complex k a b)
 | .string s=>some (.string s)
 | .pointer none=>some (.pointer none)
 | .pointer (some a)=>match iG m a with
  |some a=>some (.pointer (some a))
  |none=>none
 | .slice none n c=>some (.slice none n c)
 | .slice (some a) n c=>match iG m a with
  |some a'=>some (.slice (some a') n (c+yz m a))
  |none=>none
 | .map none=>some (.map none)
 | .map (some r)=>match bk r with
  | .old _=>none
  | .new i=>match m i with
   |some b=>some (.map (some b.af))
   |none=>none
 | .chan none=>some (.chan none)
 | .chan (some _)=>none
 | .func fn ⟨f⟩ ⟨c⟩=>match A5 m fn,aO m f,aO m c with
  |some fn,some f,some c=>some (.func fn ⟨f⟩ ⟨c⟩)
  |_,_,_=>none
 | .nilFunc=>some .nilFunc
 | .iface t v=>match aF m v with
  |some v=>some (.iface t v)
  |none=>none
 | .nilIface=>some .nilIface
 | .agg ⟨l⟩=>match aO m l with
  |some l=>some (.agg ⟨l⟩)
  |none=>none
 | .tuple ⟨l⟩=>match aO m l with
  |some l=>some (.tuple ⟨l⟩)
  |none=>none
def aO (m:aa):List Value→Option (List Value)
 |[]=>some []
 |v::l=>match aF m v,aO m l with
  |some v,some l=>some (v::l)
  |_,_=>none
end
def Ext (m m':aa):Prop:= ∀ i b,m i=some b→m' i=some b
theorem Ext.refl (m:aa):Ext m m:=fun _ _ h=>h
theorem Ext.trans {a b c:aa} (h:Ext a b) (k:Ext b c):Ext a c:=fun i x hx=>k i x (h i x hx)
theorem Ext.one {m:aa} {n:Nat} (h:m n=none) (b:BI):Ext m (m.up n b):=fun i x hx=>by
 unfold aa.up;by_cases e:i=n
 ·subst e; rw [h] at hx; cases hx
 ·rw [if_neg e]; exact hx
theorem Ext.get {m m':aa} (h:Ext m m') {i:Nat} {b:BI} (hi:m i=some b):m' i=some b:=h i b hi
theorem aa.bg (m:aa) (n:Nat) (b:BI):m.up n b n=some b:=if_pos rfl
theorem Dg {m m':aa} (h:Ext m m') {a a':Addr} (ha:iG m a=some a'):iG m' a=some a'∧yz m' a=yz m a:=by
 unfold iG yz at*;cases hb:bk a.block with
 |old g=>rw [hb] at ha; exact ⟨ha,rfl⟩
 |new i=>
  rw [hb] at ha;dsimp only at ha ⊢;cases hm:m i with
  |none=>rw [hm] at ha; cases ha
  |some b=>rw [hm] at ha; rw [h.get hm]; exact ⟨ha,by cases a.spot<;>simp [hm,h.get hm]⟩
theorem UN {m m':aa} (h:Ext m m'): ∀ (f f':Fn),A5 m f=some f'→A5 m' f=some f'
 | .func _,_,hv| .method _,_,hv| .methodOf _ _,_,hv| .via _ _ _ _,_,hv=>by simpa only [A5] using hv
 | .yield r,f',hv=>by
  simp only [A5] at hv ⊢;cases hb:bk r with
  |old g=>rw [hb] at hv; cases hv
  |new i=>
   rw [hb] at hv;dsimp only at hv ⊢;cases hm:m i with
   |none=>rw [hm] at hv; cases hv
   |some b=>rw [hm] at hv; rw [h.get hm]; exact hv
mutual
theorem gH {m m':aa} (h:Ext m m'): ∀ (v:Value) (v':Value),aF m v=some v'→aF m' v=some v'
 | .bool _,_,hv| .int _ _,_,hv| .float _ _,_,hv| .complex _ _ _,_,hv| .string _,_,hv| .pointer none,_,hv| .slice none _ _,_,hv
 | .map none,_,hv| .chan none,_,hv| .nilFunc,_,hv| .nilIface,_,hv=>by simpa only [aF] using hv
 | .pointer (some a),v',hv=>by
  simp only [aF] at hv ⊢;cases ha:iG m a with
  |none=>rw [ha] at hv; cases hv
  |some a'=>rw [ha] at hv; rw [(Dg h ha).1]; exact hv
 | .slice (some a) n c,v',hv=>by
  simp only [aF] at hv ⊢;cases ha:iG m a with
  |none=>rw [ha] at hv; cases hv
  |some a'=>rw [ha] at hv; rw [(Dg h ha).1,(Dg h ha).2]; exact hv
 | .map (some r),v',hv=>by
  simp only [aF] at hv ⊢;cases hb:bk r with
  |old g=>rw [hb] at hv; cases hv
  |new i=>
   rw [hb] at hv;dsimp only at hv ⊢;cases hm:m i with
   |none=>rw [hm] at hv; cases hv
   |some b=>rw [hm] at hv; rw [h.get hm]; exact hv
 | .chan (some _),v',hv=>by simp only [aF] at hv; cases hv
 | .func fn ⟨f⟩ ⟨c⟩,v',hv=>by
  simp only [aF] at hv ⊢;cases hn:A5 m fn with
  |none=>rw [hn] at hv; cases hv
  |some fn'=>
   cases hf:aO m f with
   |none=>rw [hn,hf] at hv; cases hv
   |some f'=>
    cases hc:aO m c with
    |none=>rw [hn,hf,hc] at hv; cases hv
    |some c'=>rw [hn,hf,hc] at hv; rw [UN h fn fn' hn,fm h f f' hf,fm h c c' hc]; exact hv
 | .iface t v,v',hv=>by
  simp only [aF] at hv ⊢;cases hx:aF m v with
  |none=>rw [hx] at hv; cases hv
  |some x=>rw [hx] at hv; rw [gH h v x hx]; exact hv
 | .agg ⟨l⟩,v',hv=>by
  simp only [aF] at hv ⊢;cases hx:aO m l with
  |none=>rw [hx] at hv; cases hv
  |some x=>rw [hx] at hv; rw [fm h l x hx]; exact hv
 | .tuple ⟨l⟩,v',hv=>by
  simp only [aF] at hv ⊢;cases hx:aO m l with
  |none=>rw [hx] at hv; cases hv
  |some x=>rw [hx] at hv; rw [fm h l x hx]; exact hv
theorem fm {m m':aa} (h:Ext m m'): ∀ (l:List Value) (l':List Value),aO m l=some l'→aO m' l=some l'
 |[],_,hv=>by simpa only [aO] using hv
 |v::l,l',hv=>by
  simp only [aO] at hv ⊢;cases hf:aF m v with
  |none=>rw [hf] at hv; cases hv
  |some f'=>
   cases hc:aO m l with
   |none=>rw [hf,hc] at hv; cases hv
   |some c'=>rw [hf,hc] at hv; rw [gH h v f' hf,fm h l c' hc]; exact hv
end
mutual
theorem bP (m:aa): ∀ (v:Value),bL v=true→aF m v=some v
 | .bool _,_| .int _ _,_| .float _ _,_| .complex _ _ _,_| .string _,_| .pointer none,_| .slice none _ _,_
 | .map none,_| .chan none,_| .nilFunc,_| .nilIface,_=>by simp only [aF]
 | .pointer (some a),h=>by simp [bL] at h
 | .slice (some a) _ _,h=>by simp [bL] at h
 | .map (some r),h=>by simp [bL] at h
 | .chan (some r),h=>by simp [bL] at h
 | .func fn f c,h=>by simp [bL] at h
 | .iface t v,h=>by simp [bL] at h
 | .agg ⟨l⟩,h=>by
  simp only [bL] at h;simp only [aF,eP m l h]
 | .tuple ⟨l⟩,h=>by
  simp only [bL] at h;simp only [aF,eP m l h]
theorem eP (m:aa): ∀ (l:List Value),bL.iV l=true→aO m l=some l
 |[],_=>by simp only [aO]
 |v::l,h=>by
  simp only [bL.iV] at h;cases hv:bL v with
  |false=>rw [hv] at h; cases h
  |true=>rw [hv] at h; simp only [aO,bP m v hv,eP m l h]
end
theorem c9 {m:aa}: ∀ {l l':List Value},aO m l=some l'→l'.length=l.length
 |[],l',h=>by simp only [aO,Option.some.injEq] at h; subst h; rfl
 |v::l,l',h=>by
  simp only [aO] at h;cases hv:aF m v with
  |none=>rw [hv] at h; cases h
  |some x=>
   cases hl:aO m l with
   |none=>rw [hv,hl] at h; cases h
   |some y=>rw [hv,hl] at h; cases h; simp [c9 hl]
theorem cz {m:aa} {v:Value} {l l':List Value} (h:aO m (v::l)=some l'): ∃ x y,aF m v=some x∧aO m l=some y∧l'=x::y:=by
 simp only [aO] at h;cases hv:aF m v with
 |none=>rw [hv] at h; cases h
 |some x=>
  cases hl:aO m l with
  |none=>rw [hv,hl] at h; cases h
  |some y=>rw [hv,hl] at h; cases h; exact ⟨x,y,rfl,rfl,rfl⟩
theorem jW {m:aa}: ∀ {l l':List Value},aO m l=some l'→ ∀ (i:Nat) (v:Value),l[i]? =some v→ ∃ v',aF m v=some v'∧l'[i]? =some v'
 |[],_,_,i,v,hi=>by simp at hi
 |u::l,l',h,i,v,hi=>by
  obtain ⟨x,y,h1,h2,rfl⟩:=cz h;cases i with
  |zero=>simp only [List.getElem?_cons_zero,Option.some.injEq] at hi; subst hi; exact ⟨x,h1,rfl⟩
  |succ i=>simp only [List.getElem?_cons_succ] at hi ⊢; exact jW h2 i v hi
theorem oT {m:aa}: ∀ {a b a' b':List Value},aO m a=some a'→aO m b=some b'→aO m (a++b)=some (a'++b')
 |[],b,a',b',h1,h2=>by simp only [aO,Option.some.injEq] at h1; subst h1; simpa using h2
 |v::a,b,a',b',h1,h2=>by
  obtain ⟨x,y,h3,h4,rfl⟩:=cz h1;simp only [List.cons_append,aO,h3,oT h4 h2]
theorem GP {m:aa}: ∀ {a a':List Value} (n:Nat),aO m a=some a'→aO m (a.drop n)=some (a'.drop n)
 |a,a',0,h=>by simpa using h
 |[],a',n+1,h=>by simp only [aO,Option.some.injEq] at h; subst h; simp [aO]
 |v::a,a',n+1,h=>by
  obtain ⟨x,y,h3,h4,rfl⟩:=cz h;simpa using GP n h4
theorem GQ {m:aa}: ∀ {a a':List Value} (n:Nat),aO m a=some a'→aO m (a.take n)=some (a'.take n)
 |a,a',0,_=>by simp [aO]
 |[],a',n+1,h=>by simp only [aO,Option.some.injEq] at h; subst h; simp [aO]
 |v::a,a',n+1,h=>by
  obtain ⟨x,y,h3,h4,rfl⟩:=cz h;simp only [List.take_succ_cons,aO,h3,GQ n h4]
theorem Ox {m:aa} {v:Value} {u:Array Value} (h:aF m v=some (.agg u)): ∃ l,v= .agg l:=by
 cases v with
 |agg a=>exact ⟨a,rfl⟩
 |pointer a=>cases a<;>(simp only [aF] at h; first|cases h|(revert h; repeat' split<;>simp))
 |slice a n c=>cases a<;>(simp only [aF] at h; first|cases h|(revert h; repeat' split<;>simp))
 |map a=>cases a<;>(simp only [aF] at h; first|cases h|(revert h; repeat' split<;>simp))
 |chan a=>cases a<;>(simp only [aF] at h; first|cases h|(revert h; repeat' split<;>simp))
 |func fn f c=>obtain ⟨f⟩:=f; obtain ⟨c⟩:=c; simp only [aF] at h; revert h; repeat' split<;>simp
 |tuple l=>obtain ⟨l⟩:=l; simp only [aF] at h; revert h; repeat' split<;>simp
 |_=>simp only [aF] at h; first|cases h|(revert h; repeat' split<;>simp)
theorem RJ {m:aa} {v:Value} {u:Array Value} (h:aF m v=some (.tuple u)): ∃ l,v= .tuple l:=by
 cases v with
 |tuple a=>exact ⟨a,rfl⟩
 |pointer a=>cases a<;>(simp only [aF] at h; first|cases h|(revert h; repeat' split<;>simp))
 |slice a n c=>cases a<;>(simp only [aF] at h; first|cases h|(revert h; repeat' split<;>simp))
 |map a=>cases a<;>(simp only [aF] at h; first|cases h|(revert h; repeat' split<;>simp))
 |chan a=>cases a<;>(simp only [aF] at h; first|cases h|(revert h; repeat' split<;>simp))
 |func fn f c=>obtain ⟨f⟩:=f; obtain ⟨c⟩:=c; simp only [aF] at h; revert h; repeat' split<;>simp
 |agg l=>obtain ⟨l⟩:=l; simp only [aF] at h; revert h; repeat' split<;>simp
 |_=>simp only [aF] at h; first|cases h|(revert h; repeat' split<;>simp)
theorem hY {m:aa} {v v':Value} (h:aF m v=some v'):aO m (bC v)=some v'.cells.toList:=by
 by_cases hv: ∃ l,v= .agg l
 ·obtain ⟨⟨l⟩,rfl⟩:=hv
  simp only [aF] at h;cases hl:aO m l with
  |none=>rw [hl] at h; cases h
  |some l'=>rw [hl] at h; cases h; simpa [bC,Value.cells] using hl
 ·have h1: ∀ u,v'≠ .agg u:=fun u e=>hv (Ox (e ▸ h))
  have h2:v'.cells= #[v']:=by cases v'<;>first|rfl|exact absurd rfl (h1 _)
  have h3:bC v=[v]:=by cases v<;>first|rfl|exact absurd ⟨_,rfl⟩ hv
  rw [h2,h3];simp only [aO,h]
theorem Oy {m:aa} {v v':Value} (h:aF m v=some v') (h1:dU v=true):v'.oneCell'=true:=by
 have ha: ∀ u,v'≠ .agg u:=fun u e=>by obtain ⟨l,rfl⟩:=Ox (e ▸ h); simp [dU] at h1
 have hb: ∀ u,v'≠ .tuple u:=fun u e=>by obtain ⟨l,rfl⟩:=RJ (e ▸ h); simp [dU] at h1
 cases v'<;>first|rfl|exact absurd rfl (ha _)|exact absurd rfl (hb _)
end Go.Sim
namespace Go.Sim
variable {P:Program} {G:Nat→Option (List Value)}
def N_ (P:Program) (ty:TypeId) (b:BI):Nat:=b.ex*((aV P ty).getD 0)
def Tx (P:Program) (ty:TypeId):Prop:= ∃ T,T<P.types.size∧P.underlying T=some (.slice ty)
def wM (m:aa):List (Value×Value)→List MapEntry→Prop
 |[],[]=>True
 |(k,v)::l,e::es=>aF m k=some e.key∧bL k=true∧aF m v=some e.val∧wM m l es
 |_,_=>False
def stO:Nat→LoopState
 |0=> .ready
 |1=> .busy
 |_=> .done
def W0:Jmp→Code
 | .ret=> .ret
 | .exit id=> .exit id
def gZ (P:Program) (m:aa) (F:Nat→Prop) (i:Nat) (w:World):dA→Prop
 | .dead=>True
 | .cells size ty cs=> ∀ b,m i=some b→ ∃ cc fr, ¬ F b.af∧w.heap[b.af]? =some (.cells cc ty fr)∧
   (∀ k v,cs.get k=some v→k<size∧ ∃ v',aF m v=some v'∧cc[b.sh+k]? =some v')∧
   b.sh+size+N_ P ty b≤cc.size∧(∀ k,b.sh≤k→k<b.sh+size+N_ P ty b→(fr.1≤k&&k<fr.2)=false)∧
   (b.sh=0∧b.ex=0∧cc.size=size∨Tx P ty)
 | .map es=> ∀ b,m i=some b→ ∃ ms cl, ¬ F b.af∧w.heap[b.af]? =some (.map ms cl)∧wM m es ms.toList
 | .loop nt tm ps assign body st jmp=> ∀ b,m i=some b→ ∃ rc:Loop, ¬ F b.af∧w.heap[b.af]? =some (.loop rc)∧rc.tmps.size=nt∧(∀ t v,tm.get t=some v→ ∃ v',aF m v=some v'∧rc.tmps[t]? =some v')∧
   rc.params.toList=ps∧rc.assign=assign∧rc.body=body∧rc.state=stO st∧rc.pending=jmp.map W0
def dA.live:dA→Prop
 | .dead=>False
 |_=>True
structure Rel (P:Program) (G:Nat→Option (List Value)) (m:aa) (F:Nat→Prop) (K:World) (h:Hp) (w:World):Prop where
 len: ∀ i,h.next≤i→m i=none
 os:w.os=K.os
 tape:w.tape=K.tape
 output:w.output=K.output
 size:K.heap.size≤w.heap.size
 fr: ∀ b,F b→b<K.heap.size∧w.heap[b]? =K.heap[b]?
 oC: ∀ g l,G g=some l→F g∧ ∀ k v,l[k]? =some v→bL v=true∧K.cell? ⟨g,k,none⟩=some v
 obj: ∀ i o,h.bs.get i=some o→gZ P m F i w o
 inj: ∀ i j o o' b b',h.bs.get i=some o→h.bs.get j=some o'→o.live→o'.live→m i=some b→m j=some b'→b.af=b'.af→i=j
theorem Rel.drew {m:aa} {F:Nat→Prop} {K:World} {h:Hp} {w:World} (r:Rel P G m F K h w):Rel P G m F K h {w with drawn:=w.drawn+1}:=
 ⟨r.len,r.os,r.tape,r.output,r.size,r.fr,r.oC,fun i o hi=>by
  have:=r.obj i o hi;cases o<;>exact this,r.inj⟩
theorem KD {m m':aa} (h:Ext m m'): ∀ {l:List (Value×Value)} {es:List MapEntry},wM m l es→wM m' l es
 |[],[],_=>trivial
 |(k,v)::l,e::es,hh=>⟨gH h _ _ hh.1,hh.2.1,gH h _ _ hh.2.2.1,KD h hh.2.2.2⟩
 |[],_::_,hh=>hh.elim
 |_::_,[],hh=>hh.elim
theorem getElem?_lt' {α:Type} {a:Array α} {i:Nat} {x:α} (h:a[i]? =some x):i<a.size:=by
 rcases Nat.lt_or_ge i a.size with h1|h1
 ·exact h1
 ·rw [Array.getElem?_eq_none h1] at h; cases h
theorem iH {α:Type} {a:List α} {i:Nat} {x:α} (h:a[i]? =some x):i<a.length:=by
 rcases Nat.lt_or_ge i a.length with h1|h1
 ·exact h1
 ·rw [List.getElem?_eq_none h1] at h; cases h
theorem World.Oz {w K:World} {b:Nat} (h:w.heap[b]? =K.heap[b]?) (k:Nat):w.cell? ⟨b,k,none⟩=K.cell? ⟨b,k,none⟩:=by
 simp only [World.cell?,h]
theorem A6 {m:aa} {F:Nat→Prop} {K:World} {h:Hp} {w:World} (r:Rel P G m F K h w) {a a':Addr} {k:Nat} {v:Value}
  (hl:fk G h a k=some v) (ha:iG m a=some a'): ∃ v',aF m v=some v'∧w.cell? (a'.add k)=some v':=by
 unfold fk at hl;unfold iG at ha;have OA: ∀ x o,Addr.add ⟨x,o,none⟩ k=⟨x,o+k,none⟩:=by
  intro x o;unfold Addr.add;by_cases hk:k=0
  ·rw [if_pos hk,hk]; rfl
  ·rw [if_neg hk]
 cases hb:bk a.block with
 |old g=>
  rw [hb] at hl ha;dsimp only at hl ha;cases hg:G g with
  |none=>rw [hg] at hl; cases hl
  |some l=>
   rw [hg] at hl;dsimp only at hl;cases hs:a.spot with
   |some _=>rw [hs] at ha; cases ha
   |none=>
    rw [hs] at ha;obtain rfl:_=a':=by simpa using ha
    obtain ⟨h1,h2⟩:=r.oC g l hg;obtain ⟨h3,h4⟩:=h2 _ _ hl;exact ⟨v,bP m v h3,by rw [OA,World.Oz (r.fr g h1).2]; exact h4⟩
 |new i=>
  rw [hb] at hl ha;dsimp only at hl ha;cases ho:h.bs.get i with
  |none=>rw [ho] at hl; cases hl
  |some o=>
   rw [ho] at hl;cases o with
   |dead=>cases hl
   |map es=>cases hl
   |loop=>cases hl
   |cells size ty cs=>
    dsimp only at hl
    replace hl:cs.get (a.off+k)=some v:=hl
    cases h1:m i with
    |none=>rw [h1] at ha; cases ha
    |some b=>
    rw [h1] at ha;obtain ⟨cc,fr,h2,h3,h4,h5⟩:=r.obj i _ ho b h1;obtain rfl:_=a':=by simpa using ha
    obtain ⟨h6,v',h7,h8⟩:=h4 _ _ hl;refine ⟨v',h7, ?_⟩;rw [OA];simp only [World.cell?,h3];rw [show b.sh+a.off+k=b.sh+(a.off+k) by omega,h8];simp
theorem iZ {m:aa} {F:Nat→Prop} {K:World} {h:Hp} {w:World} (r:Rel P G m F K h w) {a a':Addr} (ha:iG m a=some a'):
  ∀ (n k:Nat) (l:List Value),eg G h a k n=some l→ ∃ l',aO m l=some l'∧ ∀ j v,l'[j]? =some v→w.cell? (a'.add (k+j))=some v:=by
 intro n;induction n with
 |zero=>intro k l hl; simp only [AT,Option.some.injEq] at hl; subst hl; exact ⟨[],by simp [aO],by simp⟩
 |succ n ih=>
  intro k l hl;simp only [gd] at hl;cases h1:fk G h a k with
  |none=>rw [h1] at hl; cases hl
  |some v=>
   cases h2:eg G h a (k+1) n with
   |none=>rw [h1,h2] at hl; cases hl
   |some l2=>
    rw [h1,h2] at hl;cases hl;obtain ⟨v',h3,h4⟩:=A6 r h1 ha;obtain ⟨l',h5,h6⟩:=ih _ _ h2;refine ⟨v'::l',by simp only [aO,h3,h5], ?_⟩;intro j u hj;cases j with
    |zero=>simp only [List.getElem?_cons_zero,Option.some.injEq] at hj; subst hj; exact h4
    |succ j=>simp only [List.getElem?_cons_succ] at hj; rw [show k+(j+1)=k+1+j by omega]; exact h6 j u hj
theorem lD {h:Hp} {a:Addr}: ∀ (n k:Nat) (l:List Value),eg G h a k n=some l→l.length=n:=by
 intro n;induction n with
 |zero=>intro k l hl; simp only [AT,Option.some.injEq] at hl; subst hl; rfl
 |succ n ih=>
  intro k l hl;simp only [gd] at hl;cases h1:fk G h a k with
  |none=>rw [h1] at hl; cases hl
  |some v=>
   cases h2:eg G h a (k+1) n with
   |none=>rw [h1,h2] at hl; cases hl
   |some l2=>rw [h1,h2] at hl; cases hl; simp [ih _ _ h2]
theorem aW {t:TypeId} {n:Nat} (h:aV P t=some n) (w:World):(sizeOf t).run P w= .ok n w:=by
 unfold aV at h;cases hi:P.info? t with
 |none=>rw [hi] at h; cases h
 |some i=>rw [hi] at h; cases h; simp [sizeOf,typeInfo,hi]
theorem bW {t:TypeId} {v:Value} (h:bA P t=some v) (w:World):(zeroValue t).run P w= .ok v w:=by
 unfold bA at h;cases hi:P.info? t with
 |none=>rw [hi] at h; cases h
 |some i=>rw [hi] at h; dsimp only at h; simp [zeroValue,typeInfo,hi,h]
theorem aD {t:TypeId} {d:TypeDesc} (h:P.underlying t=some d) (w:World):(underlying t).run P w= .ok d w:=by
 simp [underlying,h]
theorem cJ {t:TypeId} {b:Bool} (h:bM P t=some b) (w:World):(isAgg t).run P w= .ok b w:=by
 unfold bM at h;cases hi:P.underlying t with
 |none=>rw [hi] at h; cases h
 |some d=>rw [hi] at h; simp only [isAgg,Sem.run_bind,aD hi,Result.andThen_ok]; cases d<;>simp_all
theorem OB {m:aa} {F:Nat→Prop} {K:World} {h:Hp} {w:World} (r:Rel P G m F K h w) {t:TypeId} {a a':Addr} {v:Value}
  (hl:ld P G t h a=some v) (ha:iG m a=some a'): ∃ v',aF m v=some v'∧(loadVar t a').run P w= .ok v' w:=by
 unfold ld at hl;cases hq:bM P t with
 |none=>rw [hq] at hl; cases hl
 |some q=>
  rw [hq] at hl;cases q with
  |true=>
   dsimp only at hl;cases hn:aV P t with
   |none=>rw [hn] at hl; cases hl
   |some n=>
    rw [hn] at hl;dsimp only at hl;cases hc:eg G h a 0 n with
    |none=>rw [hc] at hl; cases hl
    |some l=>
     rw [hc] at hl;cases hl;obtain ⟨l',h1,h2⟩:=iZ r ha _ _ _ hc;refine ⟨.agg ⟨l'⟩,by simp only [aF,h1], ?_⟩;have hlen:l'.length=n:=by rw [c9 h1,lD _ _ _ hc]
     have:=run_loadCells_list (P:=P) (w:=w) a' l' (fun j v hj=>by simpa using h2 j v hj);rw [hlen] at this;simp [loadVar,cJ hq,aW hn,this]
  |false=>
   dsimp only at hl;obtain ⟨v',h1,h2⟩:=A6 r hl ha;have h3:w.cell? a'=some v':=by simpa [Addr.add] using h2
   exact ⟨v',h1,by simp [loadVar,cJ hq,h3]⟩
end Go.Sim
namespace Go.Sim
variable {P:Program} {G:Nat→Option (List Value)}
theorem jX {m:aa} {F:Nat→Prop} {i:Nat} {w w':World} {o:dA} (h:gZ P m F i w o) (hw:o.live→ ∀ b,m i=some b→w'.heap[b.af]? =w.heap[b.af]?):gZ P m F i w' o:=by
 cases o with
 |dead=>trivial
 |cells size ty cs=>intro b hb; obtain ⟨cc,fr,h2,h3,h4⟩:=h b hb; exact ⟨cc,fr,h2,(hw trivial b hb).trans h3,h4⟩
 |map es=>intro b hb; obtain ⟨ms,cl,h2,h3,h4⟩:=h b hb; exact ⟨ms,cl,h2,(hw trivial b hb).trans h3,h4⟩
 |loop=>intro b hb; obtain ⟨rc,h2,h3,h4⟩:=h b hb; exact ⟨rc,h2,(hw trivial b hb).trans h3,h4⟩
theorem KE {m m':aa} {F:Nat→Prop} {i:Nat} {w:World} {o:dA} (e:Ext m m') (hi: ∀ b,m' i=some b→m i=some b) (h:gZ P m F i w o):gZ P m' F i w o:=by
 cases o with
 |dead=>trivial
 |cells size ty cs=>
  intro b hb;obtain ⟨cc,fr,h2,h3,h4,h5⟩:=h b (hi b hb);exact ⟨cc,fr,h2,h3,fun k v hk=>by obtain ⟨x,v',y,z⟩:=h4 k v hk; exact ⟨x,v',gH e _ _ y,z⟩,h5⟩
 |map es=>intro b hb; obtain ⟨ms,cl,h2,h3,h4⟩:=h b (hi b hb); exact ⟨ms,cl,h2,h3,KD e h4⟩
 |loop=>
  intro b hb;obtain ⟨rc,h2,h3,h4,h5,h6⟩:=h b (hi b hb);exact ⟨rc,h2,h3,h4,fun t v ht=>by obtain ⟨v',y,z⟩:=h5 t v ht; exact ⟨v',gH e _ _ y,z⟩,h6⟩
theorem ur {m:aa} {F:Nat→Prop} {i:Nat} {w:World} {o:dA} (h:gZ P m F i w o) (hl:o.live) {b:BI} (hb:m i=some b): ¬ F b.af∧b.af<w.heap.size:=by
 cases o with
 |dead=>exact hl.elim
 |cells size ty cs=>obtain ⟨cc,fr,h2,h3,h4⟩:=h b hb; exact ⟨h2,getElem?_lt' h3⟩
 |map es=>obtain ⟨ms,cl,h2,h3,h4⟩:=h b hb; exact ⟨h2,getElem?_lt' h3⟩
 |loop=>obtain ⟨rc,h2,h3,h4⟩:=h b hb; exact ⟨h2,getElem?_lt' h3⟩
theorem dA.ajC (o:dA):o.live∨o= .dead:=by cases o<;>first|exact .inr rfl|exact .inl trivial
theorem Rel.born {m:aa} {F:Nat→Prop} {K:World} {h h':Hp} {w w':World} {n:Nat} (r:Rel P G m F K h w) (b:BI) (o:dA) (hn:n<h'.next) (hnext:h.next≤h'.next) (hm:m n=none)
  (hos:w'.os=w.os) (W2:w'.tape=w.tape) (hout:w'.output=w.output) (hsz:w.heap.size≤w'.heap.size)
  (hold: ∀ k,k<w.heap.size→w'.heap[k]? =w.heap[k]?) (hb: ∀ j o bj,j≠n→h.bs.get j=some o→o.live→m j=some bj→bj.af≠b.af)
  (hbs: ∀ j,h'.bs.get j=if n=j then some o else h.bs.get j) (ho:gZ P (m.up n b) F n w' o):Rel P G (m.up n b) F K h' w' where
 len:=fun i hi=>by unfold aa.up; rw [if_neg (by omega)]; exact r.len i (by omega)
 os:=hos.trans r.os
 tape:=W2.trans r.tape
 output:=hout.trans r.output
 size:=Nat.le_trans r.size hsz
 fr:=fun k hk=>⟨(r.fr k hk).1,by rw [hold k (Nat.lt_of_lt_of_le (r.fr k hk).1 r.size)]; exact (r.fr k hk).2⟩
 oC:=r.oC
 obj:=fun i o' hi=>by
  rw [hbs] at hi;by_cases e:n=i
  ·rw [if_pos e] at hi; cases hi; subst e; exact ho
  ·rw [if_neg e] at hi
   have h1:=r.obj i o' hi;refine KE (Ext.one hm b) (fun b' hb'=>by unfold aa.up at hb'; rwa [if_neg (Ne.symm e)] at hb') (jX h1 fun hl b' hb'=> ?_);exact hold _ (ur h1 hl hb').2
 inj:=fun i j o1 o2 b1 b2 hi hj l1 l2 e1 e2 eb=>by
  have key: ∀ {i:Nat} {b1:BI},n≠i→m.up n b i=some b1→m i=some b1:=fun hne e1=>by unfold aa.up at e1; rwa [if_neg (Ne.symm hne)] at e1
  rw [hbs] at hi hj;by_cases x:n=i
  ·by_cases y:n=j
   ·rw [← x, ←y]
   ·rw [if_neg y] at hj
    have:=hb j o2 b2 (Ne.symm y) hj l2 (key y e2);subst x;rw [aa.bg] at e1; cases e1;exact absurd eb.symm this
  ·rw [if_neg x] at hi
   by_cases y:n=j
   ·have:=hb i o1 b1 (Ne.symm x) hi l1 (key x e1)
    subst y;rw [aa.bg] at e2; cases e2;exact absurd eb this
   ·rw [if_neg y] at hj
    exact r.inj i j o1 o2 b1 b2 hi hj l1 l2 (key x e1) (key y e2) eb
theorem Rel.ghost {m:aa} {F:Nat→Prop} {K:World} {h:Hp} {w:World} (r:Rel P G m F K h w) (b:BI):Rel P G (m.up h.next b) F K {next:=h.next+1,bs:=h.bs.set h.next .dead} w where
 len:=fun i hi=>by unfold aa.up; simp only at hi; rw [if_neg (by omega)]; exact r.len i (by omega)
 os:=r.os
 tape:=r.tape
 output:=r.output
 size:=r.size
 fr:=r.fr
 oC:=r.oC
 obj:=fun i o' hi=>by
  simp only [Tr.bn] at hi;by_cases e:h.next=i
  ·rw [if_pos e] at hi; cases hi; trivial
  ·rw [if_neg e] at hi
   exact KE (Ext.one (r.len _ (Nat.le_refl _)) b) (fun b' hb'=>by unfold aa.up at hb'; rwa [if_neg (Ne.symm e)] at hb') (r.obj i o' hi)
 inj:=fun i j o1 o2 b1 b2 hi hj l1 l2 e1 e2 eb=>by
  simp only [Tr.bn] at hi hj;by_cases x:h.next=i
  ·rw [if_pos x] at hi; cases hi; exact l1.elim
  ·rw [if_neg x] at hi
   by_cases y:h.next=j
   ·rw [if_pos y] at hj; cases hj; exact l2.elim
   ·rw [if_neg y] at hj
    unfold aa.up at e1 e2;rw [if_neg (Ne.symm x)] at e1;rw [if_neg (Ne.symm y)] at e2;exact r.inj i j o1 o2 b1 b2 hi hj l1 l2 e1 e2 eb
theorem Rel.grow {m:aa} {F:Nat→Prop} {K:World} {h:Hp} {w w':World} (r:Rel P G m F K h w) (b:BI) (o:dA)
  (hos:w'.os=w.os) (W2:w'.tape=w.tape) (hout:w'.output=w.output) (hsz:w.heap.size≤w'.heap.size)
  (hold: ∀ k,k<w.heap.size→w'.heap[k]? =w.heap[k]?) (hb: ∀ j o bj,h.bs.get j=some o→o.live→m j=some bj→bj.af≠b.af)
  (ho:gZ P (m.up h.next b) F h.next w' o):Rel P G (m.up h.next b) F K {next:=h.next+1,bs:=h.bs.set h.next o} w':=
 r.born b o (Nat.lt_succ_self _) (Nat.le_succ _) (r.len _ (Nat.le_refl _)) hos W2 hout hsz hold (fun j o bj _=>hb j o bj) (fun j=>Tr.bn ..) ho
theorem Rel.fresh {m:aa} {F:Nat→Prop} {K:World} {h:Hp} {w:World} (r:Rel P G m F K h w) {n:Nat} (hn:w.heap.size≤n):
  ∀ j o bj,h.bs.get j=some o→o.live→m j=some bj→bj.af≠n:=by
 intro j o bj hj hl hb e;have:=(ur (r.obj j o hj) hl hb).2;omega
theorem Rel.kill {m:aa} {F:Nat→Prop} {K:World} {h:Hp} {w:World} (r:Rel P G m F K h w) (i:Nat):Rel P G m F K {h with bs:=h.bs.set i .dead} w:=
 ⟨r.len,r.os,r.tape,r.output,r.size,r.fr,r.oC,fun j o hj=>by
  rw [Tr.bn] at hj;by_cases e:i=j
  ·rw [if_pos e] at hj; cases hj; trivial
  ·rw [if_neg e] at hj; exact r.obj j o hj,fun j1 j2 o1 o2 b1 b2 h1 h2 l1 l2=>by
  rw [Tr.bn] at h1 h2;by_cases e:i=j1
  ·rw [if_pos e] at h1; cases h1; exact l1.elim
  ·rw [if_neg e] at h1
   by_cases e2:i=j2
   ·rw [if_pos e2] at h2; cases h2; exact l2.elim
   ·rw [if_neg e2] at h2; exact r.inj j1 j2 o1 o2 b1 b2 h1 h2 l1 l2⟩
structure Step (m m':aa) (h h':Hp):Prop where
 ext:Ext m m'
 next:h.next≤h'.next
 Mc: ∀ i,i<h.next→m i=none→m' i=none∧h'.bs.get i=h.bs.get i
theorem Step.refl (m:aa) (h:Hp):Step m m h h:=⟨.refl m,Nat.le_refl _,fun _ _ h=>⟨h,rfl⟩⟩
theorem Step.trans {m m1 m2:aa} {h h1 h2:Hp} (a:Step m m1 h h1) (b:Step m1 m2 h1 h2):Step m m2 h h2:=
 ⟨a.ext.trans b.ext,Nat.le_trans a.next b.next,fun i hi hm=>by
  obtain ⟨x,y⟩:=a.Mc i hi hm;obtain ⟨z,u⟩:=b.Mc i (Nat.lt_of_lt_of_le hi a.next) x
  exact ⟨z,u.trans y⟩⟩
theorem Step.set {m:aa} {h:Hp} {i:Nat} {b:BI} (hb:m i=some b) (o:dA):Step m m h {h with bs:=h.bs.set i o}:=
 ⟨.refl m,Nat.le_refl _,fun j hj hm=>⟨hm,by simp only [Tr.bn]; rw [if_neg (fun e=>by subst e; rw [hb] at hm; cases hm)]⟩⟩
theorem Step.new {m:aa} {h:Hp} (hm:m h.next=none) (b:BI) (o:dA):Step m (m.up h.next b) h {next:=h.next+1,bs:=h.bs.set h.next o}:=
 ⟨Ext.one hm b,Nat.le_succ _,fun j hj hn=>⟨by unfold aa.up; rw [if_neg (by omega)]; exact hn,by simp only [Tr.bn]; rw [if_neg (by omega)]⟩⟩
theorem Dh {m:aa} {w:World} {l l':List Value} (hl:aO m l=some l') (k:Nat) (v:Value) (h:(Tr.iX .e 0 l).get k=some v):
  k<l.length∧ ∃ v',aF m v=some v'∧(⟨l'⟩:Array Value)[0+k]? =some v':=by
 rw [Tr.wL] at h;by_cases hk:0≤k∧k<0+l.length
 ·rw [if_pos hk,Nat.sub_zero] at h
  obtain ⟨v',h1,h2⟩:=jW hl k v h;exact ⟨by omega,v',h1,by rw [Nat.zero_add]; simpa using h2⟩
 ·rw [if_neg hk] at h; cases h
def Md (P:Program) (m:aa) (F:Nat→Prop) (h h':Hp) (v v':Value) (w w':World):Prop:=
 ∃ obj OC,h'={next:=h.next+1,bs:=h.bs.set h.next obj}∧w'=w.alloc OC∧(∀ m',Ext m m'→m' h.next=some ⟨w.heap.size,0,0⟩→aF m' v=some v')∧
  (∀ m',Ext m m'→m' h.next=some ⟨w.heap.size,0,0⟩→ ¬ F w.heap.size→gZ P m' F h.next w' obj)
theorem Md.rel {m:aa} {F:Nat→Prop} {K:World} {h h':Hp} {v v':Value} {w w':World} (q:Md P m F h h' v v' w w') (r:Rel P G m F K h w):
  ∃ m',Step m m' h h'∧aF m' v=some v'∧Rel P G m' F K h' w':=by
 obtain ⟨obj,OC,rfl,rfl,h1,h2⟩:=q;have hm0:m h.next=none:=r.len _ (Nat.le_refl _)
 have hF: ¬ F w.heap.size:=fun hF=>by have:=(r.fr _ hF).1; have:=r.size; omega
 refine ⟨m.up h.next ⟨w.heap.size,0,0⟩,Step.new hm0 _ _,h1 _ (Ext.one hm0 _) (aa.bg ..), ?_⟩
 exact r.grow _ _ rfl rfl rfl (by simp) (fun k hk=>Go.RowKit.Below.heap_alloc _ _ _ hk) (r.fresh (Nat.le_refl _)) (h2 _ (Ext.one hm0 _) (aa.bg ..) hF)
theorem zX {m:aa} {F:Nat→Prop} {h h':Hp} (w:World) {ty:TypeId} {l l':List Value} (hl:aO m l=some l')
  {v:Value} (e:qF h ty l=(v,h')):Md P m F h h' v (.pointer (some ⟨w.heap.size,0,none⟩)) w (w.alloc (.cells ⟨l'⟩ ty)):=by
 unfold qF at e;cases e;refine ⟨_,_,rfl,rfl,fun m' he hm=> ?_,fun m' he hm hF=> ?_⟩
 ·have hb:bk (2*h.next)= .new h.next:=by unfold bk; rw [show Nat.mod (2*h.next) 2=0 from (by omega:(2*h.next)%2=0),show Nat.div (2*h.next) 2=h.next from (by omega:(2*h.next)/2=h.next)]
  simp only [aF,iG,hb,hm]
 ·intro b hb
  rw [hm] at hb; cases hb;refine ⟨⟨l'⟩,(0,0),hF, ?_, ?_, ?_, ?_⟩
  ·show (w.heap.push _)[w.heap.size]? =_
   simp
  ·intro k v hk
   exact Dh (fm he _ _ hl) (w:=w) k v hk
  ·have:=c9 hl
   simp [N_,this]
  ·exact ⟨fun k _ _=>by simp, .inl ⟨rfl,rfl,by have:=c9 hl; simp [this]⟩⟩
theorem Rel.agv {m:aa} {F:Nat→Prop} {K:World} {h:Hp} {w:World} (r:Rel P G m F K h w) {i:Nat} {size:Nat} {ty:TypeId} {cs:Tr Value}
  (hi:h.bs.get i=some (.cells size ty cs)) {k:Nat} (hk:k<size) {v v':Value} (hv:aF m v=some v') {b:BI} (hb:m i=some b):
  Rel P G m F K {h with bs:=h.bs.set i (.cells size ty (cs.set k v))} (w.setCell ⟨b.af,b.sh+k,none⟩ v')∧
   (∃ u,w.cell? ⟨b.af,b.sh+k,none⟩=some u)∧w.frozen? ⟨b.af,b.sh+k,none⟩=false:=by
 obtain ⟨cc,fr,h2,h3,h4,h5,h6⟩:=r.obj i _ hi b hb;have hlt:b.sh+k<cc.size:=by omega
 have aiJ:(w.setCell ⟨b.af,b.sh+k,none⟩ v').heap[b.af]? =some (.cells (cc.setIfInBounds (b.sh+k) v') ty fr):=by
  simp [World.setCell,Array.getElem?_modify,h3]
 have wN: ∀ q,q≠b.af→(w.setCell ⟨b.af,b.sh+k,none⟩ v').heap[q]? =w.heap[q]? :=fun q hq=>Go.RowKit.Below.heap_setCell _ _ _ _ hq
 refine ⟨⟨r.len,r.os,r.tape,r.output,by simpa using r.size, ?_,r.oC, ?_, ?_⟩, ?_, ?_⟩
 ·intro q hq
  refine ⟨(r.fr q hq).1, ?_⟩;rw [wN q (fun e=>h2 (e ▸ hq))];exact (r.fr q hq).2
 ·intro j o hj
  rw [Tr.bn] at hj;by_cases e:i=j
  ·rw [if_pos e] at hj; cases hj; subst e
   intro b2 A7;rw [hb] at A7; cases A7;refine ⟨_,fr,h2,aiJ, ?_,by simpa using h5,h6.1,by simpa using h6.2⟩;intro q u hq;rw [Tr.bn] at hq;by_cases eq:k=q
   ·rw [if_pos eq] at hq; cases hq; subst eq
    exact ⟨hk,v',hv,by simp [hlt]⟩
   ·rw [if_neg eq] at hq
    obtain ⟨x,u',y,z⟩:=h4 q u hq;refine ⟨x,u',y, ?_⟩;rw [Array.getElem?_setIfInBounds,if_neg (by omega)];exact z
  ·rw [if_neg e] at hj
   refine jX (r.obj j o hj) fun hl b2 A7=>wN _ fun eb=> ?_
   exact e (r.inj i j _ o b b2 hi hj trivial hl hb A7 eb.symm)
 ·intro j1 j2 o1 o2 b1 b2 pP hj2 l1 l2
  rw [Tr.bn] at pP hj2;have key: ∀ j o,(if i=j then some (dA.cells size ty (cs.set k v)) else h.bs.get j)=some o→o.live→ ∃ o',h.bs.get j=some o'∧o'.live:=by
   intro j o ho hl;by_cases e:i=j
   ·subst e; exact ⟨_,hi,trivial⟩
   ·rw [if_neg e] at ho; exact ⟨o,ho,hl⟩
  obtain ⟨o1',h1',l1'⟩:=key _ _ pP l1;obtain ⟨o2',h2',l2'⟩:=key _ _ hj2 l2;exact r.inj j1 j2 o1' o2' b1 b2 h1' h2' l1' l2'
 ·have: ∃ u,cc[b.sh+k]? =some u:=⟨cc[b.sh+k],by simp [hlt]⟩
  obtain ⟨u,hu⟩:=this;exact ⟨u,by simp [World.cell?,h3,hu]⟩
 ·have:=h6.1 (b.sh+k) (by omega) (by omega)
  simp only [World.frozen?,h3];exact this
theorem RK {h:Hp} {i:Nat} {o:dA}:({h with bs:=h.bs.set i o}:Hp).bs.get i=some o:=by simp [Tr.bn]
theorem Rel.congr {m:aa} {F:Nat→Prop} {K:World} {h:Hp} {w:World} (r:Rel P G m F K h w) {bs:Tr dA} (e: ∀ i,bs.get i=h.bs.get i):Rel P G m F K {h with bs:=bs} w:=
 ⟨r.len,r.os,r.tape,r.output,r.size,r.fr,r.oC,fun i o hi=>r.obj i o (by rw [← e]; exact hi),fun i j o o' b b' hi hj=>r.inj i j o o' b b' (by rw [← e]; exact hi) (by rw [← e]; exact hj)⟩
theorem gJ {m:aa} {F:Nat→Prop} {K:World} {i size:Nat} {ty:TypeId} {b:BI} (hb:m i=some b):
  ∀ (l:List Value) (k:Nat) (cs cs':Tr Value) (h:Hp) (w:World) (l':List Value) (a:Addr) (n:Nat),Rel P G m F K h w→h.bs.get i=some (.cells size ty cs)→
   dV l k size cs=some cs'→aO m l=some l'→(∀ q,a.add (n+q)=⟨b.af,b.sh+(k+q),none⟩)→
   ∃ w',Rel P G m F K {h with bs:=h.bs.set i (.cells size ty cs')} w'∧(storeCells a l' n).run P w= .ok () w'
 |[],k,cs,cs',h,w,l',a,n,r,hi,hs,hl,ha=>by
  simp only [Oj,Option.some.injEq] at hs;subst hs;simp only [aO,Option.some.injEq] at hl;subst hl;refine ⟨w,r.congr fun j=> ?_,by simp [storeCells]⟩;rw [Tr.bn];by_cases e:i=j
  ·rw [if_pos e, ←e,hi]
  ·rw [if_neg e]
 |v::l,k,cs,cs',h,w,l',a,n,r,hi,hs,hl,ha=>by
  obtain ⟨v',l2,hv,C5,rfl⟩:=cz hl;simp only [oQ] at hs;cases h1:Nat.blt k size with
  |false=>rw [h1] at hs; cases hs
  |true=>
   cases h2:dU v with
   |false=>rw [h1,h2] at hs; cases hs
   |true=>
    rw [h1,h2] at hs;dsimp only at hs;obtain ⟨r1,⟨u,hu⟩,hf⟩:=r.agv hi (cY h1) hv hb;obtain ⟨w',r2,hrun⟩:=gJ hb l (k+1) (cs.set k v) cs' _ _ l2 a (n+1) r1 RK hs C5 (fun q=>by
     have:=ha (q+1); rw [show n+1+q=n+(q+1) by omega,this,show k+(q+1)=k+1+q by omega])
    refine ⟨w', ?_, ?_⟩
    ·have:=r2.congr (bs:=h.bs.set i (.cells size ty cs')) (fun j=>by
      simp only [Tr.bn]; by_cases e:i=j<;>simp [e])
     exact this
    ·have h0:=ha 0
     simp only [Nat.add_zero] at h0;simp only [storeCells,Sem.run_bind,h0,run_store P w _ v' .plain (Oy hv h2),hu,hf,Result.andThen_ok,Bool.false_eq_true,if_false];exact hrun
theorem W3 {m:aa} {F:Nat→Prop} {K:World} {h h':Hp} {w:World} (r:Rel P G m F K h w) {t:TypeId} {a a':Addr} {v v':Value}
  (hs:st P t h a v=some h') (ha:iG m a=some a') (hv:aF m v=some v'): ∃ w',Step m m h h'∧Rel P G m F K h' w'∧(storeVar t a' v').run P w= .ok () w':=by
 unfold st at hs;unfold iG at ha;cases hb:bk a.block with
 |old g=>rw [hb] at hs; cases hs
 |new i=>
  rw [hb] at hs ha;dsimp only at hs ha;cases ho:h.bs.get i with
  |none=>rw [ho] at hs; cases hs
  |some o=>
   rw [ho] at hs;cases o with
   |dead=>cases hs
   |loop=>cases hs
   |map es=>cases hs
   |cells size ty cs=>
    cases hn:aV P t with
    |none=>rw [hn] at hs; cases hs
    |some n=>
     rw [hn] at hs;dsimp only at hs;cases hq:Nat.beq (bC v).length n with
     |false=>rw [hq] at hs; cases hs
     |true=>
      rw [hq] at hs;dsimp only at hs;cases hc:dV (bC v) a.off size cs with
      |none=>rw [hc] at hs; cases hs
      |some cs'=>
       rw [hc] at hs;cases hs;cases h1:m i with
       |none=>rw [h1] at ha; cases ha
       |some b=>
       rw [h1] at ha;obtain rfl:_=a':=by simpa using ha
       have hl:=hY hv;obtain ⟨w',h2,h3⟩:=gJ h1 _ _ _ _ h w _ ⟨b.af,b.sh+a.off,none⟩ 0 r ho hc hl (fun q=>by
        unfold Addr.add;by_cases e:0+q=0
        ·rw [if_pos e]; congr 1; omega
        ·rw [if_neg e]; congr 1; simp only; omega)
       refine ⟨w',Step.set h1 _,h2, ?_⟩;have hsz:v'.cells.size=n:=by
        have:=c9 hl;simp only [Array.length_toList] at this;rw [this,br hq]
       simp [storeVar,aW hn,hsz,h3]
end Go.Sim
namespace Go.Sim
variable {P:Program} {G:Nat→Option (List Value)}
structure bU (m:aa) (nt:Nat) (tm:TM) (a:Array Value):Prop where
 size:a.size=nt
 get: ∀ t v,tm.get t=some v→ ∃ v',aF m v=some v'∧a[t]? =some v'
theorem bU.mono {m m':aa} {nt:Nat} {tm:TM} {a:Array Value} (h:bU m nt tm a) (e:Ext m m'):bU m' nt tm a:=
 ⟨h.size,fun t v ht=>by obtain ⟨v',h1,h2⟩:=h.get t v ht; exact ⟨v',gH e _ _ h1,h2⟩⟩
theorem az {m:aa} {nt:Nat} {tm:TM} {a:Act} (r:bU m nt tm a.tmps) {x:Operand} {v:Value} (h:aL tm x=some v):aF m v=some (a.eval x):=by
 cases x with
 |tmp t=>
  obtain ⟨v',h1,h2⟩:=r.get t v h;rw [h1];simp only [Act.eval,Array.getD_eq_getD_getElem?,h2,Option.getD_some]
 |const c=>
  simp only [aL] at h;cases hc:bL c with
  |false=>rw [hc] at h; cases h
  |true=>rw [hc] at h; cases h; exact bP m _ hc
 |global g=>
  simp only [aL,Option.some.injEq] at h;subst h;have hb:bk (2*g+1)= .old g:=by unfold bk; rw [show Nat.mod ((2*g+1)) 2=1 from (by omega:((2*g+1))%2=1),show Nat.div ((2*g+1)) 2=g from (by omega:((2*g+1))/2=g)]
  simp only [aF,iG,hb,Act.eval]
 |func f=>
  simp only [aL,Option.some.injEq] at h;subst h;simp only [aF,aO,A5,Act.eval]
theorem bR {m:aa} {nt:Nat} {tm:TM} {a:Act} (r:bU m nt tm a.tmps): ∀ {l:List Operand} {vs:List Value},cO tm l=some vs→aO m vs=some (l.map a.eval)
 |[],vs,h=>by simp only [C8,Option.some.injEq] at h; subst h; simp [aO]
 |x::l,vs,h=>by
  simp only [jF] at h;cases h1:aL tm x with
  |none=>rw [h1] at h; cases h
  |some v=>
   cases h2:cO tm l with
   |none=>rw [h1,h2] at h; cases h
   |some w=>
    rw [h1,h2] at h;cases h;simp only [aO,az r h1,bR r h2,List.map_cons]
theorem cP {α:Type}: ∀ (s:Sem α) {x:α},bw P s=some x→ ∀ w,s.run P w= .ok x w:=by
 intro s;induction s with
 |pure a=>intro x h w; simp only [bw,Option.some.injEq] at h; subst h; rfl
 |program k ih=>intro x h w; simp only [bw] at h; exact ih P h w
 |mark m k ih=>intro x h w; simp only [bw] at h; exact ih h w
 |_=>intro x h w; simp [bw] at h
theorem c_ {x:Option Value} {v:Value} (h:guarded x=some v):x=some v∧bL v=true:=by
 unfold guarded at h;cases x with
 |none=>cases h
 |some u=>
  dsimp only at h;cases hu:bL u with
  |false=>rw [hu] at h; cases h
  |true=>rw [hu] at h; cases h; exact ⟨rfl,hu⟩
def uv (P:Program) (G:Nat→Option (List Value)) (m:aa) (F:Nat→Prop) (K:World) (h h':Hp) (v:Value) (r:Result Next):Prop:=
 ∃ m' v' w',Step m m' h h'∧aF m' v=some v'∧Rel P G m' F K h' w'∧(r= .ok (.value v') w'∨(r= .ok .skip w'∧v'=undef))
def wD (P:Program) (m:aa) (v:Value) (w:World) (r:Result Next):Prop:= ∃ v',aF m v=some v'∧r= .ok (.value v') w
theorem wD.ok {m:aa} {F:Nat→Prop} {K:World} {h:Hp} {w:World} (r:Rel P G m F K h w) {v:Value} {x:Result Next} (q:wD P m v w x):uv P G m F K h h v x:=by
 obtain ⟨v',h1,h2⟩:=q;exact ⟨m,v',w, .refl m h,h1,r, .inl h2⟩
theorem wD.oJ {m:aa} {w:World} {v v':Value} {x:Result Next} (hv:aF m v=some v') (e:x= .ok (.value v') w):wD P m v w x:=⟨v',hv,e⟩
theorem wD.aT {m:aa} {w:World} {v v':Value} {s:Sem Value} (hr:s.run P w= .ok v' w) (hv:aF m v=some v'):wD P m v w ((do pure (.value (← s)):Sem Next).run P w):=
 ⟨v',hv,by simp [hr]⟩
theorem qL {m:aa} {v v':Value} (h:bL v=true) (hv:aF m v=some v'):v'=v:=by rw [bP m v h] at hv; exact (Option.some.inj hv).symm
theorem h_ {t:TypeId} {l:List Value} (h:zeroCells P t=some l): ∃ z,bA P t=some z∧bL z=true∧l=bC z:=by
 unfold zeroCells at h;cases hz:bA P t with
 |none=>rw [hz] at h; cases h
 |some z=>
  rw [hz] at h;dsimp only at h;cases hn:bL z with
  |false=>rw [hn] at h; cases h
  |true=>rw [hn] at h; cases h; exact ⟨z,rfl,hn,rfl⟩
theorem lE {v:Value} (h:bL v=true):v.cells.toList=bC v:=by
 have:=hY (m:=fun _=>none) (bP (fun _=>none) v h);rw [eP (fun _=>none) (bC v) ?_] at this
 ·exact (Option.some.inj this).symm
 ·cases v with
  |agg a=>obtain ⟨l⟩:=a; simpa [bL,bC] using h
  |_=>simp only [bC,bL.iV,h]
theorem Es {v:Value} (h:bL v=true):bL.iV (bC v)=true:=by
 cases v with
 |agg a=>obtain ⟨l⟩:=a; simpa [bL,bC] using h
 |_=>simp only [bC,bL.iV,h]
theorem GR (t:TypeId) (v:Value) (w:World):(newVar t v).run P w= .ok ⟨w.heap.size,0,none⟩ (w.alloc (.cells v.cells t)):=by
 simp [newVar,newRow]
theorem aU {s:Sem Value} {w w':World} {v:Value} (h:s.run P w= .ok v w'):((do pure (.value (← s)):Sem Next)).run P w= .ok (.value v) w':=by
 simp [h]
theorem cM {s:Sem Unit} {w w':World} (h:s.run P w= .ok () w'):((do s; pure .skip:Sem Next)).run P w= .ok .skip w':=by
 simp [h]
section
variable {m:aa} {F:Nat→Prop} {K:World} {h h':Hp} {w:World} {nt:Nat} {tm:TM} {a:Act} {v:Value}
def ZT (P:Program) (m:aa) (F:Nat→Prop) (h h':Hp) (v:Value) (w:World) (r:Result Next):Prop:= ∃ v' w',Md P m F h h' v v' w w'∧r= .ok (.value v') w'
theorem ZT.ok (r:Rel P G m F K h w) {x:Result Next} (q:ZT P m F h h' v w x):uv P G m F K h h' v x:=by
 obtain ⟨v',w',h1,h2⟩:=q;obtain ⟨m',g1,g2,g3⟩:=h1.rel r;exact ⟨m',v',w',g1,g2,g3, .inl h2⟩
theorem RL {t:TypeId} {u u':Value} (hu:aF m u=some u') (e:qF h t (bC u)=(v,h')):
  ZT P m F h h' v w ((do pure (.value (← Instr.box t u')):Sem Next).run P w):=
 ⟨_,_,zX w (hY hu) e,aU (by simp [Instr.box,newVar,newRow])⟩
theorem GS {t:TypeId} {l:List Value} (hz:zeroCells P t=some l) (e:qF h t l=(v,h')):
  ZT P m F h h' v w ((do pure (.value (← Instr.alloc t true (.tuple #[]))):Sem Next).run P w):=by
 obtain ⟨z,h1,h2,rfl⟩:=h_ hz;exact ⟨_,_,zX w (hY (bP m z h2)) e,aU (by simp [Instr.alloc,newVar,newRow,bW h1])⟩
theorem cq {x:Value} {a:Addr} (h:aF m (.pointer (some a))=some x): ∃ a',iG m a=some a'∧x= .pointer (some a'):=by
 simp only [aF] at h;cases ha:iG m a with
 |none=>rw [ha] at h; cases h
 |some a'=>rw [ha] at h; cases h; exact ⟨a',rfl,rfl⟩
theorem cS {x:Value} {a:Addr} {n c:Nat} (h:aF m (.slice (some a) n c)=some x): ∃ a',iG m a=some a'∧x= .slice (some a') n (c+yz m a):=by
 simp only [aF] at h;cases ha:iG m a with
 |none=>rw [ha] at h; cases h
 |some a'=>rw [ha] at h; cases h; exact ⟨a',rfl,rfl⟩
theorem KF {x:Value} {l:List Value} (h:aF m (.agg ⟨l⟩)=some x): ∃ l',aO m l=some l'∧x= .agg ⟨l'⟩:=by
 simp only [aF] at h;cases ha:aO m l with
 |none=>rw [ha] at h; cases h
 |some a'=>rw [ha] at h; cases h; exact ⟨a',rfl,rfl⟩
theorem Et {x:Value} {l:List Value} (h:aF m (.tuple ⟨l⟩)=some x): ∃ l',aO m l=some l'∧x= .tuple ⟨l'⟩:=by
 simp only [aF] at h;cases ha:aO m l with
 |none=>rw [ha] at h; cases h
 |some a'=>rw [ha] at h; cases h; exact ⟨a',rfl,rfl⟩
theorem gC {x:Value} {k:IntKind} {n:Int} (h:aF m (.int k n)=some x):x= .int k n:=by simpa [aF] using h.symm
theorem mN {x:Value} {b:Bool} (h:aF m (.bool b)=some x):x= .bool b:=by simpa [aF] using h.symm
theorem eX {x:Value} {b:ByteArray} (h:aF m (.string b)=some x):x= .string b:=by simpa [aF] using h.symm
theorem Me (r:Rel P G m F K h w) {t:TypeId} {a:Addr} {x:Value} (hx:aF m (.pointer (some a))=some x) (e:ld P G t h a=some v):
  wD P m v w ((do pure (.value (← Instr.loadAt t x)):Sem Next).run P w):=by
 obtain ⟨a',h1,rfl⟩:=cq hx;obtain ⟨v',h2,h3⟩:=OB r e h1;refine .oJ h2 (aU ?_);simp [Instr.loadAt,Instr.sureAddr,h3]
theorem GU (r:Rel P G m F K h w) {t:TypeId} {a:Addr} {x u u':Value} (hx:aF m (.pointer (some a))=some x) (hu:aF m u=some u') (e:st P t h a u=some h'):
  uv P G m F K h h' undef ((do Instr.storeAt t x u'; pure .skip:Sem Next).run P w):=by
 obtain ⟨a',h1,rfl⟩:=cq hx;obtain ⟨w',h4,h2,h3⟩:=W3 r e h1 hu;refine ⟨m,undef,w',h4,by simp [undef,aF,aO],h2, .inr ⟨cM ?_,rfl⟩⟩;simp [Instr.storeAt,Instr.sureAddr,h3]
theorem s7 {a a':Addr} {n:Nat} (h:iG m a=some a'):iG m (dB a n)=some (a'.add n)∧yz m (dB a n)=yz m a:=by
 unfold dB Addr.add;by_cases hn:n=0
 ·subst hn; exact ⟨by simpa using h,rfl⟩
 ·rw [ef hn,if_neg hn]
  unfold iG yz at*;dsimp only;cases hb:bk a.block with
  |old g=>
   rw [hb] at h;dsimp only at h ⊢;cases hs:a.spot with
   |some _=>rw [hs] at h; cases h
   |none=>rw [hs] at h; cases h; exact ⟨rfl,rfl⟩
  |new i=>
   rw [hb] at h;dsimp only at h ⊢;cases hm:m i with
   |none=>rw [hm] at h; cases h
   |some b=>rw [hm] at h; cases h; exact ⟨by simp [Nat.add_assoc],rfl⟩
theorem wO {a a':Addr} (h:iG m a=some a'):iG m {a with spot:=none}=some a':=by
 unfold iG at*;dsimp only;cases hb:bk a.block with
 |old g=>
  rw [hb] at h;dsimp only at h ⊢;cases hs:a.spot with
  |some _=>rw [hs] at h; cases h
  |none=>rw [hs] at h; exact h
 |new i=>rw [hb] at h; exact h
theorem uw (r:Rel P G m F K h w) {s:TypeId} {a:Addr} {x:Value} {fs:Array Field} {f:Nat} {fd:Field} {n:Nat} (hx:aF m (.pointer (some a))=some x)
  (hs:P.underlying s=some (.struct fs)) (hf:fs.toList[f]? =some fd) (hn:aV P fd.type=some (n+1)):
  wD P m (.pointer (some (dB a fd.offset))) w ((do pure (.value (← Instr.fieldAt s x f)):Sem Next).run P w):=by
 obtain ⟨a',h1,rfl⟩:=cq hx;refine .oJ (v':= .pointer (some (a'.add fd.offset))) (by simp only [aF,(s7 h1).1]) (aU ?_);have hf':fs[f]? =some fd:=by simpa using hf
 simp [Instr.fieldAt,aD hs,hf',Instr.sureAddr,fieldPlace,aW hn]
theorem jH {i:Value} {n:Nat} (h:cm i=some n): ∃ k,i= .int k n:=by
 unfold cm at h;split at h
 ·cases h; exact ⟨_,rfl⟩
 ·cases h
theorem JI (r:Rel P G m F K h w) {t e:TypeId} {a:Addr} {n c i size:Nat} {x y iv:Value} (hx:aF m (.slice (some a) n c)=some x) (hy:aF m iv=some y)
  (hi:cm iv=some i) (ht:P.underlying t=some (.slice e)) (hn:aV P e=some size) (hlt:i<n):
  wD P m (.pointer (some (dB {a with spot:=none} (i*size)))) w ((do pure (.value (← Instr.indexAt t x y)):Sem Next).run P w):=by
 obtain ⟨a',h1,rfl⟩:=cS hx;obtain ⟨k,rfl⟩:=jH hi;obtain rfl:=gC hy;refine .oJ (v':= .pointer (some (a'.add (i*size)))) (by simp only [aF,(s7 (wO h1)).1]) (aU ?_);have h2:(0:Int)≤i∧(i:Int)<n:=⟨by omega,by omega⟩;simp [Instr.indexAt,asIntOf,aD ht,aW hn]; intro hh; omega
theorem JJ (r:Rel P G m F K h w) {t e:TypeId} {a:Addr} {n i size:Nat} {x y iv:Value} (hx:aF m (.pointer (some a))=some x) (hy:aF m iv=some y)
  (hi:cm iv=some i) (ht:P.underlying t=some (.array n e)) (hn:aV P e=some size) (hlt:i<n):
  wD P m (.pointer (some (dB a (i*size)))) w ((do pure (.value (← Instr.indexAt t x y)):Sem Next).run P w):=by
 obtain ⟨a',h1,rfl⟩:=cq hx;obtain ⟨k,rfl⟩:=jH hi;obtain rfl:=gC hy;refine .oJ (v':= .pointer (some (a'.add (i*size)))) (by simp only [aF,(s7 h1).1]) (aU ?_);have h2:(0:Int)≤i∧(i:Int)<n:=⟨by omega,by omega⟩;simp [Instr.indexAt,asIntOf,aD ht,aW hn,Instr.sureAddr]; intro hh; omega
end
end Go.Sim
namespace Go.Sim
variable {P:Program} {G:Nat→Option (List Value)}
section
variable {m:aa} {F:Nat→Prop} {K:World} {h h':Hp} {w:World} {nt:Nat} {tm:TM} {a:Act} {v:Value}
def s8 (m:aa) (o o':Option Value):Prop:=(o=none∧o'=none)∨ ∃ u u',o=some u∧o'=some u'∧aF m u=some u'
theorem i4 {a:Act} (r:bU m nt tm a.tmps) {x:Option Operand} {o:Option Value} (e:eF tm x=some o):s8 m o (x.map a.eval):=by
 cases x with
 |none=>simp only [eF,Option.some.injEq] at e; subst e; exact .inl ⟨rfl,rfl⟩
 |some x=>
  simp only [eF] at e;cases h1:aL tm x with
  |none=>rw [h1] at e; cases e
  |some u=>rw [h1] at e; cases e; exact .inr ⟨u,_,rfl,rfl,az r h1⟩
theorem s8.nat {o o':Option Value} {d:Value} {n:Nat} (h:s8 m o o') (hd:cm (o.getD d)=some n):
  (o=none∧o'=none∧cm d=some n)∨ ∃ k,o=some (.int k n)∧o'=some (.int k n):=by
 rcases h with ⟨rfl,rfl⟩|⟨u,u',rfl,rfl,hu⟩
 ·exact .inl ⟨rfl,rfl,hd⟩
 ·simp only [Option.getD_some] at hd
  obtain ⟨k,rfl⟩:=jH hd;obtain rfl:=gC hu;exact .inr ⟨k,rfl,rfl⟩
theorem pQ (k:IntKind) (i y:Nat) (c:BoundsCode) (hi:i≤y) (w:World):(Instr.sliceBound (.int k i) y c).run P w= .ok i w:=by
 have h:(0:Int)≤i∧(i:Int)≤y:=⟨by omega,by omega⟩;simp [Instr.sliceBound,asIntOf]; intro hh; omega
theorem jY {k:IntKind} {n q:Nat} (h:cm (.int k (n:Int))=some q):q=n:=by
 simpa [cm] using h.symm
theorem gh {isSlice:Bool} {len cap cap':Nat} {lo hi mx lo' hi' Oa:Option Value} {l q z:Nat} (hlo:s8 m lo lo') (hhi:s8 m hi hi') (UO:s8 m mx Oa)
  (e1:cm (lo.getD (.int .i64 (0:Nat)))=some l) (e2:cm (hi.getD (.int .i64 len))=some q) (e3:cm (mx.getD (.int .i64 cap))=some z)
  (hc:cap≤cap') (h3:z≤cap) (h2:q≤z) (h1:l≤q) (Ty:mx.isSome→hi.isSome) (w:World):
  (Instr.sliceBounds isSlice len cap' lo' hi' Oa).run P w= .ok (l,q,if mx.isSome then z else cap') w:=by
 rcases UO.nat e3 with ⟨rfl,rfl,g3⟩|⟨k3,rfl,rfl⟩
 ·obtain rfl:=jY g3
  rcases hhi.nat e2 with ⟨rfl,rfl,g2⟩|⟨k2,rfl,rfl⟩
  ·obtain rfl:=jY g2
   simp only [Instr.sliceBounds,Sem.run_bind,Sem.run_pure,Result.andThen_ok];rcases hlo.nat e1 with ⟨rfl,rfl,g1⟩|⟨k1,rfl,rfl⟩
   ·obtain rfl:=jY g1; rfl
   ·simp only [Sem.run_bind]; rw [pQ k1 l q _ h1]; rfl
  ·simp only [Instr.sliceBounds,Sem.run_bind,Sem.run_pure,Result.andThen_ok]
   rw [pQ k2 q cap' _ (by omega)];simp only [Result.andThen_ok];rcases hlo.nat e1 with ⟨rfl,rfl,g1⟩|⟨k1,rfl,rfl⟩
   ·obtain rfl:=jY g1; rfl
   ·simp only [Sem.run_bind]; rw [pQ k1 l q _ h1]; rfl
 ·rcases hhi.nat e2 with ⟨rfl,rfl,g2⟩|⟨k2,rfl,rfl⟩
  ·simp at Ty
  ·simp only [Instr.sliceBounds,Sem.run_bind,Sem.run_pure,Result.andThen_ok]
   rw [pQ k3 z cap' _ (by omega)];simp only [Result.andThen_ok];rw [pQ k2 q z _ h2];simp only [Result.andThen_ok];rcases hlo.nat e1 with ⟨rfl,rfl,g1⟩|⟨k1,rfl,rfl⟩
   ·obtain rfl:=jY g1; rfl
   ·simp only [Sem.run_bind]; rw [pQ k1 l q _ h1]; rfl
theorem GV (a:Addr):yz m {a with spot:=none}=0:=by unfold yz; dsimp only; cases bk a.block<;>rfl
theorem A8 {a:Addr} (h:a.spot=none):yz m a=0:=by unfold yz; rw [h]; cases bk a.block<;>rfl
theorem A9 (s:ByteArray) (l q:Nat):(⟨⟨(s.data.toList.drop l).take (q - l)⟩⟩:ByteArray)=s.extract l q:=by
 apply ByteArray.ext;rw [ByteArray.data_extract];apply Array.toList_inj.1;simp [List.extract_eq_take_drop]
theorem GW (r:Rel P G m F K h w) {t:TypeId} {s:ByteArray} {x:Value} {lo hi lo' hi' Oa:Option Value} {l q:Nat} (hx:aF m (.string s)=some x) (ht:P.underlying t=some .string)
  (hlo:s8 m lo lo') (hhi:s8 m hi hi') (UO:s8 m none Oa) (e1:cm (lo.getD (.int .i64 (0:Nat)))=some l) (e2:cm (hi.getD (.int .i64 s.size))=some q) (h2:q≤s.size) (h1:l≤q):
  wD P m (.string ⟨⟨(s.data.toList.drop l).take (q - l)⟩⟩) w ((do pure (.value (← Instr.sliceAt t x lo' hi' Oa)):Sem Next).run P w):=by
 obtain rfl:=eX hx;have hm:Oa=none:=by rcases UO with ⟨_,h⟩|⟨u,u',h,_⟩; exact h; cases h
 subst hm;refine .oJ (v':= .string (s.extract l q)) (by rw [A9]; simp [aF]) (aU ?_);have:=gh (P:=P) (isSlice:=false) (cap:=s.size) (cap':=s.size) (mx:=none) hlo hhi UO e1 e2 (z:=s.size) rfl (Nat.le_refl _) (Nat.le_refl _) h2 h1 (by simp) w;simp [Instr.sliceAt,aD ht,Instr.slice,this]
theorem GX (r:Rel P G m F K h w) {t e:TypeId} {b:Option Addr} {len cap size:Nat} {x:Value} {lo hi mx lo' hi' Oa:Option Value} {l q z:Nat} (hx:aF m (.slice b len cap)=some x) (ht:P.underlying t=some (.slice e))
  (hn:aV P e=some size) (hlo:s8 m lo lo') (hhi:s8 m hi hi') (UO:s8 m mx Oa) (e1:cm (lo.getD (.int .i64 (0:Nat)))=some l) (e2:cm (hi.getD (.int .i64 len))=some q) (e3:cm (mx.getD (.int .i64 cap))=some z)
  (h3:z≤cap) (h2:q≤z) (h1:l≤q) (Ty:mx.isSome→hi.isSome) (hv:(match b with
   |none=>some (Value.slice none (q - l) (z - l))
   |some a=>match mx.isSome,Nat.beq z l with
    |true,true=>some (.slice (some {a with spot:=none}) (q - l) (z - l))
    |true,false=>some (.slice (some (dB {a with spot:=none} (l*size))) (q - l) (z - l))
    |false,true=>match a.spot with
     |none=>some (.slice (some a) (q - l) (z - l))
     |some _=>none
    |false,false=>some (.slice (some (dB a (l*size))) (q - l) (z - l)))=some v):
  wD P m v w ((do pure (.value (← Instr.sliceAt t x lo' hi' Oa)):Sem Next).run P w):=by
 cases b with
 |none=>
  have hx':x= .slice none len cap:=by simpa [aF] using hx.symm
  subst hx';simp only [Option.some.injEq] at hv;subst hv;have hb:=gh (P:=P) (isSlice:=true) (cap':=cap) hlo hhi UO e1 e2 e3 (Nat.le_refl _) h3 h2 h1 Ty w;have hz:(if mx.isSome then z else cap)=z:=by
   cases hm:mx with
   |none=>rw [hm] at e3; simpa using (jY e3).symm
   |some u=>simp
  rw [hz] at hb;refine .oJ (v':= .slice none (q - l) (z - l)) (by simp [aF]) (aU ?_);simp only [Instr.sliceAt,Sem.run_bind,aD ht,Result.andThen_ok,Instr.slice,hb,aW hn,Sem.run_pure];simp
 |some a=>
  obtain ⟨a',g1,rfl⟩:=cS hx;have hb:=gh (P:=P) (isSlice:=true) (cap':=cap+yz m a) hlo hhi UO e1 e2 e3 (Nat.le_add_right _ _) h3 h2 h1 Ty w;dsimp only at hv;have hrun: ∀ z' v',(if mx.isSome then z else cap+yz m a)=z'→v'=Value.slice (if z'=l then some a' else (some a').map (·.add (l*size))) (q - l) (z' - l)→
    (Instr.sliceAt t (.slice (some a') len (cap+yz m a)) lo' hi' Oa).run P w= .ok v' w:=by
   intro z' v' hz hv';rw [hz] at hb;subst hv';simp only [Instr.sliceAt,Sem.run_bind,aD ht,Result.andThen_ok,Instr.slice,hb,aW hn,Sem.run_pure]
  cases hm:mx.isSome with
  |true=>
   rw [hm] at hv hrun;cases hq:Nat.beq z l with
   |true=>
    rw [hq] at hv;cases hv;obtain rfl:=br hq;refine .oJ (v':= .slice (some a') (q - z) (z - z)) (by simp only [aF,wO g1,GV]; rfl) (aU (hrun z _ rfl (by rw [if_pos rfl])))
   |false=>
    rw [hq] at hv;cases hv;have hne:z≠l:=fun e=>by subst e; simp at hq
    refine .oJ (v':= .slice (some (a'.add (l*size))) (q - l) (z - l)) ?_ (aU (hrun z _ rfl (by rw [if_neg hne]; rfl)));have:=s7 (n:=l*size) (wO g1);simp only [aF,this.1,this.2,GV];rfl
  |false=>
   rw [hm] at hv hrun;have agw:mx=none:=by cases mx with|none=>rfl|some _=>cases hm
   subst agw;obtain rfl:=jY e3;cases hq:Nat.beq z l with
   |true=>
    rw [hq] at hv;obtain rfl:=br hq;dsimp only at hv;cases hs:a.spot with
    |some _=>rw [hs] at hv; cases hv
    |none=>
     rw [hs] at hv;cases hv;have hex:=A8 (m:=m) hs;refine .oJ (v':= .slice (some a') (q - z) (z - z)) (by simp only [aF,g1,hex]; rfl) (aU (hrun z _ (by simp [hex]) (by rw [if_pos rfl])))
   |false=>
    rw [hq] at hv;cases hv;have hne:z≠l:=fun e=>by subst e; simp at hq
    refine .oJ (v':= .slice (some (a'.add (l*size))) (q - l) (z+yz m a - l)) ?_ (aU (hrun _ _ rfl (by simp; intro hh; omega)));have:=s7 (n:=l*size) g1;simp only [aF,this.1,this.2];rw [show z - l+yz m a=z+yz m a - l by omega]
theorem JK (r:Rel P G m F K h w) {t e:TypeId} {a:Addr} {n size:Nat} {x:Value} {lo hi mx lo' hi' Oa:Option Value} {l q z:Nat} (hx:aF m (.pointer (some a))=some x) (ht:P.underlying t=some (.array n e))
  (hn:aV P e=some size) (hlo:s8 m lo lo') (hhi:s8 m hi hi') (UO:s8 m mx Oa) (e1:cm (lo.getD (.int .i64 (0:Nat)))=some l) (e2:cm (hi.getD (.int .i64 n))=some q) (e3:cm (mx.getD (.int .i64 n))=some z)
  (h3:z≤n) (h2:q≤z) (h1:l≤q) (Ty:mx.isSome→hi.isSome) (hsp:a.spot=none):
  wD P m (.slice (some (match Nat.beq z l with
     |true=>a
     |false=>dB a (l*size))) (q - l) (z - l)) w ((do pure (.value (← Instr.sliceAt t x lo' hi' Oa)):Sem Next).run P w):=by
 obtain ⟨a',g1,rfl⟩:=cq hx;have hb:=gh (P:=P) (isSlice:=false) (cap':=n) hlo hhi UO e1 e2 e3 (Nat.le_refl _) h3 h2 h1 Ty w;have hz:(if mx.isSome then z else n)=z:=by
  cases hm:mx with
  |none=>rw [hm] at e3; simpa using (jY e3).symm
  |some u=>simp
 rw [hz] at hb;have hex:=A8 (m:=m) hsp;refine .oJ (v':= .slice (some (if z=l then a' else a'.add (l*size))) (q - l) (z - l)) ?_ (aU ?_)
 ·cases hq:Nat.beq z l with
  |true=>obtain rfl:=br hq; simp only [aF,g1,hex,if_pos]; rfl
  |false=>
   have hne:z≠l:=fun e=>by subst e; simp at hq
   have:=s7 (n:=l*size) g1;simp only [aF,this.1,this.2,hex,if_neg hne]; rfl
 ·simp only [Instr.sliceAt,Sem.run_bind,aD ht,Result.andThen_ok,Instr.sureAddr,Sem.run_pure,hb,aW hn]
end
end Go.Sim
namespace Go.Sim
variable {P:Program} {G:Nat→Option (List Value)}
section
variable {m:aa} {F:Nat→Prop} {K:World} {h h':Hp} {w:World} {nt:Nat} {tm:TM} {a:Act} {v:Value}
theorem GY {x x':Value} {n:Nat} (hl:GB x=some n) (hx:aF m x=some x') (w:World):(Builtin.lenOf x').run P w= .ok n w:=by
 unfold GB at hl;split at hl
 ·rename_i b k c
  cases hl;cases b with
  |none=>
   obtain rfl:_=x':=by simpa [aF] using hx
   rfl
  |some a=>obtain ⟨a',_,rfl⟩:=cS hx; rfl
 ·cases hl; obtain rfl:=eX hx; rfl
 ·cases hl
theorem ux {l:List Value} (hl:bL.iV l=true) {l':List Value} (h:aO m l=some l'):l'=l:=by rw [eP m l hl] at h; exact (Option.some.inj h).symm
theorem zY: ∀ (l:List UInt8),bL.iV (l.map (fun b=>Value.int .u8 b.toNat))=true
 |[]=>rfl
 |b::l=>by simp only [List.map_cons,bL.iV,bL,zY l]
theorem fQ (r:Rel P G m F K h w) {size n:Nat} {x x':Value} {l:List Value} (hl:sZ G size h n x=some l) (hx:aF m x=some x'):
  ∃ l',aO m l=some l'∧(Builtin.firstCells size n x').run P w= .ok ⟨l'⟩ w:=by
 unfold sZ at hl;split at hl
 ·cases hl
  obtain rfl:_=x':=by simpa [aF] using hx
  exact ⟨[],by simp [aO],by simp [Builtin.firstCells]⟩
 ·rename_i a k c
  obtain ⟨a',h1,rfl⟩:=cS hx;obtain ⟨l',h2,h3⟩:=iZ r h1 _ _ _ hl;refine ⟨l',h2, ?_⟩;have hlen:l'.length=n*size:=by rw [c9 h2,lD _ _ _ hl]
  have:=run_loadCells_list (P:=P) (w:=w) a' l' (fun j v hj=>by simpa using h3 j v hj);rw [hlen] at this;simp [Builtin.firstCells,this]
 ·rename_i s
  cases hl;obtain rfl:=eX hx;refine ⟨_,eP m _ (zY _), ?_⟩;simp only [Builtin.firstCells,Sem.run_pure]
  congr 1
  apply Array.toList_inj.1;rw [ByteArray.data_extract];simp [List.extract_eq_take_drop]
 ·cases hl
theorem A_: ∀ (l:List Value) (k size:Nat) (cs:Tr Value),L1 l=true→k+l.length≤size→dV l k size cs=some (Tr.iX cs k l)
 |[],k,size,cs,_,_=>rfl
 |v::l,k,size,cs,h1,h2=>by
  simp only [L1] at h1;cases hu:dU v with
  |false=>rw [hu] at h1; cases h1
  |true=>
   rw [hu] at h1;simp only [List.length_cons] at h2;have hb:Nat.blt k size=true:=Nat.ble_eq_true_of_le (show k+1≤size by omega);simp only [oQ,hb,hu,Tr.sY];exact A_ l (k+1) size _ h1 (by omega)
theorem ze {t u:TypeId} {ts:List TypeId} (h:lB P (t::u::ts)=true):(∃ e,P.underlying u=some (.slice e))∨P.underlying u=some .string:=by
 unfold lB at h;dsimp only at h;split at h
 ·exact .inl ⟨_,by assumption⟩
 ·exact .inr (by assumption)
 ·cases h
theorem s9 {a a':Addr} {i:Nat} (hbk:bk a.block= .new i) (g1:iG m a=some a'): ∃ b,m i=some b∧a'=⟨b.af,b.sh+a.off,none⟩:=by
 unfold iG at g1;rw [hbk] at g1;dsimp only at g1;cases hb:m i with
 |none=>rw [hb] at g1; cases g1
 |some b=>rw [hb] at g1; exact ⟨b,rfl,(Option.some.inj g1).symm⟩
theorem eR {t u e ty:TypeId} {ts:Array TypeId} {tl:List TypeId} (hts:ts.toList=t::u::tl) {size sl sc n:Nat} {base:Option Addr} {x':Value} {new':List Value}
  (ht:P.underlying t=some (.slice e)) (hn:aV P e=some size) (hp:lB P (t::u::tl)=true) (hlen:(Builtin.lenOf x').run P w= .ok n w) (hle:sl+n≤sc) {w':World}
  (hsrc:(Builtin.firstCells size n x').run P w= .ok ⟨new'⟩ w) (hst:(match base with
   |none=>pure ()
   |some b=>storeCells (b.add (sl*size)) new':Sem Unit).run P w= .ok () w'):
  (Builtin.append_ ts ty #[.slice base sl sc,x']).run P w= .ok (.slice base (sl+n) sc) w':=by
 have hd:=ze hp;have h0:ts[0]? =some t:=by rw [← Array.getElem?_toList,hts]; rfl
 have h1:ts[1]? =some u:=by rw [← Array.getElem?_toList,hts]; rfl
 cases base with
 |none=>
  obtain rfl:w=w':=by simpa using hst
  rcases hd with ⟨e2,hd⟩|hd<;>simp [Builtin.append_,h0,h1,aD ht,aW hn,aD hd,hlen,hle,hsrc]
 |some b=>
  dsimp only at hst;rcases hd with ⟨e2,hd⟩|hd<;>simp [Builtin.append_,h0,h1,aD ht,aW hn,aD hd,hlen,hle,hsrc,hst]
theorem wP {t:TypeId} {n:Nat} (h:fP P t=some n) (w:World): ∃ i,P.info? t=some i∧i.bytes=n:=by
 unfold fP at h;cases hi:P.info? t with
 |none=>rw [hi] at h; cases h
 |some i=>rw [hi] at h; cases h; exact ⟨i,rfl,rfl⟩
theorem Di {t:TypeId} {n:Nat} {i:TypeInfo} (h:aV P t=some n) (hi:P.info? t=some i):i.size=n:=by
 unfold aV at h; rw [hi] at h; exact Option.some.inj h
theorem GZ {t:TypeId} {z:Value} {i:TypeInfo} (h:bA P t=some z) (hi:P.info? t=some i):i.zero=some z:=by
 unfold bA at h; rw [hi] at h; exact h
theorem s_ {t u e ty:TypeId} {ts:Array TypeId} {tl:List TypeId} (hts:ts.toList=t::u::tl) {size bytes sl sc n:Nat} {base:Option Addr} {x':Value} {old' new':List Value} {z:Value}
  (ht:P.underlying t=some (.slice e)) (hn:aV P e=some size) (hb:fP P e=some bytes) (hz:bA P e=some z) (hp:lB P (t::u::tl)=true) (hlen:(Builtin.lenOf x').run P w= .ok n w) (hgt: ¬ sl+n≤sc)
  (hfit:(sl+n)*bytes≤140737488355328)
  (hbytes:9223372036854775807<((sl+n:Nat):Int)→bytes≠0)
  (hsrc:(Builtin.firstCells size n x').run P w.drew= .ok ⟨new'⟩ w.drew) (hold:(Builtin.firstCells size sl (.slice base sl sc)).run P w.drew= .ok ⟨old'⟩ w.drew):
  (Builtin.append_ ts ty #[.slice base sl sc,x']).run P w= .ok (.slice (some ⟨w.heap.size,0,none⟩) (sl+n) (grownCap w (sl+n) sc e))
   (w.drew.alloc (.cells (⟨old'⟩++⟨new'⟩++Builtin.zeroCells z.cells (grownCap w (sl+n) sc e - (sl+n))) e)):=by
 have hd:=ze hp;have h0:ts[0]? =some t:=by rw [← Array.getElem?_toList,hts]; rfl
 have h1:ts[1]? =some u:=by rw [← Array.getElem?_toList,hts]; rfl
 obtain ⟨i,hi,rfl⟩:=wP hb w;have h2:=Di hn hi;have h3:=GZ hz hi;have h48:=growslice_fits (bytes:=i.bytes) (show sc<sl+n by omega) hfit;have agx: ¬ (281474976710656<Builtin.nextslicecap (sl+n) sc*i.bytes):=by omega
 have h63: ¬ (9223372036854775807<(sl:Int)+(n:Int)∧i.bytes=0):=fun ⟨a,b⟩=>hbytes (by push_cast; exact a) b
 rcases hd with ⟨e2,hd⟩|hd<;>simp [Builtin.append_,h0,h1,aD ht,sizeOf,typeInfo,zeroValue,hi,h2,h3,aD hd,hlen,hgt,agx,h63,Question.forced,hsrc,hold,newRow,grownCap]<;>(congr 2; apply Array.ext'; simp)
theorem grownCap_ge (w:World) (need old:Nat) (e:TypeId):need≤grownCap w need old e:=by
 unfold grownCap Question.cut; exact Nat.le_add_right _ _
theorem Rel.W4 (r:Rel P G m F K h w):Rel P G m F K h w.drew:=r.drew
theorem wQ (z:Value) (n:Nat):(Builtin.zeroCells z.cells n).size=n*z.cells.size:=by simp [Builtin.zeroCells]
theorem UP (r:Rel P G m F K h w) {size need cap:Nat} {e:TypeId} {l l':List Value} {z:Value} (hn:aV P e=some size) (hl:aO m l=some l') (hlen:l.length=need*size) (hz:(bC z).length=size) (hza:bL z=true) (hcap:need≤cap) (hrow:Tx P e):
  Rel P G (m.up h.next ⟨w.heap.size,0,cap - need⟩) F K {next:=h.next+1,bs:=h.bs.set h.next (.cells (need*size) e (Tr.iX .e 0 l))} (w.alloc (.cells (⟨l'⟩++Builtin.zeroCells z.cells (cap - need)) e)):=by
 refine r.grow _ _ rfl rfl rfl (by simp) (fun k hk=>Go.RowKit.Below.heap_alloc _ _ _ hk) (r.fresh (Nat.le_refl _)) ?_;have hl':=c9 hl;have hzs:z.cells.size=size:=by rw [← hz, ←lE hza]; simp
 intro b hb;rw [aa.bg] at hb; cases hb;refine ⟨⟨l'⟩++Builtin.zeroCells z.cells (cap - need),(0,0), ?_, ?_, ?_, ?_, ?_⟩
 ·intro hF; have:=(r.fr _ hF).1; have:=r.size; simp only at *; omega
 ·show (w.heap.push _)[w.heap.size]? =_
  simp
 ·intro k v hk
  obtain ⟨h1,v',h2,h3⟩:=Dh (fm (Ext.one (r.len _ (Nat.le_refl _)) _) _ _ hl) (w:=w) k v hk;refine ⟨by omega,v',h2, ?_⟩;rw [Array.getElem?_append_left (by simp; omega)];exact h3
 ·simp only [N_,hn,Option.getD_some,Array.size_append,wQ,hzs,List.size_toArray,hl',hlen]
  simp only [Nat.zero_add,Nat.le_refl]
 ·exact ⟨fun k _ _=>by simp, .inr hrow⟩
theorem Mf (i:Nat):bk (2*i)= .new i:=by unfold bk; rw [show Nat.mod (2*i) 2=0 from (by omega:(2*i)%2=0),show Nat.div (2*i) 2=i from (by omega:(2*i)/2=i)]
theorem zZ {b:BI} {n q:Nat}:aF (m.up q b) (.slice (some ⟨2*q,0,some 0⟩) n n)=some (.slice (some ⟨b.af,b.sh,none⟩) n (n+b.ex)):=by
 simp only [aF,iG,yz,Mf,aa.bg,Nat.add_zero]
theorem uv.aT {s:Sem Value} {v':Value} {w':World} {m':aa} (hr:s.run P w= .ok v' w') (he:Step m m' h h') (hv:aF m' v=some v') (r':Rel P G m' F K h' w'):
  uv P G m F K h h' v ((do pure (.value (← s)):Sem Next).run P w):=⟨m',v',w',he,hv,r', .inl (aU hr)⟩
theorem OD {size:Nat} {e:TypeId} {base:Option Addr} {cap:Nat} {bs:Tr dA} (hk:C9 size e h base cap=some bs) (hb: ∀ a,base=some a→ ∃ a',iG m a=some a'):Step m m h {h with bs:=bs}:=by
 unfold C9 at hk;split at hk
 ·cases hk; exact .refl m h
 ·rename_i a
  obtain ⟨a',ha⟩:=hb a rfl;split at hk
  ·rename_i i q hbk hsp
   split at hk
   ·split at hk
    ·cases hk
     cases hm:m i with
     |none=>unfold iG at ha; rw [hbk] at ha; dsimp only at ha; rw [hm] at ha; cases ha
     |some b=>exact Step.set hm .dead
    ·cases hk
   ·cases hk
  ·cases hk; exact .refl m h
theorem RM (r:Rel P G m F K h w) {size:Nat} {e:TypeId} {base:Option Addr} {cap:Nat} {bs:Tr dA} (hk:C9 size e h base cap=some bs):Rel P G m F K {h with bs:=bs} w:=by
 unfold C9 at hk;split at hk
 ·cases hk; exact r
 ·split at hk
  ·split at hk
   ·split at hk
    ·cases hk; exact r.kill _
    ·cases hk
   ·cases hk
  ·cases hk; exact r
theorem Dj (r:Rel P G m F K h w) {t u ty:TypeId} {ts:Array TypeId} {tl:List TypeId} (hts:ts.toList=t::u::tl) (hp:lB P (t::u::tl)=true) {s s' x x':Value}
  (hs:aF m s=some s') (hx:aF m x=some x') (e:AW P G t h s x=some (v,h')):
  uv P G m F K h h' v ((do pure (.value (← Builtin.append_ ts ty #[s',x'])):Sem Next).run P w):=by
 unfold AW at e;split at e
 ·rename_i elem ht
  split at e
  ·rename_i size base sl sc n hn hl
   have hlen:=GY (P:=P) hl hx;split at e
   ·cases e
   ·rename_i new hnew
    split at e
    ·
     rename_i hle;have hle:=cx hle;split at e
     ·cases e
      obtain rfl:_=s':=by simpa [aF] using hs
      obtain ⟨l',h1,h2⟩:=fQ r hnew hx;exact .aT (eR hts ht hn hp (hlen w) hle h2 (by rfl)) (.refl m h) (by simp [aF]) r
     ·rename_i a
      obtain ⟨a',g1,rfl⟩:=cS hs;obtain ⟨l',h1,h2⟩:=fQ r hnew hx;split at e
      ·split at e
       ·cases e
        have hl0:l'=[]:=by simpa [aO] using h1.symm
        subst hl0;refine .aT (eR hts ht hn hp (hlen w) (by omega) h2 (by simp [storeCells])) (.refl m h) ?_ r;simp only [aF,g1,Nat.add_zero]
       ·cases e
      ·rename_i i hbk
       split at e
       ·rename_i sz WD cs hi
        split at e
        ·rename_i cs' hst
         cases e;obtain ⟨b,hb,ha'⟩:=s9 hbk g1;obtain ⟨w',r',hrun⟩:=gJ hb _ _ _ _ h w _ (a'.add (sl*size)) 0 r hi hst h1 (fun q=>by
          subst ha';unfold Addr.add;by_cases e1:sl*size=0
          ·rw [if_pos e1]
           by_cases e2:0+q=0
           ·rw [if_pos e2]; congr 1; omega
           ·rw [if_neg e2]; congr 1; simp only; omega
          ·rw [if_neg e1]
           by_cases e2:0+q=0
           ·rw [if_pos e2]; congr 1; simp only; omega
           ·rw [if_neg e2]; congr 1; simp only; omega)
         refine .aT (eR hts ht hn hp (hlen w) (by omega) h2 hrun) (Step.set hb _) ?_ r';simp only [aF,g1]
        ·cases e
       ·cases e
    ·
     rename_i hgt;have hgt: ¬ sl+n≤sc:=fun hh=>by rw [Nat.ble_eq_true_of_le hh] at hgt; cases hgt
     split at e
     ·rename_i old bytes z hold hbytes hz
      split at e
      ·rename_i c1 c2 c3 c4 c5 c6 c7
       have hrow:Tx P elem:=⟨t,cY c7,ht⟩;split at e
       ·rename_i bs hk
        cases e;have c1:=cx c1;have hfit:(sl+n)*bytes≤140737488355328:=by omega
        have rk:=RM r hk;have sk:Step m m h {h with bs:=bs}:=OD hk (fun a hb=>by
         subst hb;obtain ⟨a',g,_⟩:=cS hs;exact ⟨a',g⟩)
        have ad5: ∀ s2 ZU,s'= .slice s2 sl ZU→ ¬ sl+n≤ZU→uv P G m F K h {next:=h.next+1,bs:=bs.set h.next (.cells ((sl+n)*size) elem (Tr.iX .e 0 (old++new)))} (.slice (some ⟨2*h.next,0,some 0⟩) (sl+n) (sl+n))
          ((do pure (.value (← Builtin.append_ ts ty #[s',x'])):Sem Next).run P w):=by
         intro s2 ZU hs2 agy;subst hs2;obtain ⟨l',h1,h2⟩:=fQ r.W4 hnew hx;obtain ⟨o',h3,h4⟩:=fQ r.W4 hold hs;have hrel:=UP (e:=elem) rk.W4 hn (oT h3 h1) (need:=sl+n) (by rw [List.length_append,br c5,br c6,Nat.add_mul]) (br c3) c2 (grownCap_ge w (sl+n) ZU elem) hrow;refine .aT (m':=m.up h.next ⟨w.drew.heap.size,0,grownCap w (sl+n) ZU elem - (sl+n)⟩) (s_ hts ht hn hbytes hz hp (hlen w) agy hfit (fun hh h0=>by subst h0; simp only [Nat.mul_zero] at c1; omega) h2 h4) (sk.trans (Step.new (rk.len _ (Nat.le_refl _)) _ _)) ?_ ?_
         ·rw [zZ]
          have:=grownCap_ge w (sl+n) ZU elem;show some (Value.slice (some ⟨w.heap.size,0,none⟩) (sl+n) (sl+n+(grownCap w (sl+n) ZU elem - (sl+n))))=_
          rw [show sl+n+(grownCap w (sl+n) ZU elem - (sl+n))=grownCap w (sl+n) ZU elem by omega]
         ·have he:(⟨o'⟩++⟨l'⟩:Array Value)=⟨o'++l'⟩:=by apply Array.ext'; simp
          rw [he];exact hrel
        cases base with
        |none=>
         obtain rfl:_=s':=by simpa [aF] using hs
         exact ad5 none sc rfl hgt
        |some a=>
         obtain ⟨a',g1,hs'⟩:=cS hs;by_cases ad6:sl+n≤sc+yz m a
         ·
          unfold C9 at hk;dsimp only at hk;cases hbk:bk a.block with
          |old g=>
           rw [hbk] at hk;exfalso;have:yz m a=0:=by unfold yz; rw [hbk]
           omega
          |new i=>
           rw [hbk] at hk;cases hsp:a.spot with
           |none=>
            exfalso;have:=A8 (m:=m) hsp;omega
           |some q=>
            rw [hsp] at hk;dsimp only at hk;cases hi:h.bs.get i with
            |none=>rw [hi] at hk; cases hk
            |some o=>
             rw [hi] at hk;cases o with
             |dead=>cases hk
             |loop=>cases hk
             |map es=>cases hk
             |cells sz WD cs=>
              dsimp only at hk;split at hk
              ·rename_i d1 d2
               cases hk;obtain rfl:=br d1;have d2:=br d2;obtain ⟨b,hb,ha'⟩:=s9 hbk g1;obtain ⟨cc,fr,hF,aiJ,hcs,hroom,hfr⟩:=r.obj i _ hi b hb;have hex:yz m a=b.ex:=by unfold yz; rw [hbk,hsp]; dsimp only; rw [hb]
               have ah7:N_ P WD b=b.ex*size:=by simp only [N_,hn,Option.getD_some]
               have hmul:sl*size+n*size≤sc*size+b.ex*size:=by
                rw [← Nat.add_mul, ←Nat.add_mul]; exact Nat.mul_le_mul_right _ (by omega)
               have ah3:(sc+b.ex - (sl+n))*size+(sl+n)*size=sc*size+b.ex*size:=by
                rw [← Nat.add_mul, ←Nat.add_mul]; congr 1; omega
               obtain ⟨l',h1,h2⟩:=fQ r hnew hx;obtain ⟨o',h3,h4⟩:=iZ r g1 _ _ _ (show eg G h a 0 (sl*size)=some old from hold)
               let b2:BI:=⟨b.af,b.sh+a.off,sc+b.ex - (sl+n)⟩
               have hmn:m h.next=none:=r.len _ (Nat.le_refl _)
               have r2:Rel P G (m.up h.next b2) F K {next:=h.next+1,bs:=(h.bs.set i .dead).set h.next (.cells ((sl+n)*size) WD (Tr.iX .e 0 old))} w:=by
                refine (r.kill i).grow b2 _ rfl rfl rfl (Nat.le_refl _) (fun _ _=>rfl) ?_ ?_
                ·intro j o bj hj dW hbj
                 rw [Tr.bn] at hj;by_cases e:i=j
                 ·rw [if_pos e] at hj; cases hj; exact dW.elim
                 ·rw [if_neg e] at hj
                  intro ajm;exact e (r.inj i j _ o b bj hi hj trivial dW hb hbj ajm.symm)
                ·intro b3 Zz
                 rw [aa.bg] at Zz; cases Zz;refine ⟨cc,fr,hF,aiJ, ?_, ?_, ?_⟩
                 ·intro k u hk
                  rw [Tr.wL] at hk;by_cases hkk:0≤k∧k<0+old.length
                  ·rw [if_pos hkk,Nat.sub_zero] at hk
                   obtain ⟨u',e1,e2⟩:=jW h3 k u hk;have e3:=h4 k u' e2;refine ⟨by have:=br c6; rw [Nat.add_mul]; omega,u',gH (Ext.one hmn _) _ _ e1, ?_⟩;rw [ha'] at e3;have OA:(Addr.mk b.af (b.sh+a.off) none).add (0+k)=⟨b.af,b.sh+a.off+k,none⟩:=by
                    unfold Addr.add;by_cases e4:0+k=0
                    ·rw [if_pos e4]; congr 1; omega
                    ·rw [if_neg e4]; congr 1; simp only; omega
                   rw [OA] at e3;simp only [World.cell?,aiJ] at e3;simpa using e3
                  ·rw [if_neg hkk] at hk; cases hk
                 ·have:N_ P WD b2=(sc+b.ex - (sl+n))*size:=by simp only [N_,hn,Option.getD_some,b2]
                  rw [this];show b.sh+a.off+(sl+n)*size+_≤_
                  omega
                 ·have:N_ P WD b2=(sc+b.ex - (sl+n))*size:=by simp only [N_,hn,Option.getD_some,b2]
                  rw [this];refine ⟨fun k k1 k2=> ?_, .inr hrow⟩;exact hfr.1 k (by have:b2.sh=b.sh+a.off:=rfl; omega) (by have:b2.sh=b.sh+a.off:=rfl; omega)
               have abT:({next:=h.next+1,bs:=(h.bs.set i .dead).set h.next (.cells ((sl+n)*size) WD (Tr.iX .e 0 old))}:Hp).bs.get h.next=some (.cells ((sl+n)*size) WD (Tr.iX .e 0 old)):=by simp [Tr.bn]
               have W5:dV new (sl*size) ((sl+n)*size) (Tr.iX .e 0 old)=some (Tr.iX (Tr.iX .e 0 old) (sl*size) new):=A_ new _ _ _ c4 (by have:=br c5; rw [Nat.add_mul]; omega);obtain ⟨w',r3,hrun⟩:=gJ (b:=b2) (m:=m.up h.next b2) (aa.bg ..) new (sl*size) (Tr.iX .e 0 old) _ _ w l' (a'.add (sl*size)) 0 r2
                abT W5 (fm (Ext.one hmn _) _ _ h1) (fun q=>by
                 subst ha';show _=Addr.mk b.af (b.sh+a.off+(sl*size+q)) none
                 unfold Addr.add;by_cases e1:sl*size=0
                 ·rw [if_pos e1]
                  by_cases e2:0+q=0
                  ·rw [if_pos e2]; congr 1; omega
                  ·rw [if_neg e2]; congr 1; simp only; omega
                 ·rw [if_neg e1]
                  by_cases e2:0+q=0
                  ·rw [if_pos e2]; congr 1; simp only; omega
                  ·rw [if_neg e2]; congr 1; simp only; omega)
               subst hs';refine .aT (m':=m.up h.next b2) (eR hts ht hn hp (hlen w) (by omega) h2 hrun) ((Step.set hb .dead).trans (Step.new (h:={h with bs:=h.bs.set i .dead}) hmn b2 _)) ?_ ?_
               ·rw [zZ]
                show some (Value.slice (some ⟨b.af,b.sh+a.off,none⟩) (sl+n) (sl+n+(sc+b.ex - (sl+n))))=_
                rw [ha',hex,show sl+n+(sc+b.ex - (sl+n))=sc+b.ex by omega]
               ·have:=r3.congr (bs:=(h.bs.set i .dead).set h.next (.cells ((sl+n)*size) WD (Tr.iX .e 0 (old++new)))) (fun j=>by
                 simp only [Tr.bn];by_cases e:h.next=j
                 ·rw [if_pos e,if_pos e,Tr.Er]; simp only [Nat.zero_add,br c6]
                 ·rw [if_neg e,if_neg e,if_neg e])
                exact this
              ·cases hk
         ·exact ad5 (some a') (sc+yz m a) hs' ad6
       ·cases e
      ·cases e
     ·cases e
  ·cases e
 ·cases e
end
end Go.Sim
namespace Go.Sim
variable {P:Program} {G:Nat→Option (List Value)}
section
variable {m:aa} {F:Nat→Prop} {K:World} {h h':Hp} {w:World} {nt:Nat} {tm:TM} {a:Act} {v:Value}
theorem ZV (r:Rel P G m F K h w) {t e ty:TypeId} {ts:Array TypeId} {tl:List TypeId} (hts:ts.toList=t::tl) {size n c q:Nat} {b:Addr} {s' x x':Value} {l:List Value}
  (hs:aF m (.slice (some b) n c)=some s') (hx:aF m x=some x') (ht:P.underlying t=some (.slice e)) (hn:aV P e=some size) (hq:GB x=some q)
  (hl:sZ G size h (Nat.min q n) x=some l) {i sz:Nat} {WD:TypeId} {cs cs':Tr Value} (hbk:bk b.block= .new i) (hi:h.bs.get i=some (.cells sz WD cs)) (hst:dV l b.off sz cs=some cs'):
  uv P G m F K h {h with bs:=h.bs.set i (.cells sz WD cs')} (.int .i64 (Nat.min q n)) ((do pure (.value (← Builtin.copy_ ts ty #[s',x'])):Sem Next).run P w):=by
 obtain ⟨b',g1,rfl⟩:=cS hs;have h0:ts[0]? =some t:=by rw [← Array.getElem?_toList,hts]; rfl
 have hlen:=GY (P:=P) hq hx;obtain ⟨l',h1,h2⟩:=fQ r hl hx;obtain ⟨b2,hb,ha'⟩:=s9 hbk g1;obtain ⟨w',r',hrun⟩:=gJ hb _ _ _ _ h w _ b' 0 r hi hst h1 (fun q=>by
  subst ha';unfold Addr.add;by_cases e2:0+q=0
  ·rw [if_pos e2]; congr 1; omega
  ·rw [if_neg e2]; congr 1; simp only; omega)
 refine .aT (v':= .int .i64 (Nat.min q n)) (w':=w') ?_ (Step.set hb _) (by simp [aF]) r';simp [Builtin.copy_,h0,aD ht,hlen,aW hn,h2,hrun,goInt]
theorem Eu: ∀ {l:List (Value×Value)} {es:List MapEntry},wM m l es→es.length=l.length
 |[],[],_=>rfl
 |(k,v)::l,e::es,hh=>by simp [Eu hh.2.2.2]
 |[],_::_,hh=>hh.elim
 |_::_,[],hh=>hh.elim
theorem Mg (r:Rel P G m F K h w) {t ty:TypeId} {ts:Array TypeId} {tl:List TypeId} (hts:ts.toList=t::tl) {d:TypeDesc} (ht:P.underlying t=some d) {x x':Value} (hx:aF m x=some x') (e:Tj h d x=some v):
  wD P m v w ((do pure (.value (← Builtin.len_ ts ty #[x'])):Sem Next).run P w):=by
 have h0:ts[0]? =some t:=by rw [← Array.getElem?_toList,hts]; rfl
 unfold Tj at e;split at e
 ·rename_i s
  cases e;obtain rfl:=eX hx;exact .aT (v':= .int .i64 s.size) (by simp [Builtin.len_,h0,aD ht,goInt]) (by simp [aF])
 ·rename_i el b n c
  cases e;cases b with
  |none=>
   obtain rfl:_=x':=by simpa [aF] using hx
   exact .aT (v':= .int .i64 n) (by simp [Builtin.len_,h0,aD ht,goInt]) (by simp [aF])
  |some b=>
   obtain ⟨b',_,rfl⟩:=cS hx;exact .aT (v':= .int .i64 n) (by simp [Builtin.len_,h0,aD ht,goInt]) (by simp [aF])
 ·cases e
  obtain rfl:_=x':=by simpa [aF] using hx
  exact .aT (v':= .int .i64 0) (by simp [Builtin.len_,h0,aD ht,goInt]) (by simp [aF])
 ·rename_i k el q
  split at e
  ·rename_i i hb
   split at e
   ·rename_i es hi
    cases e;simp only [aF,hb] at hx;cases h1:m i with
    |none=>rw [h1] at hx; cases hx
    |some b=>
    rw [h1] at hx;obtain ⟨ms,cl,h2,h3,h4⟩:=r.obj i _ hi b h1;have hx':x'= .map (some b.af):=(Option.some.inj hx).symm;subst hx';have hsz:ms.size=es.length:=by simpa using Eu h4
    exact .aT (v':= .int .i64 es.length) (by simp [Builtin.len_,h0,aD ht,goInt,getObj,Sem.run,h3,hsz]) (by simp [aF])
   ·cases e
  ·cases e
 ·cases e
theorem KG: ∀ (cs l:List Value) (j:Nat),(AU cs l)[j]? =if j<l.length∧j<cs.length then l[j]? else cs[j]?
 |cs,[],j=>by simp [AU]
 |[],v::l,j=>by simp [AU]
 |c::cs,v::l,j=>by
  cases j with
  |zero=>simp [AU]
  |succ j=>simp only [AU,List.getElem?_cons_succ,KG cs l j,List.length_cons,Nat.add_lt_add_iff_right]
theorem mO (l:List Value): ∀ (k:Nat) (cs:List Value) (j:Nat),(putAt l k cs)[j]? =if k≤j∧j<k+l.length∧j<cs.length then l[j - k]? else cs[j]?
 |0,cs,j=>by simp only [putAt,KG,Nat.zero_le,true_and,Nat.zero_add,Nat.sub_zero]
 |k+1,[],j=>by simp [putAt]
 |k+1,c::cs,j=>by
  cases j with
  |zero=>simp [putAt]
  |succ j=>
   simp only [putAt,List.getElem?_cons_succ,mO l k cs j,List.length_cons,Nat.add_le_add_iff_right,Nat.add_lt_add_iff_right];by_cases hh:k≤j∧j<k+l.length∧j<cs.length
   ·rw [if_pos hh,if_pos ⟨hh.1,by omega,hh.2.2⟩]; congr 1; omega
   ·rw [if_neg hh,if_neg (by intro ⟨x,y,z⟩; exact hh ⟨x,by omega,z⟩)]
theorem Ba (l:List Value) (k:Nat) (cs:List Value):(putAt l k cs).length=cs.length:=by
 have h1: ∀ j:Nat,(putAt l k cs)[j]? =none↔cs[j]? =none:=by
  intro j;rw [mO];by_cases hh:k≤j∧j<k+l.length∧j<cs.length
  ·rw [if_pos hh]; simp; omega
  ·rw [if_neg hh]
 have a:=(h1 (putAt l k cs).length);have b:=(h1 cs.length);simp at a b;omega
theorem Bb {m:aa}: ∀ {l l':List Value},l.length=l'.length→(∀ (i:Nat) (v v':Value),l[i]? =some v→l'[i]? =some v'→aF m v=some v')→aO m l=some l'
 |[],[],_,_=>rfl
 |v::l,v'::l',hl,hg=>by
  simp only [aO,hg 0 v v' rfl rfl,Bb (l:=l) (l':=l') (by simpa using hl) (fun i a b h1 h2=>hg (i+1) a b (by simpa using h1) (by simpa using h2))]
 |[],_::_,hl,_=>by simp at hl
 |_::_,[],hl,_=>by simp at hl
theorem Dk (off:Nat): ∀ (l:List Value) (s:Nat) (cs:Array Value),(((l.zipIdx s).foldl (fun cs (c,j)=>cs.setIfInBounds (off+j) c) cs)).toList=putAt l (off+s) cs.toList
 |[],s,cs=>by
  simp only [List.zipIdx_nil,List.foldl_nil];apply List.ext_getElem?;intro j;rw [mO,if_neg (by simp only [List.length_nil]; omega)]
 |v::l,s,cs=>by
  simp only [List.zipIdx_cons,List.foldl_cons];rw [Dk off l (s+1)];apply List.ext_getElem?;intro j;rw [mO,mO];simp only [Array.toList_setIfInBounds,List.length_set,List.length_cons];by_cases h1:off+(s+1)≤j∧j<off+(s+1)+l.length∧j<cs.toList.length
  ·rw [if_pos h1,if_pos ⟨by omega,by omega,h1.2.2⟩,show j - (off+s)=(j - (off+(s+1)))+1 by omega,List.getElem?_cons_succ]
  ·rw [if_neg h1,List.getElem?_set]
   by_cases h2:off+s=j
   ·subst h2
    by_cases h3:off+s<cs.toList.length
    ·rw [if_pos rfl,if_pos h3,if_pos ⟨by omega,by omega,h3⟩]; simp
    ·rw [if_pos rfl,if_neg h3,if_neg (by omega),List.getElem?_eq_none (by omega)]
   ·rw [if_neg h2]
    rw [if_neg (by omega)]
def Tz (m:aa) (place:Nat→Option (Nat×Nat)):List (Nat×List Value)→List (Nat×Value)→Prop
 |[],[]=>True
 |p::ps,q::qs=>(aO m p.2=some q.2.cells.toList∧place q.1=some (p.1,p.2.length))∧Tz m place ps qs
 |_,_=>False
theorem uy {place:Nat→Option (Nat×Nat)}: ∀ (ps:List (Nat×List Value)) (parts:List (Nat×Value)) (cs:List Value) (cc:Array Value) (l:List Value),
  jT ps cs=some l→aO m cs=some cc.toList→Tz m place ps parts→
  ∃ OE,Instr.fill place cc parts=some OE∧aO m l=some OE.toList
 |[],_::_,cs,cc,l,hf,hc,h2=>h2.elim
 |_::_,[],cs,cc,l,hf,hc,h2=>h2.elim
 |[],[],cs,cc,l,hf,hc,h2=>by
  simp only [jT,Option.some.injEq] at hf;subst hf;exact ⟨cc,rfl,hc⟩
 |(off,p)::ps,(i,x)::qs,cs,cc,l,hf,hc,h2=>by
   obtain ⟨h3,h4⟩:=h2;simp only [jT] at hf;cases hb:Nat.ble (off+p.length) cs.length with
   |false=>rw [hb] at hf; cases hf
   |true=>
    rw [hb] at hf;dsimp only at hf;have hle:=cx hb;obtain ⟨h5,h6⟩:=h3;dsimp only at h5 h6;have hl1:=c9 h5;have C5:=c9 hc;simp only [Array.length_toList] at hl1 C5;have hxs:x.cells.zipIdx.foldl (fun cs (c,j)=>cs.setIfInBounds (off+j) c) cc=⟨putAt x.cells.toList off cc.toList⟩:=by
     apply Array.ext';rw [← Array.foldl_toList,Array.toList_zipIdx];have:=Dk off x.cells.toList 0 cc;simpa using this
    obtain ⟨OE,h7,h8⟩:=uy (place:=place) ps qs (putAt p off cs) ⟨putAt x.cells.toList off cc.toList⟩ l hf (Bb (by simp [Ba,C5]) (fun j u u' hu UQ=>by
     simp only at UQ;rw [mO] at hu UQ;simp only [Array.length_toList,hl1,C5] at UQ;by_cases hh:off≤j∧j<off+p.length∧j<cs.length
     ·rw [if_pos hh] at hu UQ
      obtain ⟨z,hz1,OF⟩:=jW h5 _ _ hu;rw [OF] at UQ;cases UQ;exact hz1
     ·rw [if_neg hh] at hu UQ
      obtain ⟨z,hz1,OF⟩:=jW hc _ _ hu;rw [OF] at UQ;cases UQ;exact hz1)) h4
    refine ⟨OE, ?_,h8⟩;simp only [Instr.fill,h6];rw [if_neg (by simp; omega),hxs];exact h7
end
end Go.Sim
namespace Go.Sim
variable {P:Program} {G:Nat→Option (List Value)}
section
variable {m:aa} {F:Nat→Prop} {K:World} {h h':Hp} {w:World} {nt:Nat} {tm:TM} {a:Act} {v:Value}
theorem OG {α β:Type} (f:α→Sem β) (g:α→β) (w:World): ∀ (l:List α),(∀ x∈l,(f x).run P w= .ok (g x) w)→(l.mapM f).run P w= .ok (l.map g) w
 |[],_=>by simp
 |x::l,h=>by
  rw [List.mapM_cons];simp [h x (List.mem_cons_self ..),OG f g w l (fun y hy=>h y (List.mem_cons_of_mem _ hy))]
theorem KH {α β:Type} (f:α→Sem β) (g:α→β) (w:World) (l:Array α) (h: ∀ x∈l.toList,(f x).run P w= .ok (g x) w):(l.mapM f).run P w= .ok (l.map g) w:=by
 rw [Array.mapM_eq_mapM_toList];simp [OG f g w l.toList h];apply Array.ext'; simp
theorem uz: ∀ {l:List Field},fO P l=true→ ∀ f∈l, ∃ n,aV P f.type=some n
 |[],_,f,hf=>by cases hf
 |g::l,h,f,hf=>by
  simp only [fO] at h;cases hg:aV P g.type with
  |none=>rw [hg] at h; cases h
  |some n=>
   rw [hg] at h;rcases List.mem_cons.1 hf with rfl|hf
   ·exact ⟨n,hg⟩
   ·exact uz h f hf
theorem qM {a:Act} (rt:bU m nt tm a.tmps) {fs:Array Field}: ∀ {parts:List (Nat×Operand)} {ps:List (Nat×List Value)},bH P tm fs.toList parts=some ps→
  Tz m ((fs.map fun f=>(f.offset,(aV P f.type).getD 0))[·]?) ps (parts.map fun (i,x)=>(i,a.eval x))
 |[],ps,h=>by simp only [bH,Option.some.injEq] at h; subst h; trivial
 |(i,x)::l,ps,h=>by
  simp only [bH] at h;split at h
  ·rename_i f v r hf hv hr
   split at h
   ·rename_i n hn
    split at h
    ·rename_i hq
     cases h;refine ⟨⟨hY (az rt hv), ?_⟩,qM rt hr⟩;have hf':fs[i]? =some f:=by simpa using hf
     simp [hf',hn,br hq]
    ·cases h
   ·cases h
  ·cases h
theorem mP {a:Act} (rt:bU m nt tm a.tmps) {size:Nat}: ∀ {parts:List (Nat×Operand)} {ps:List (Nat×List Value)},cy tm size parts=some ps→
  Tz m (fun i=>some (i*size,size)) ps (parts.map fun (i,x)=>(i,a.eval x))
 |[],ps,h=>by simp only [cy,Option.some.injEq] at h; subst h; trivial
 |(i,x)::l,ps,h=>by
  simp only [cy] at h;split at h
  ·rename_i v r hv hr
   split at h
   ·rename_i hq
    cases h;exact ⟨⟨hY (az rt hv),by simp [br hq]⟩,mP rt hr⟩
   ·cases h
  ·cases h
theorem G0 (r:Rel P G m F K h w) {a:Act} (rt:bU m nt tm a.tmps) {t:TypeId} {fs:Array Field} {parts:Array (Nat×Operand)} {z l:List Value} {ps:List (Nat×List Value)}
  (hz:zeroCells P t=some z) (ht:P.underlying t=some (.struct fs)) (hs:fO P fs.toList=true) (hp:bH P tm fs.toList parts.toList=some ps) (hf:jT ps z=some l):
  wD P m (.agg ⟨l⟩) w ((do pure (.value (← Instr.build t (parts.map fun (i,x)=>(i,a.eval x)))):Sem Next).run P w):=by
 obtain ⟨u,h1,h2,rfl⟩:=h_ hz;obtain ⟨cc,h3,h4⟩:=uy _ _ _ u.cells _ hf (hY (bP m u h2)) (qM (P:=P) rt hp);refine .aT (v':= .agg cc) ?_ (by obtain ⟨cl⟩:=cc; simp only [aF,h4]);have hm:=KH (P:=P) (fun f:Field=>(do pure (f.offset, ←sizeOf f.type):Sem (Nat×Nat))) (fun f=>(f.offset,(aV P f.type).getD 0)) w fs (fun f hf=>by
  obtain ⟨n,hn⟩:=uz hs f hf;simp [aW hn,hn])
 simp only [Instr.build,Sem.run_bind,bW h1,Result.andThen_ok,aD ht,hm,Array.toList_map];rw [h3];rfl
theorem JL (r:Rel P G m F K h w) {a:Act} (rt:bU m nt tm a.tmps) {t e:TypeId} {n size:Nat} {parts:Array (Nat×Operand)} {z l:List Value} {ps:List (Nat×List Value)}
  (hz:zeroCells P t=some z) (ht:P.underlying t=some (.array n e)) (hn:aV P e=some size) (hp:cy tm size parts.toList=some ps) (hf:jT ps z=some l):
  wD P m (.agg ⟨l⟩) w ((do pure (.value (← Instr.build t (parts.map fun (i,x)=>(i,a.eval x)))):Sem Next).run P w):=by
 obtain ⟨u,h1,h2,rfl⟩:=h_ hz;obtain ⟨cc,h3,h4⟩:=uy _ _ _ u.cells _ hf (hY (bP m u h2)) (mP rt hp);refine .aT (v':= .agg cc) ?_ (by obtain ⟨cl⟩:=cc; simp only [aF,h4]);simp only [Instr.build,Sem.run_bind,bW h1,Result.andThen_ok,aD ht,aW hn,Array.toList_map];rw [h3];rfl
theorem wR (l:List Value): ∀ n,(eo n l).length=n*l.length
 |0=>by simp [eo]
 |n+1=>by rw [eo,List.length_append,wR l n,Nat.add_mul]; omega
theorem Ev (l:List Value): ∀ (n j:Nat),j<n*l.length→(eo n l)[j]? =l[j%l.length]?
 |0,j,h=>by omega
 |n+1,j,h=>by
  rw [eo];by_cases hj:j<l.length
  ·rw [List.getElem?_append_left hj,Nat.mod_eq_of_lt hj]
  ·rw [List.getElem?_append_right (by omega),Ev l n (j - l.length) (by rw [Nat.add_mul] at h; omega)]
   congr 1
   rw [← Nat.mod_eq_sub_mod (by omega)]
theorem oU {l:List Value} (hl:bL.iV l=true): ∀ n,bL.iV (eo n l)=true
 |0=>rfl
 |n+1=>by
  have app: ∀ a:List Value,bL.iV a=true→ ∀ b,bL.iV b=true→bL.iV (a++b)=true:=by
   intro a;induction a with
   |nil=>intro _ b hb; exact hb
   |cons x a ih=>
    intro ha b hb;simp only [bL.iV] at ha;cases hx:bL x with
    |false=>rw [hx] at ha; cases ha
    |true=>rw [hx] at ha; simp only [List.cons_append,bL.iV,hx]; exact ih ha b hb
  exact app l hl _ (oU hl n)
theorem Dl {zc:Array Value} {n size:Nat} (hz:zc.size=size):(((Array.range (n*size)).map (zc[· %zc.size]!)).toList)=eo n zc.toList:=by
 apply List.ext_getElem?;intro j;by_cases hj:j<n*size
 ·rw [Ev _ _ _ (by simpa [hz] using hj)]
  have hpos:0<size:=by rcases Nat.eq_zero_or_pos size with h|h; subst h; omega; exact h
  have hlt:j%zc.size<zc.size:=Nat.mod_lt _ (by omega);simp [hj,hz,getElem!_pos,hlt];rw [← hz];simp [hlt,getElem!_pos]
 ·rw [List.getElem?_eq_none (by simp; omega),List.getElem?_eq_none (by rw [wR]; simp [hz]; omega)]
theorem sx {t:TypeId} {l:List Value} (hz:zeroCells P t=some l): ∃ u,bA P t=some u∧bL u=true∧u.cells.toList=l:=by
 obtain ⟨u,h1,h2,rfl⟩:=h_ hz;exact ⟨u,h1,h2,lE h2⟩
theorem G1 {e:TypeId} {l l':List Value} {len cap:Nat} (hl:aO m l=some l') {b:Option Addr} (hc:qF h e l=(.pointer b,h')) {s:Sem Value}
  (hs:s.run P w= .ok (.slice (some ⟨w.heap.size,0,none⟩) len cap) (w.alloc (.cells ⟨l'⟩ e))):
  ZT P m F h h' (.slice b len cap) w ((do pure (.value (← s)):Sem Next).run P w):=by
 refine ⟨_,_, ?_,aU hs⟩;obtain ⟨obj,OC,h1,h2,h3,h4⟩:=zX (P:=P) (F:=F) w hl hc;refine ⟨obj,OC,h1,h2,fun m' he hm=> ?_,h4⟩;have:=h3 m' he hm;unfold qF at hc;cases hc;obtain ⟨a',g1,g2⟩:=cq this;cases g2;simp only [aF,g1,A8,Nat.add_zero]
theorem sy {a:Act} (rt:bU m nt tm a.tmps) {t e:TypeId} {len size:Nat} {parts:Array (Nat×Operand)} {z l:List Value} {ps:List (Nat×List Value)} {b:Option Addr}
  (ht:P.underlying t=some (.slice e)) (hn:aV P e=some size) (hz:zeroCells P e=some z) (hzl:z.length=size) (hlen:len*size≤16777216) (hp:cy tm size parts.toList=some ps) (hf:jT ps (eo len z)=some l) (hc:qF h e l=(.pointer b,h')):
  ZT P m F h h' (.slice b len len) w ((do pure (.value (← Instr.buildSlice t len (parts.map fun (i,x)=>(i,a.eval x)))):Sem Next).run P w):=by
 obtain ⟨u,h1,h2,h3⟩:=sx hz;have abU:u.cells.size=size:=by rw [← hzl, ←h3]; simp
 have hna:bL.iV z=true:=by rw [← h3,lE h2]; exact Es h2
 obtain ⟨cc,h4,h5⟩:=uy _ _ _ (((Array.range (len*size)).map (u.cells[· %u.cells.size]!))) _ hf (by rw [Dl abU,h3]; exact eP m _ (oU hna _)) (mP rt hp);have hlt: ¬ len*size>2 ^ 24:=by omega
 refine G1 h5 hc ?_;by_cases h0:len*size=0
 ·have hr: ∀ zz:Array Value,((Array.range (len*size)).map (zz[· %zz.size]!))= #[]:=by intro zz; rw [h0]; simp
  rw [hr] at h4;simp only [Instr.buildSlice,Sem.run_bind,aD ht,Result.andThen_ok,aW hn,if_neg hlt,if_pos h0,Sem.run_pure,hr,Array.toList_map,h4];simp [newRow]
 ·simp only [Instr.buildSlice,Sem.run_bind,aD ht,Result.andThen_ok,aW hn,if_neg hlt,if_neg h0,Sem.run_pure,Array.toList_map,h4,bW h1]
  simp [newRow]
theorem uA {t e:TypeId} {lv cv l' c':Value} {l c size bytes:Nat} {z:List Value} {b:Option Addr} (ht:P.underlying t=some (.slice e)) (hn:aV P e=some size) (hby:fP P e=some bytes)
  (hz:zeroCells P e=some z) (hzl:z.length=size) (hl:cm lv=some l) (hc:cm cv=some c) (hl':aF m lv=some l') (hc':aF m cv=some c') (hle:l≤c) (hcap:bytes*c+c≤281474976710656) (hnew:qF h e (eo c z)=(.pointer b,h')):
  ZT P m F h h' (.slice b l c) w ((do pure (.value (← Instr.makeSlice t l' c')):Sem Next).run P w):=by
 obtain ⟨k1,rfl⟩:=jH hl;obtain ⟨k2,rfl⟩:=jH hc;obtain rfl:=gC hl';obtain rfl:=gC hc';obtain ⟨i,hi,rfl⟩:=wP hby w;obtain ⟨u,h1,h2,h3⟩:=sx hz;have abU:u.cells.size=size:=by rw [← hzl, ←h3]; simp
 have hna:bL.iV z=true:=by rw [← h3,lE h2]; exact Es h2
 have wl:IntKind.i64.wrap (l:Int)=l:=IntWalk.i64_in _ (by omega);have wc:IntKind.i64.wrap (c:Int)=c:=IntWalk.i64_in _ (by omega);have h2i:=Di hn hi;have h3i:=GZ h1 hi;refine G1 (eP m _ (oU hna c)) hnew ?_;have t1:((c:Int)<0||(i.bytes:Int)*c>2 ^ 48)=false:=by
  have:(i.bytes:Int)*c=((i.bytes*c:Nat):Int):=by push_cast; rfl
  rw [this];simp; omega
 have t2: ¬ (((c:Int)<0||(i.bytes:Int)*c>2 ^ 48)||(l:Int)<0||(l:Int)>c)=true:=by
  rw [t1]; simp; omega
 have hrow:=Dl (zc:=u.cells) (n:=c) abU;rw [h3] at hrow;have W6:((Array.range (c*size)).map (u.cells[· %u.cells.size]!))=⟨eo c z⟩:=by
  apply Array.ext'; exact hrow
 simp only [Instr.makeSlice,Sem.run_bind,aD ht,Result.andThen_ok,asInt,asIntOf,Sem.run_pure,typeInfo,run_program,hi,wl,wc,if_neg t2,run_askRoom,Int.toNat_natCast,sizeOf,h2i];by_cases h0:c*size=0
 ·have hr: ∀ zz:Array Value,((Array.range (c*size)).map (zz[· %zz.size]!))= #[]:=by intro zz; rw [h0]; simp
  rw [hr] at W6;simp only [if_pos h0,Sem.run_pure,Result.andThen_ok,hr,newRow,Sem.run_bind,run_newObj];rw [W6]; rfl
 ·simp only [if_neg h0,Sem.run_bind,bW h1,Sem.run_pure,Result.andThen_ok,newRow,run_newObj]
  rw [W6]; rfl
end
end Go.Sim
